/- Merged texts of this proof (walks and plain laws), printed by a program of the prover. -/
import Derived.Test.YtaeagngfhceceaaGreatDoorZd
import Derived.Test.YtaeagngfhceceaaGreatDoorZa
import Derived.Test.YtaeagngfhceceaaGreatDoorZb
import Derived.Test.YtaeagngfhceceaaGreatDoorZc
import Derived.Test.YtaeagngfhceceaaGreatDoorZaa
set_option maxHeartbeats 8000000
namespace Go.Proofs.YtaeagngfhceceaaGreatDoor
open Go.RowKit Go.Proofs
set_option maxRecDepth 100000
set_option linter.unusedVariables false
set_option linter.unusedSimpArgs false
theorem codesI_k (lw ls : Int) (w0 : World) (b : Nat) (hL : lockB lw ls = true) :
  Iter Tryz.prog w0 132 [.pointer (some ⟨b, 0, none⟩)] [blk b [.int .i64 lw, .int .i64 ls] 116] (fun v x => oints 3 v x) (allC lw ls) := by
 intro lp C Cx hy u hu
 have hl := lock_of hL
 have hp := manyC_pow (w := lw) hl.2.2.1
 refine enterI hu Tryz.func132 rfl rfl (Nat.le_of_ble_eq_true rfl) ?_
 refine Nz 1 ?_
 refine Wk 0 (Ba 1) ?_
 refine WS.makeInts sl42 rfl rfl zv3 (by omega) (by omega) (by omega) (fun _ => rfl) ?_; intro v7
 refine Wz 1 ?_
 refine Wd (Qc (Ce ?_))
 refine CS.loopM (σ := Nat) [4, 8, 9, 10, 11, 12, 13, 14, 15, 16, 17, 18, 19, 20, 21, 22, 23, 24, 25, 26, 27, 28, 29, 30, 31, 32, 33, 34, 35, 36, 37, 38, 39] (fun s => []) (fun s => [oints 3 v7 (codeAt lw ls s), C ((allC lw ls).take s), blk b [.int .i64 lw, .int .i64 ls] 116]) (fun s => s < manyC lw ls) (fun s => manyC lw ls - s) 0 (fun _ _ => rfl) rfl (by simp [codeAt_zero]) (manyC_pos hL) ?_
 intro n t hs
 have hn := hs
 refine Ce (Cs (Nz 2 ?_))
 refine WS.yield (L' := fun b' => [oints 3 v7 (codeAt lw ls n), cond b' (C ((allC lw ls).take (n + 1))) (Cx ((allC lw ls).take (n + 1))), blk b [.int .i64 lw, .int .i64 ls] 116]) rfl rfl rfl (fun u hu => by rw [allC_take hn]; exact yield_lent (hy _ _ _ (allC_split hn) _ _ u (hu.perm (.swap _ _ _)))) (fun _ => rfl) ?_; intro b'
 refine Wz 1 ?_
 refine Wd (Qc (CS.cond rfl ?_ ?_))<;>intro hc1<;>try simp only [bq] at hc1
 ·
  subst hc1
  exact Cr (Qr (Qs (Qr (Qs (out0 (Or.inl rfl) rfl (fun u hu => ⟨⟨_, rfl⟩, .inr ⟨_, _, _, allC_split hn, by rw [← allC_take hn]; exact hu.tail⟩⟩))))))
 ·
  subst hc1
  refine Ck (Qc (Nz 1 ?_))
  refine Wk 0 (Ba 2) ?_
  refine Wk 1 Zb ?_
  refine Wd (Qc (Cs (Ce ?_)))
  refine CS.loopM (σ := Int × Int × List Int) [15, 16, 17, 18, 19, 20, 21, 22, 23, 24, 25, 26, 27, 28, 29, 30, 31] (fun s => [(4, .int .i64 s.1)]) (fun s => [oints 3 v7 s.2.2, C ((allC lw ls).take (n + 1)), blk b [.int .i64 lw, .int .i64 ls] 116]) (fun s => Odo lw.toNat ls n s.1 s.2.1 s.2.2) (fun s => (s.1 + 1).toNat) (lw - 1, n, codeAt lw ls n) (fun _ _ => rfl) rfl rfl (Odo.start' (by omega) (by omega)) ?_
  intro q t hs
  have hq := hs.len
  have hq2 := hs.lo
  have hq3 := hs.hi
  refine Cs (Cs (Dr mixed 3 ?_))
  refine Dt 0 rfl rfl (fun hg => Fm) ?_
  refine Dt 0 rfl rfl (fun hg => Fm) ?_
  refine Dt 0 rfl rfl (fun hg => Xb 0 (eg_ hg rfl)) ?_
  refine Dt 0 rfl rfl (fun hg => Ib 0) ?_
  refine Dt 0 rfl rfl (fun hg => Ff) ?_
  refine Dt 0 rfl rfl (fun hg => Ba 2) ?_
  refine Dt 0 rfl rfl (fun hg => Zb) ?_
  refine Dt 0 rfl rfl (fun hg => Fq) ?_
  refine Dk 0 Pa ?_
  refine Dd (Qc (CS.cond rfl ?_ ?_))<;>intro hc2<;>try simp only [bq] at hc2
  ·
   refine Ck (Qc (Ce (Nz 2 ?_)))
   refine Wk 0 (Xb 0) ?_
   refine WS.storeOI (j := 0) rfl rfl (by omega) rfl tk3 rfl ?_
   refine Wd (Qc (Ny 1 ?_))
   refine Wk 1 Zb ?_
   exact Wd (Qb (QS.head ((q.1 - 1, q.2.1 / ls, q.2.2.set q.1.toNat 0)) rfl rfl ⟨hs.back hc2.1 (by omega) hc2.2, by simp; omega⟩))
  ·
   refine Cv (Qe (Qe (Qx (Qc (Cs (Nz 2 ?_))))))
   refine Wd (Qc (CS.cond rfl ?_ ?_))<;>intro hc3<;>try simp only [bq] at hc3
   ·
    have he := hs.end_ hc3 (by omega) (by omega)
    exact Cr (Qr (Qs (Qr (Qs (out0 (Or.inl rfl) rfl (fun u hu => ⟨⟨_, rfl⟩, .inl (by have e := allC_all (w := lw) (s := ls) (n := n + 1) (by omega); rw [e] at hu; exact hu.tail)⟩))))))
   ·
    have hd : ¬ nth q.2.2 q.1 = ls - 1 := by omega
    have hbd := hs.bd (by omega) (by omega)
    refine Ck (Qc (Ny 2 ?_))
    refine Wk 0 (Xb 0) ?_
    refine Wk 0 (Ib 0) ?_
    refine Wk 0 Za ?_
    refine Wk 0 (Xb 0) ?_
    refine WS.storeOI (j := 0) rfl rfl (by omega) rfl tk3 rfl ?_
    exact Wd (Qb (QS.head (n + 1) rfl (by rw [hs.next (by omega) (by omega) hd]; rfl) ⟨by have := hs.more (by omega) (by omega) hd (by omega); omega, by omega⟩))
end Go.Proofs.YtaeagngfhceceaaGreatDoor
set_option maxHeartbeats 8000000
namespace Go.Proofs.YtaeagngfhceceaaGreatDoor
open Go.RowKit Go.Proofs
set_option maxRecDepth 100000
set_option linter.unusedVariables false
set_option linter.unusedSimpArgs false
theorem codes_k (lw ls : Int) (w : World) :
  Calls Tryz.prog 74 #[.agg #[.int .i64 lw, .int .i64 ls]] w (fun e w' => ∃ b : Nat, True ∧ RetF w (.func (.func 132) #[] #[.pointer (some ⟨b, 0, none⟩)]) (blk b [.int .i64 lw, .int .i64 ls] 116) e w') := by
 refine enter Tryz.func74 rfl rfl (Nat.le_of_ble_eq_true rfl) ?_
 refine Nz 0 ?_
 refine Wb 1 rfl rfl (fun _ => rfl) (fun _ => rfl) fun b1 hb1 => ?_
 refine Wd (Qc (Nz 0 ?_))
 refine Wk 1 (det_makeFunc rfl) ?_
 exact Wd (Qc (Cr (out1 rfl rfl (fun u hu => ⟨b1, trivial, retF (j := 0) rfl u hu⟩))))
theorem readings_k (lw ls : Int) (cs : List Clue) (gs : List Value) (cv : Value) (w : World) (hk : ClS w cv cs gs) :
  Calls Tryz.prog 78 #[.agg #[.int .i64 lw, .int .i64 ls], cv] w (fun e w' => ∃ b : Nat × Nat, True ∧ RetF w (.func (.func 135) #[] #[.pointer (some ⟨b.1, 0, none⟩), .pointer (some ⟨b.2, 0, none⟩)]) (star [blk b.1 [.int .i64 lw, .int .i64 ls] 116, blk b.2 [cv] 46]) e w') := by
 obtain ⟨_, p, cap, rfl, _⟩ := hk.sp
 refine enter Tryz.func78 rfl rfl (Nat.le_of_ble_eq_true rfl) ?_
 refine Nz 0 ?_
 refine Wb 0 rfl rfl (fun _ => rfl) (fun _ => rfl) fun b2 hb2 => ?_
 refine Wb 1 rfl rfl (fun _ => rfl) (fun _ => rfl) fun b3 hb3 => ?_
 refine Wd (Qc (Nz 0 ?_))
 refine Wk 1 (det_makeFunc rfl) ?_
 exact Wd (Qc (Cr (out1 rfl rfl (fun u hu => ⟨(b2, b3), trivial, retFs hu (.swap _ _ _)⟩))))
theorem readingsI_k (lw ls : Int) (cs : List Clue) (gs : List Value) (cv : Value) (w0 : World) (b1 b2 : Nat) (hL : lockB lw ls = true) (hk : ClS w0 cv cs gs) (hC : ∀ c ∈ cs, clueB lw ls c = true) :
  Iter Tryz.prog w0 135 [.pointer (some ⟨b1, 0, none⟩), .pointer (some ⟨b2, 0, none⟩)] [blk b1 [.int .i64 lw, .int .i64 ls] 116, blk b2 [cv] 46] (fun v x => oints 3 v x) (readL lw ls cs) := by
 obtain ⟨hkl, pp, cap, hpv, hkr⟩ := hk.sp
 subst hpv
 replace hk : ClS w0 (.slice pp cs.length cap) cs gs := ⟨⟨hkl, _, _, rfl, hkr⟩, hk.len, hk.el⟩
 clear hkl hkr
 obtain ⟨cv, hcv⟩ : ∃ cv, cv = Value.slice pp cs.length cap := ⟨_, rfl⟩
 rw [← hcv] at hk ⊢
 intro lp C Cx hy u hu
 refine enterM hu Tryz.func135 rfl rfl (Nat.le_of_ble_eq_true rfl) ?_
 refine Nz 0 ?_
 refine Wb 0 rfl rfl (fun _ => rfl) (fun _ => rfl) fun b3 hb3 => ?_
 refine Wd (Qc (Nz 0 ?_))
 refine Wk 0 (Bb 2) ?_
 refine Wc rfl rfl ent74 (fun u hu => codes_k _ _ u) (fun _ => rfl) ?_; intro bc _
 refine Wd (Qc (Ce ?_))
 refine CS.perm (L' := [C [], blk b3 [.func (.yield lp) #[] #[]] 182, blk b1 [.int .i64 lw, .int .i64 ls] 116, blk b2 [cv] 46] ++ [blk bc [.int .i64 lw, .int .i64 ls] 116]) ((List.perm_append_comm (l₁ := [_]) (l₂ := [_, _, _, _])).trans (.swap _ _ _)) ?_
 refine CS.rangeA (A := [blk bc [.int .i64 lw, .int .i64 ls] 116]) rfl ent132 (codesI_k lw ls w0 bc hL) (fun pre => [C (pre.filter (fitB cs)), blk b3 [.func (.yield lp) #[] #[]] 182, blk b1 [.int .i64 lw, .int .i64 ls] 116, blk b2 [cv] 46]) (fun c pre => match c with | .ret => [Cx (pre.filter (fitB cs)), fact (∀ q z, pre = q ++ [z] → fitB cs z = true), blk b1 [.int .i64 lw, .int .i64 ls] 116, blk b2 [cv] 46] | _ => [fact False]) (fun _ => rfl) (Nat.le_of_ble_eq_true rfl) (fun _ => rfl) ?_ ?_ ?_
 ·
  intro lr pre x post v F hall
  have hx : codeB lw ls x = true := allC_mem hL (by rw [hall]; simp)
  refine Ce (Nz 0 ?_)
  refine Wk 1 (Ba 4) ?_
  refine Wk 2 (Cb rfl rfl ent70 (fun u hu => fails_k lw ls cs gs cv x v u (fun c hc => ⟨hL, hC c hc, hx⟩) (hk.st hu) (oints_SlI hu (j := 0) rfl))) ?_
  rcases hB : decide (failsT cs x < 0) with _ | _
  ·
   refine WS.unwanted rfl rfl rfl ?_
   refine WS.unwanted rfl rfl rfl ?_
   refine WS.unwanted rfl rfl rfl ?_
   refine WS.unwanted rfl rfl rfl ?_
   refine WS.det rfl rfl rfl (det_pick rfl) rfl ?_
   refine Wd (Qc ?_)
   refine CS.cond rfl (fun h => nomatch h) (fun _ => ?_)
   refine Ck (Qb ?_)
   exact fun u hu => by simp only [roundQ, fit_no hB]; exact hu
  refine WS.guardT rfl rfl rfl rfl (fun _ => det_loadb (j := 2) rfl rfl rfl tk182) rfl ?_
  refine WS.guardT rfl rfl rfl rfl (fun _ => det_move rfl) rfl ?_
  refine WS.yield (L' := fun b' => oints 3 v x :: cond b' (C (pre.filter (fitB cs) ++ [x])) (Cx (pre.filter (fitB cs) ++ [x])) :: [blk b3 [.func (.yield lp) #[] #[]] 182, blk b1 [.int .i64 lw, .int .i64 ls] 116, blk b2 [cv] 46, F]) rfl rfl rfl (fun u hu => yield_lentS (fun F' u' hu' => hy _ x _ (readL_split hall hB) F' v u' hu') hu) (fun _ => rfl) ?_
  intro b'
  refine WS.guardT rfl rfl rfl rfl (fun _ => det_not rfl) rfl ?_
  refine WS.det rfl rfl rfl (det_pick_and rfl rfl rfl) rfl ?_
  skip
  skip
  skip
  skip
  refine Wd (Qc (CS.cond rfl ?_ ?_))<;>intro hc1<;>try simp only [bq] at hc1
  ·
   obtain rfl : b' = false := by simpa using hc1
   refine Cr (Qs ?_)
   exact fun u hu => by
    simp only [roundQ, fit_yes hB]
    have h := St.factI (p := ∀ q z, pre ++ [x] = q ++ [z] → fitB cs z = true) (fun q z e => by obtain ⟨_, e2⟩ := List.append_inj' e rfl; simp at e2; rw [← e2]; exact hB) hu
    exact (h.perm (.swap _ _ _)).perm (.cons _ (.swap _ _ _)) |>.sub (.cons_cons _ (.cons_cons _ (.cons_cons _ (.cons _ (.cons_cons _ (.cons_cons _ (.cons_cons _ .slnil)))))))
  ·
   obtain rfl : b' = true := by simpa using hc1
   refine Ck (Qb ?_)
   exact fun u hu => by simp only [roundQ, fit_yes hB]; exact hu
 ·
  intro D
  refine Qb ?_
  exact outM (j := 0) (Or.inr rfl) rfl (res0 rfl) (fun u hu => ⟨⟨_, rfl⟩, .inl (hu.sub (.cons _ (.cons_cons _ (.cons _ (.cons_cons _ (.cons_cons _ (.cons _ .slnil)))))))⟩)
 ·
  intro D c pre x post hall
  cases c with
  | ret =>
   refine Cr (Qs ?_)
   exact outM (j := 0) (Or.inl rfl) rfl (res0 rfl) (fun u hu => ⟨⟨_, rfl⟩, .inr ⟨_, x, _, readL_split hall (hu.factE (j := 2) rfl pre x rfl), by rw [← fit_yes (hu.factE (j := 2) rfl pre x rfl)]; exact hu.sub (.cons _ (.cons_cons _ (.cons _ (.cons_cons _ (.cons_cons _ (.cons _ .slnil))))))⟩⟩)
  | _ => exact fun u hu => (hu.factE (j := 1) rfl).elim
end Go.Proofs.YtaeagngfhceceaaGreatDoor
set_option maxHeartbeats 8000000
namespace Go.Proofs.YtaeagngfhceceaaGreatDoor
open Go.RowKit Go.Proofs
set_option maxRecDepth 100000
set_option linter.unusedVariables false
set_option linter.unusedSimpArgs false
theorem count_k (lw ls : Int) (cs : List Clue) (gs : List Value) (cv : Value) (w : World) (hL : lockB lw ls = true) (hC : ∀ c ∈ cs, clueB lw ls c = true) (hk : ClS w cv cs gs) :
  Calls Tryz.prog 71 #[.agg #[.int .i64 lw, .int .i64 ls], cv] w (RetB w (.int .i64 (readL lw ls cs).length)) := by
 refine enterM St.nil Tryz.func71 rfl rfl (Nat.le_of_ble_eq_true rfl) ?_
 refine Nz 0 ?_
 refine Wb 0 rfl rfl (fun _ => rfl) (fun _ => rfl) fun b2 hb2 => ?_
 refine Wl 0 zv3 (fun _ => rfl) (fun _ => rfl) fun b4 hb4 => ?_
 refine Wd (Qc (Cs (Nz 0 ?_)))
 refine Wk 1 (Bb 1) ?_
 refine Wc rfl rfl ent78 (fun u hu => readings_k _ _ _ _ _ u (hk.st hu)) (fun _ => rfl) ?_; intro br _; refine WS.unpack ?_
 refine Wd (Qc (Ce ?_))
 refine CS.perm (L' := [blk b4 [.int .i64 0] 3, blk b2 [.int .i64 lw, .int .i64 ls] 116] ++ [blk br.1 [.int .i64 lw, .int .i64 ls] 116, blk br.2 [cv] 46]) (List.perm_append_comm (l₁ := [_, _]) (l₂ := [_, _])) ?_
 refine CS.rangeS (A := [blk br.1 [.int .i64 lw, .int .i64 ls] 116, blk br.2 [cv] 46]) rfl ent135 (readingsI_k lw ls cs gs cv w br.1 br.2 hL hk hC) (fun pre => [blk b4 [.int .i64 pre.length] 3, blk b2 [.int .i64 lw, .int .i64 ls] 116]) (fun c pre => match c with | _ => [fact False]) (fun _ => rfl) ?_ ?_ ?_
 ·
  intro lr pre x post v F hall
  have hb := readL_le hL cs
  rw [hall] at hb
  simp at hb
  refine Ce (Ny 0 ?_)
  refine Wk 0 (Ba 1) ?_
  refine Wk 0 Za ?_
  refine Ws 0 1 ?_
  refine Wd (Qb ?_)
  exact fun u hu => by simp only [roundQ, List.length_append, List.length_singleton]; exact hu
 ·
  intro D
  refine Qb (Qc (Nz 0 ?_))
  refine Wk 0 (Ba 1) ?_
  refine Ws 0 1 ?_
  refine Wd (Qc (Cr ?_))
  exact outM (j := 0) (Or.inl rfl) rfl (resc rfl (cell_rv (j := 1) rfl rfl rfl tk3)) (retB)
 ·
  intro D c pre x post hall
  cases c with
  | _ => exact fun u hu => (hu.factE (j := 1) rfl).elim
theorem Count_k (lw ls : Int) (cs : List Clue) (gs : List Value) (cv : Value) (w : World) (hk : ClS w cv cs gs) :
  Calls Tryz.prog 21 #[.agg #[.int .i64 lw, .int .i64 ls], cv] w (RetB w (.tuple #[.int .i64 (if cluesE lw ls cs = 0 then ((readL lw ls cs).length : Int) else 0), .int .i64 (cluesE lw ls cs)])) := by
 refine enter Tryz.func21 rfl rfl (Nat.le_of_ble_eq_true rfl) ?_
 refine Nz 0 ?_
 refine Wb 2 rfl rfl (fun _ => rfl) (fun _ => rfl) fun b2 hb2 => ?_
 refine Wd (Qc (Cs (Nz 0 ?_)))
 refine Wk 1 (Bb 0) ?_
 refine Wk 1 (Cb rfl rfl ent68 (fun u hu => checkClues_k _ _ _ _ _ u (hk.st hu))) ?_
 refine Wd (Qc (Nz 2 ?_))
 refine Wd (Qc (CS.cond rfl ?_ ?_))<;>intro hc1<;>try simp only [bq] at hc1
 ·
  refine Nz 3 ?_
  exact Wd (Qc (Cr (Qr (out2 rfl rfl rfl (retBe (by simp [hc1]))))))
 ·
  refine Ck (Qc (Nz 0 ?_))
  refine Wk 1 (Bb 0) ?_
  refine Wk 2 (Cb rfl rfl ent71 (fun u hu => count_k _ _ _ _ _ u (cluesE_lock hc1) (cluesE_clue hc1) (hk.st hu))) ?_
  exact Wd (Qc (Cr (out2 rfl rfl rfl (retBe (by simp [hc1])))))
end Go.Proofs.YtaeagngfhceceaaGreatDoor
set_option maxHeartbeats 8000000
namespace Go.Proofs.YtaeagngfhceceaaGreatDoor
open Go.RowKit Go.Proofs
set_option maxRecDepth 100000
set_option linter.unusedVariables false
set_option linter.unusedSimpArgs false
end Go.Proofs.YtaeagngfhceceaaGreatDoor
set_option maxHeartbeats 8000000
namespace Go.Proofs.YtaeagngfhceceaaGreatDoor
open Go.RowKit Go.Proofs
set_option maxRecDepth 100000
set_option linter.unusedVariables false
set_option linter.unusedSimpArgs false
theorem CloneI_k (xs : List Int) (v : Value) (w : World) (h1 : SlI w v xs) (hm : xs.length ≤ 1000000) :
  Calls Tryz.prog 79 #[v] w (fun e w' => ∃ v' : Value, v'.oneCell' = true ∧ RetF w v' (oints 3 v' xs) e w') := by
 obtain ⟨hl, p, cap, rfl, hcap, hp⟩ := h1
 have h1 : SlI w (.slice p xs.length cap) xs := ⟨hl, p, cap, rfl, hcap, hp⟩
 clear hl hcap hp
 refine enter Tryz.func79 rfl rfl (Nat.le_of_ble_eq_true rfl) ?_
 refine Nz 1 ?_
 refine Wd (Qc (Cs (Nz 1 ?_)))
 refine Wk 0 (det_eqnil sl42 rfl rfl) ?_
 refine Wd (Qc (CS.cond rfl ?_ ?_))<;>intro hc1<;>try simp only [bq] at hc1
 ·
  have hx0 : xs = [] := by
   have : p = none := by simpa using hc1
   subst this
   exact List.eq_nil_of_length_eq_zero (SlC.nil h1)
  subst hx0
  refine Nz 1 ?_
  exact Wd (Qc (Cr (Qr (out1 rfl rfl (fun u hu => ⟨_, rfl, retF (j := 0) rfl u hu.osl0⟩)))))
 ·
  refine Ck (Qc (Nz 0 ?_))
  refine WS.buildSlice1 sl42 zv3 (vs := []) rfl rfl (by decide) (by simp) (fun _ => rfl) ?_; intro v5
  refine Wz 1 ?_
  refine WS.appendI (j := 0) (xs := []) (ys := xs) sl42 zv3 rfl rfl rfl (fun u hu => h1.st hu) (by simp; omega) (by simp; omega) (fun _ => rfl) (fun _ => rfl) ?_; intro v7; refine WS.oc (j := 0) rfl (fun hv7 => ?_)
  refine Wz 1 ?_
  exact Wd (Qc (Cr (out1 rfl rfl (fun u hu => ⟨v7, hv7, retF (j := 0) rfl u hu⟩))))
theorem all_k (lw ls : Int) (cs : List Clue) (gs : List Value) (cv : Value) (w : World) (hL : lockB lw ls = true) (hC : ∀ c ∈ cs, clueB lw ls c = true) (hk : ClS w cv cs gs) :
  Calls Tryz.prog 72 #[.agg #[.int .i64 lw, .int .i64 ls], cv] w (fun e w' => ∃ x : Value × List Value, (∃ u0, SlL u0 x.1 (readL lw ls cs) x.2) ∧ RetF w x.1 (roL x.1 (readL lw ls cs) x.2) e w') := by
 refine enterM St.nil Tryz.func72 rfl rfl (Nat.le_of_ble_eq_true rfl) ?_
 refine Nz 0 ?_
 refine Wb 0 rfl rfl (fun _ => rfl) (fun _ => rfl) fun b2 hb2 => ?_
 refine Wl 0 zv33 (fun _ => rfl) (fun _ => rfl) fun b4 hb4 => ?_
 refine Wd (Qc (Cs (Nz 0 ?_)))
 refine Wk 1 (Bb 1) ?_
 refine Wc rfl rfl ent78 (fun u hu => readings_k _ _ _ _ _ u (hk.st hu)) (fun _ => rfl) ?_; intro br _; refine WS.unpack ?_
 refine Wd (Qc (Ce ?_))
 refine CS.sel [2, 2, 0, 0] rfl ?_
 refine CS.weak (L' := [exS fun q : Value => exS fun ps : List (Value × List Int) => star [blk b4 [q] 33, osl 42 1 q (ps.map (·.1)).length (ps.map (·.1)), star (loi 3 ps), fact (ps.map (·.2) = [])], blk b2 [.int .i64 lw, .int .i64 ls] 116] ++ [blk br.1 [.int .i64 lw, .int .i64 ls] 116, blk br.2 [cv] 46]) (fun u hu => St.exI (Value.slice none 0 0) (St.exI [] (St.pack (L1 := [_, _, _, _]) (((hu.oll0 (te := 42) (e := 3)).factI (p := (List.map (·.2) ([] : List (Value × List Int))) = []) rfl).sel [3, 1, 1, 0, 0, 0, 0] rfl)))) ?_
 refine CS.rangeA (A := [blk br.1 [.int .i64 lw, .int .i64 ls] 116, blk br.2 [cv] 46]) rfl ent135 (readingsI_k lw ls cs gs cv w br.1 br.2 hL hk hC) (fun pre => [exS fun q : Value => exS fun ps : List (Value × List Int) => star [blk b4 [q] 33, osl 42 1 q (ps.map (·.1)).length (ps.map (·.1)), star (loi 3 ps), fact (ps.map (·.2) = pre)], blk b2 [.int .i64 lw, .int .i64 ls] 116]) (fun kd pre => match kd with | _ => [fact False]) (fun _ => rfl) (Nat.le_of_ble_eq_true rfl) (fun _ => rfl) ?_ ?_ ?_
 ·
  intro lr pre x post v F hall
  have hx := (readL_mem hL (show x ∈ readL lw ls cs by rw [hall]; simp)).1
  have hx4 := (code_ten hL hx).1
  have hb := readL_le hL cs
  rw [hall] at hb
  simp at hb
  refine CS.sel [1, 0, 0, 0] rfl ?_
  refine CS.ex ?_; intro q
  refine CS.ex ?_; intro ps
  refine CS.unpack ?_
  refine CS.factE (j := 3) rfl (fun hq => ?_)
  have hpl := snd_len hq
  refine CS.sel [1, 1, 0, 1, 1, 1] rfl ?_
  refine Ce ?_
  refine CS.drawnTill 4 (k := 6) mixed rfl rfl ?_
  refine Tk 6 0 [1] rfl (Ba 2) ?_
  refine To 2 rfl ?_
  refine Wc rfl rfl ent79 (fun u hu => CloneI_k x v u (oints_SlI hu (j := 3) rfl) (by omega)) (fun _ => rfl) ?_; intro v12 hv12
  refine Wd (Qt ?_)
  refine To 3 rfl ?_
  refine WS.buildV1 sl33 zv42 rfl (by first | rfl | assumption) (fun _ => rfl) ?_; intro v13
  refine Wd (Qt ?_)
  refine To 4 rfl ?_
  refine WS.append1 (j := 2) (jz := 0) sl33 zv42 rfl rfl rfl rfl (by first | rfl | assumption) (by first | omega | (simp; omega) | (simp only [List.length_append, List.length_singleton, List.length_map, List.length_cons, List.length_nil] at *; omega)) (by first | omega | (simp; omega) | (simp only [List.length_append, List.length_singleton, List.length_map, List.length_cons, List.length_nil] at *; omega)) (fun _ => rfl) (fun _ => rfl) ?_; intro v14; refine WS.oc (j := 2) rfl (fun hv14 => ?_)
  refine Wd (Qt ?_)
  refine To 5 rfl ?_
  refine Ws 0 4 ?_
  refine Wd (Qt ?_)
  refine Te ?_
  refine Qb ?_
  refine QS.sel [2, 2, 1, 1, 1, 1, 1] rfl ?_
  exact fun u hu => by
   simp only [roundQ]
   have h1 := hu.ollSnoc.factI (snd_snoc (a := v12) (x := x) hq)
   have h2 := h1.sel [3, 1, 1, 0, 0, 0, 0] rfl
   refine St.perm ?_ (List.Perm.swap _ _ _)
   exact St.exI v14 (St.exI _ (St.pack (L1 := [_, _, _, _]) h2))
 ·
  intro D
  refine QS.sel [1, 0, 0, 0, 0] rfl ?_
  refine QS.ex ?_; intro q
  refine QS.ex ?_; intro ps
  refine QS.unpack ?_
  refine QS.factE (j := 3) rfl (fun hq => ?_)
  refine QS.sel [1, 1, 0, 1, 1, 1, 1] rfl ?_
  refine QS.oc (j := 0) rfl (fun hqv => ?_)
  refine Qb (Qc (Nz 0 ?_))
  refine Wk 0 (Ba 2) ?_
  refine Ws 0 2 ?_
  refine Wd (Qc (Cr ?_))
  exact outM (j := 3) (Or.inl rfl) rfl (resc rfl (cell_rv (j := 2) rfl rfl rfl tk33)) (retL (f := id) hq)
 ·
  intro D kd pre x post hall
  cases kd with
  | _ => exact fun u hu => (hu.factE (j := 1) rfl).elim
end Go.Proofs.YtaeagngfhceceaaGreatDoor
set_option maxHeartbeats 8000000
namespace Go.Proofs.YtaeagngfhceceaaGreatDoor
open Go.RowKit Go.Proofs
set_option maxRecDepth 100000
set_option linter.unusedVariables false
set_option linter.unusedSimpArgs false
theorem Readings_k (lw ls : Int) (cs : List Clue) (gs : List Value) (cv : Value) (most : Int) (w : World) (hk : ClS w cv cs gs) :
  Calls Tryz.prog 25 #[.agg #[.int .i64 lw, .int .i64 ls], cv, .int .i64 most] w (fun e w' => ∃ x : Value × List Value, (∃ u0, SlL u0 x.1 (if rdE lw ls cs most = 0 then (readL lw ls cs).take most.toNat else []) x.2) ∧ RetF w (.tuple #[x.1, .int .i64 (rdE lw ls cs most)]) (roL x.1 (if rdE lw ls cs most = 0 then (readL lw ls cs).take most.toNat else []) x.2) e w') := by
 refine enterM St.nil Tryz.func25 rfl rfl (Nat.le_of_ble_eq_true rfl) ?_
 refine Nz 0 ?_
 refine Wb 0 rfl rfl (fun _ => rfl) (fun _ => rfl) fun b3 hb3 => ?_
 refine Wb 0 rfl rfl (fun _ => rfl) (fun _ => rfl) fun b5 hb5 => ?_
 refine Wl 1 zv33 (fun _ => rfl) (fun _ => rfl) fun b6 hb6 => ?_
 refine Wd (Qc (Cs (Nz 0 ?_)))
 refine Wk 1 (Bb 2) ?_
 refine Wk 1 (Cb rfl rfl ent68 (fun u hu => checkClues_k _ _ _ _ _ u (hk.st hu))) ?_
 refine Wd (Qc (Nz 2 ?_))
 refine Wd (Qc (CS.cond rfl ?_ ?_))<;>intro hc1<;>try simp only [bq] at hc1
 ·
  refine Nz 1 ?_
  refine Ws 1 0 ?_
  refine Wd (Qc (Cr (Qr ?_)))
  exact outE (Or.inl rfl) (resct rfl (cell_rv (j := 0) rfl rfl rfl tk33) rfl) (retLne (f := fun z => .tuple #[z, .int .i64 (rdE lw ls cs most)]) (by simp [rdE, hc1]) (by simp [rdE, hc1]))
 ·
  have hL := cluesE_lock hc1
  have hC := cluesE_clue hc1
  refine Ck (Qc (Cs (Nz 0 ?_)))
  refine Wk 0 (Ba 1) ?_
  refine Wk 1 (Cb rfl rfl ent77 (fun u hu => within_k _ _ _ u)) ?_
  refine Wd (Qc (CS.cond rfl ?_ ?_))<;>intro hc2<;>try simp only [bq] at hc2
  ·
   refine Nz 0 ?_
   refine Ws 1 0 ?_
   refine Wd (Qc (Cr (Qr ?_)))
   exact outE (Or.inl rfl) (resct rfl (cell_rv (j := 0) rfl rfl rfl tk33) rfl) (retLne (f := fun z => .tuple #[z, .int .i64 (rdE lw ls cs most)]) (by simp [rdE, hc1, hc2]) (by simp [rdE, hc1, hc2]))
  ·
   have hwi := hc2
   simp only [within, Bool.and_eq_true, decide_eq_true_eq] at hwi
   have hre : rdE lw ls cs most = 0 := by simp [rdE, hc1, hc2]
   refine Ck (Qc (Cs (Nz 0 ?_)))
   refine Wk 1 (Bb 2) ?_
   refine Wc rfl rfl ent78 (fun u hu => readings_k _ _ _ _ _ u (hk.st hu)) (fun _ => rfl) ?_; intro br _; refine WS.unpack ?_
   refine Wd (Qc (Ce ?_))
   refine CS.sel [2, 2, 2, 0, 0] rfl ?_
   refine CS.weak (L' := [exS fun q : Value => exS fun ps : List (Value × List Int) => star [blk b6 [q] 33, osl 42 1 q (ps.map (·.1)).length (ps.map (·.1)), star (loi 3 ps), fact (ps.map (·.2) = [] ∧ (([] : List (List Int)).length : Int) < most)], blk b5 [.int .i64 most] 3, blk b3 [.int .i64 lw, .int .i64 ls] 54] ++ [blk br.1 [.int .i64 lw, .int .i64 ls] 116, blk br.2 [cv] 46]) (fun u hu => St.exI (Value.slice none 0 0) (St.exI [] (St.pack (L1 := [_, _, _, _]) (((hu.oll0 (te := 42) (e := 3)).factI (p := (List.map (·.2) ([] : List (Value × List Int))) = [] ∧ (([] : List (List Int)).length : Int) < most) ⟨rfl, by simp; omega⟩).sel [3, 1, 1, 0, 0, 0, 0, 0] rfl)))) ?_
   refine CS.rangeA (A := [blk br.1 [.int .i64 lw, .int .i64 ls] 116, blk br.2 [cv] 46]) rfl ent135 (readingsI_k lw ls cs gs cv w br.1 br.2 hL hk hC) (fun pre => [exS fun q : Value => exS fun ps : List (Value × List Int) => star [blk b6 [q] 33, osl 42 1 q (ps.map (·.1)).length (ps.map (·.1)), star (loi 3 ps), fact (ps.map (·.2) = pre ∧ (pre.length : Int) < most)], blk b5 [.int .i64 most] 3, blk b3 [.int .i64 lw, .int .i64 ls] 54]) (fun kd pre => match kd with | .exit 0 => [exS fun q : Value => exS fun ps : List (Value × List Int) => star [blk b6 [q] 33, osl 42 1 q (ps.map (·.1)).length (ps.map (·.1)), star (loi 3 ps), fact (ps.map (·.2) = pre ∧ (pre.length : Int) = most)], blk b5 [.int .i64 most] 3, blk b3 [.int .i64 lw, .int .i64 ls] 54] | _ => [fact False]) (fun _ => rfl) (Nat.le_of_ble_eq_true rfl) (fun _ => rfl) ?_ ?_ ?_
   ·
    intro lr pre x post v F hall
    have hx := (readL_mem hL (show x ∈ readL lw ls cs by rw [hall]; simp)).1
    have hx4 := (code_ten hL hx).1
    have hb := readL_le hL cs
    rw [hall] at hb
    simp at hb
    refine CS.sel [1, 0, 0, 0, 0] rfl ?_
    refine CS.ex ?_; intro q
    refine CS.ex ?_; intro ps
    refine CS.unpack ?_
    refine CS.factE (j := 3) rfl (fun hq0 => ?_)
    obtain ⟨hq, hqm⟩ := hq0
    have hpl := snd_len hq
    refine CS.sel [1, 1, 0, 1, 1, 1, 1] rfl ?_
    refine Ce (Cs ?_)
    refine CS.drawnTill 4 (k := 6) mixed rfl rfl ?_
    refine Tk 6 0 [1] rfl (Ba 2) ?_
    refine To 2 rfl ?_
    refine Wc rfl rfl ent79 (fun u hu => CloneI_k x v u (oints_SlI hu (j := 3) rfl) (by omega)) (fun _ => rfl) ?_; intro v25 hv25
    refine Wd (Qt ?_)
    refine To 3 rfl ?_
    refine WS.buildV1 sl33 zv42 rfl (by first | rfl | assumption) (fun _ => rfl) ?_; intro v26
    refine Wd (Qt ?_)
    refine To 4 rfl ?_
    refine WS.append1 (j := 2) (jz := 0) sl33 zv42 rfl rfl rfl rfl (by first | rfl | assumption) (by first | omega | (simp; omega) | (simp only [List.length_append, List.length_singleton, List.length_map, List.length_cons, List.length_nil] at *; omega)) (by first | omega | (simp; omega) | (simp only [List.length_append, List.length_singleton, List.length_map, List.length_cons, List.length_nil] at *; omega)) (fun _ => rfl) (fun _ => rfl) ?_; intro v27; refine WS.oc (j := 2) rfl (fun hv27 => ?_)
    refine Wd (Qt ?_)
    refine To 5 rfl ?_
    refine Ws 0 4 ?_
    refine Wd (Qt ?_)
    refine Te ?_
    refine Qc (Nz 0 ?_)
    refine Wk 0 (Ba 4) ?_
    refine Wk 0 (det_lenO (j := 2) sl33 rfl rfl) ?_
    refine Wk 1 (Ba 6) ?_
    refine Wd (Qc (CS.cond rfl ?_ ?_))<;>intro hc3<;>try simp only [bq] at hc3
    ·
     refine Cv (Qn ?_)
     refine QS.sel [2, 2, 1, 1, 1, 1, 1, 1] rfl ?_
     exact fun u hu => by
      simp only [roundQ]
      have h1 := hu.ollSnoc.factI (p := (ps ++ [(v25, x)]).map (·.2) = pre ++ [x] ∧ ((pre ++ [x]).length : Int) = most) ⟨snd_snoc hq, by simp at hc3 ⊢; omega⟩
      have h2 := h1.sel [3, 1, 1, 0, 0, 0, 0, 0] rfl
      refine St.perm ?_ (List.Perm.swap _ _ _)
      exact St.exI v27 (St.exI _ (St.pack (L1 := [_, _, _, _]) h2))
    ·
     refine Ck (Qb ?_)
     refine QS.sel [2, 2, 1, 1, 1, 1, 1, 1] rfl ?_
     exact fun u hu => by
      simp only [roundQ]
      have h1 := hu.ollSnoc.factI (p := (ps ++ [(v25, x)]).map (·.2) = pre ++ [x] ∧ ((pre ++ [x]).length : Int) < most) ⟨snd_snoc hq, by simp at hc3 ⊢; omega⟩
      have h2 := h1.sel [3, 1, 1, 0, 0, 0, 0, 0] rfl
      refine St.perm ?_ (List.Perm.swap _ _ _)
      exact St.exI v27 (St.exI _ (St.pack (L1 := [_, _, _, _]) h2))
   ·
    intro D
    refine QS.sel [1, 0, 0, 0, 0, 0] rfl ?_
    refine QS.ex ?_; intro q
    refine QS.ex ?_; intro ps
    refine QS.unpack ?_
    refine QS.factE (j := 3) rfl (fun hq0 => ?_)
    obtain ⟨hq, hqm⟩ := hq0
    have hpl := snd_len hq
    refine QS.sel [1, 1, 0, 1, 1, 1, 1, 1] rfl ?_
    refine QS.oc (j := 0) rfl (fun hqv => ?_)
    have hfin : ps.map (·.2) = (readL lw ls cs).take most.toNat := by rw [hq, take_short (by omega)]
    refine Qb (Qc (Nz 0 ?_))
    refine Wk 0 (Ba 2) ?_
    refine Ws 1 2 ?_
    refine Wd (Qc (Cr ?_))
    exact outM (j := 3) (Or.inl rfl) rfl (resct rfl (cell_rv (j := 2) rfl rfl rfl tk33) rfl) (retLe (f := fun z => .tuple #[z, .int .i64 (rdE lw ls cs most)]) (by rw [hfin, if_pos hre]) (by rw [hre]))
   ·
    intro D kd pre x post hall
    cases kd with
    | exit i =>
     cases i with
     | succ i => exact fun u hu => (hu.factE (j := 1) rfl).elim
     | zero =>
      refine CS.sel [1, 0, 0, 0, 0, 0] rfl ?_
      refine CS.ex ?_; intro q
      refine CS.ex ?_; intro ps
      refine CS.unpack ?_
      refine CS.factE (j := 3) rfl (fun hq0 => ?_)
      obtain ⟨hq, hqm⟩ := hq0
      have hpl := snd_len hq
      refine CS.sel [1, 1, 0, 1, 1, 1, 1, 1] rfl ?_
      refine CS.oc (j := 0) rfl (fun hqv => ?_)
      have hfin : ps.map (·.2) = (readL lw ls cs).take most.toNat := by
       have e : most.toNat = pre.length + 1 := by simp at hqm; omega
       rw [hq, e, split_take hall]
      refine Cv (Qx (Qc (Nz 0 ?_)))
      refine Wk 0 (Ba 2) ?_
      refine Ws 1 2 ?_
      refine Wd (Qc (Cr ?_))
      exact outM (j := 3) (Or.inl rfl) rfl (resct rfl (cell_rv (j := 2) rfl rfl rfl tk33) rfl) (retLe (f := fun z => .tuple #[z, .int .i64 (rdE lw ls cs most)]) (by rw [hfin, if_pos hre]) (by rw [hre]))
    | _ => exact fun u hu => (hu.factE (j := 1) rfl).elim
end Go.Proofs.YtaeagngfhceceaaGreatDoor
set_option maxHeartbeats 8000000
namespace Go.Proofs.YtaeagngfhceceaaGreatDoor
open Go.RowKit Go.Proofs
set_option maxRecDepth 100000
set_option linter.unusedVariables false
set_option linter.unusedSimpArgs false
end Go.Proofs.YtaeagngfhceceaaGreatDoor
set_option maxHeartbeats 8000000
namespace Go.Proofs.YtaeagngfhceceaaGreatDoor
open Go.RowKit Go.Proofs
set_option maxRecDepth 100000
set_option linter.unusedVariables false
set_option linter.unusedSimpArgs false
end Go.Proofs.YtaeagngfhceceaaGreatDoor
set_option maxHeartbeats 8000000
namespace Go.Proofs.YtaeagngfhceceaaGreatDoor
open Go.RowKit Go.Proofs
set_option maxRecDepth 100000
set_option linter.unusedVariables false
set_option linter.unusedSimpArgs false
theorem CloneC_k (cs : List Clue) (gs : List Value) (v : Value) (w : World) (h1 : ClS w v cs gs) (hm : cs.length ≤ 1000000) :
  Calls Tryz.prog 124 #[v] w (fun e w' => ∃ v' : Value, v'.oneCell' = true ∧ RetF w v' (osl 48 7 v' cs.length (clFlat cs gs)) e w') := by
 have hone := clFlat_one (cs := cs) h1.one
 obtain ⟨hl, p, cap, rfl, hcap, hp⟩ := h1.sp
 refine enter Tryz.func124 rfl rfl (Nat.le_of_ble_eq_true rfl) ?_
 refine Nz 1 ?_
 refine Wd (Qc (Cs (Nz 1 ?_)))
 refine Wk 0 (det_eqnil sl46 rfl rfl) ?_
 refine Wd (Qc (CS.cond rfl ?_ ?_))<;>intro hc1<;>try simp only [bq] at hc1
 ·
  have hx0 : cs = [] := by
   have : p = none := by simpa using hc1
   subst this
   exact List.eq_nil_of_length_eq_zero (SlC.nil h1.sp)
  have hg0 : gs = [] := List.eq_nil_of_length_eq_zero (by rw [h1.len, hx0]; rfl)
  subst hx0; subst hg0
  refine Nz 1 ?_
  exact Wd (Qc (Cr (Qr (out1 rfl rfl (fun u hu => ⟨_, rfl, retF (j := 0) rfl u hu.osl0⟩)))))
 ·
  refine Ck (Qc (Nz 0 ?_))
  refine WS.build0 sl46 zv48 (fun _ => rfl) ?_; intro v5
  refine Wz 1 ?_
  refine WS.append (j := 0) (xs := []) (news := clFlat cs gs) (m := cs.length) sl46 zv48 rfl (by decide) rfl rfl rfl (fun u hu => (h1.st hu).sp) hone (by omega) (by omega) (fun _ => rfl) (fun _ => rfl) ?_; intro v7; refine WS.oc (j := 0) rfl (fun hv7 => ?_)
  refine Wz 1 ?_
  refine Wd (Qc (Cr ?_))
  exact out1 rfl rfl (fun u hu => ⟨v7, hv7, by
    have := retF (v := v7) (j := 0) rfl u hu
    rw [Nat.zero_add] at this
    exact this⟩)
theorem DeleteC_k {n0 : Nat} {w0 u : World} (R : List SA) (cs : List Clue) (gs : List Value) (v : Value) (i : Int) (hu : St n0 w0 (osl 48 7 v cs.length (clFlat cs gs) :: R) u) (hg : gs.length = cs.length) (hone : ∀ g ∈ gs, g.oneCell' = true) (h0 : 0 ≤ i) (h1 : i < cs.length) (hm : cs.length ≤ 1000000) :
  Calls Tryz.prog 125 #[v, .int .i64 i, .int .i64 (i + 1)] u (fun e u' => ∃ v' : Value, v'.oneCell' = true ∧ e = .returned v' ∧ St n0 w0 (osl 48 7 v' (cs.eraseIdx i.toNat).length (clFlat (cs.eraseIdx i.toNat) (gs.eraseIdx i.toNat)) :: R) u') := by
 have hsp : SlC u v cs.length 7 (clFlat cs gs) := osl_SlC hu (j := 0) rfl
 obtain ⟨b, cap, cur, rfl, hcc, hcm, hcl, hct, hu⟩ := hu.openRow (by omega)
 have hel : (cs.eraseIdx i.toNat).length = cs.length - 1 := List.length_eraseIdx_of_lt (by omega)
 have hnl : ((cur.drop ((i + 1).toNat * 7)).take ((cs.length - (i + 1).toNat) * 7)).length = (cs.length - (i + 1).toNat) * 7 := by simp; omega
 have hn7 : (cur.drop ((i + 1).toNat * 7)).take ((cs.length - (i + 1).toNat) * 7) = (clFlat cs gs).drop ((i + 1).toNat * 7) := by
  rw [← hct, List.drop_take]
  congr 1
  omega
 have ht7 : cur.take (i.toNat * 7) = (clFlat cs gs).take (i.toNat * 7) := by rw [← hct, List.take_take, Nat.min_eq_left (by omega)]
 have hal := clFlat_one (cs := cs) hone
 have hv1 : sub2 7 (.slice (some ⟨b, 0, none⟩) cs.length cap) 0 i.toNat = .slice (some ⟨b, 0, none⟩) i.toNat cap := by simp [sub2, addr_add]
 obtain ⟨m, hmm⟩ : ∃ m, m = cs.length - (i + 1).toNat := ⟨_, rfl⟩
 obtain ⟨off, hoff⟩ : ∃ off, off = if cap = (i + 1).toNat then 0 else (i + 1).toNat * 7 := ⟨_, rfl⟩
 obtain ⟨news, hnw⟩ : ∃ news, news = (clFlat cs gs).drop ((i + 1).toNat * 7) := ⟨_, rfl⟩
 have hfl := clFlat_len hg
 have hnwl : news.length = m * 7 := by rw [hnw, List.length_drop, hfl]; omega
 have hv2 : sub2 7 (.slice (some ⟨b, 0, none⟩) cs.length cap) (i + 1).toNat cs.length = .slice (some ⟨b, off, none⟩) m (cap - (i + 1).toNat) := by
  rw [hoff, hmm]; simp only [sub2, Option.map_some, addr_add, Nat.zero_add]; split <;> rfl
 have hnews : (cur.drop off).take (m * 7) = news := by
  rw [hoff]
  split
  ·
   have e : m = 0 := by omega
   rw [e] at hnwl ⊢
   simp
   exact List.eq_nil_of_length_eq_zero (by omega)
  ·
   rw [hmm, hn7, hnw]
 have hnone : ∀ a ∈ news, a.oneCell' = true := fun a ha => hal a (by rw [hnw] at ha; exact List.mem_of_mem_drop ha)
 have hera : cur.take (i.toNat * 7) ++ news = clFlat (cs.eraseIdx i.toNat) (gs.eraseIdx i.toNat) := by
  rw [ht7, hnw, ← clFlat_era hg, show (i + 1).toNat = i.toNat + 1 by omega]
 have htl : (cur.take (i.toNat * 7)).length = i.toNat * 7 := by simp; omega
 refine enterI hu Tryz.func125 rfl rfl (Nat.le_of_ble_eq_true rfl) ?_
 refine Nz 1 ?_
 refine Wd (Qc (Nz 4 ?_))
 refine Wk 0 (by first | exact det_lenS sl46 rfl (by assumption) | exact det_lenS sl46 rfl (by first | exact SlL.sp (by assumption) | exact ClS.sp (by assumption)) | exact det_lenO sl46 rfl | exact det_lenV sl46 rfl ⟨_, _, rfl⟩) ?_
 refine Wk 0 (det_slPart3 sl46 rfl rfl rfl rfl (by first | assumption | exact SlL.sp (by assumption) | exact ClS.sp (by assumption) | exact SlT.sp (by assumption)) (by omega) (by omega) (by omega) (by omega)) ?_
 refine Wd (Qc (Cs (Nz 3 ?_)))
 refine Wd (Qc (CS.cond rfl ?_ ?_))<;>intro hc1<;>try simp only [bq] at hc1
 ·
  omega
 ·
  refine Ck (Qc (Nz 1 ?_))
  refine Wk 1 (by first | exact det_lenS sl46 rfl (by assumption) | exact det_lenS sl46 rfl (by first | exact SlL.sp (by assumption) | exact ClS.sp (by assumption)) | exact det_lenO sl46 rfl | exact det_lenV sl46 rfl ⟨_, _, rfl⟩) ?_
  refine Wd (Qc (Cs ?_))
  refine CS.drawnTill 6 (k := 8) mixed rfl rfl ?_
  refine Tr 8 [0,1] ?_
  refine Tk 8 2 [3,4] rfl (det_slTo sl46 rfl rfl (by first | assumption | exact SlL.sp (by assumption) | exact ClS.sp (by assumption) | exact SlT.sp (by assumption)) (by omega) (by omega)) ?_
  refine Tk 8 5 [] rfl (det_slFrom sl46 rfl rfl (by first | assumption | exact SlL.sp (by assumption) | exact ClS.sp (by assumption) | exact SlT.sp (by assumption)) (by omega) (by omega)) ?_
  refine To 6 rfl ?_
  refine WS.blkAppend (j := 0) (off := off) (news := news) (m := m) sl46 rfl hv1 rfl hv2 rfl hnews hnwl hnone (by omega) (by omega) rfl rfl ?_
  refine Wd (Qt ?_)
  refine To 7 rfl ?_
  refine Wz 1 ?_
  refine Wd (Qt ?_)
  refine Te ?_
  refine Qc (Nz 2 ?_)
  refine Wk 1 (by first | exact det_lenS sl46 rfl (by assumption) | exact det_lenS sl46 rfl (by first | exact SlL.sp (by assumption) | exact ClS.sp (by assumption)) | exact det_lenO sl46 rfl | exact det_lenV sl46 rfl ⟨_, _, rfl⟩) ?_
  refine Wk 0 (det_slCap sl46 rfl rfl rfl (by omega) (by omega) (by omega) (by omega)) ?_
  refine WS.clearBlk (j := 0) sl46 zv48 rfl rfl (by omega) rfl (by simp [Value.oneCell']) (by simp only [List.length_append, List.length_drop, htl, hnwl]; omega) rfl ?_
  refine Wd (Qc (Nz 2 ?_))
  refine Wd (Qc (Cr ?_))
  exact out1 rfl rfl (fun u' hu' => ⟨_, rfl, rfl, by
     have hn1 : (cs.eraseIdx i.toNat).length = i.toNat + m := by omega
     rw [hn1]
     refine hu'.closeRow (by omega) hcm ?_ ?_
     ·
      simp only [List.length_append, List.length_take, List.length_drop, htl, hnwl, List.length_cons, List.length_nil]
      omega
     ·
      rw [← hera, List.append_assoc, List.take_append_of_le_length (by simp only [List.length_take, List.length_append, List.length_drop, htl, hnwl]; omega), List.take_take]
      rw [List.take_append_of_le_length (by simp only [List.length_append, htl, hnwl]; omega), List.take_of_length_le (by simp only [List.length_append, htl, hnwl]; omega)]⟩)
end Go.Proofs.YtaeagngfhceceaaGreatDoor
set_option maxHeartbeats 8000000
namespace Go.Proofs.YtaeagngfhceceaaGreatDoor
open Go.RowKit Go.Proofs
set_option maxRecDepth 100000
set_option linter.unusedVariables false
set_option linter.unusedSimpArgs false
end Go.Proofs.YtaeagngfhceceaaGreatDoor
set_option maxHeartbeats 8000000
namespace Go.Proofs.YtaeagngfhceceaaGreatDoor
open Go.RowKit Go.Proofs
set_option maxRecDepth 100000
set_option linter.unusedVariables false
set_option linter.unusedSimpArgs false
theorem Core_k (lw ls : Int) (cs : List Clue) (gs : List Value) (cv : Value) (w : World) (hk : ClS w cv cs gs) :
  Calls Tryz.prog 67 #[.agg #[.int .i64 lw, .int .i64 ls], cv] w (fun e w' => ∃ x : Value, (∃ u0, SlI u0 x (if cluesE lw ls cs = 0 then (coreTo lw ls cs cs.length).map Int.ofNat else [])) ∧ RetF w (.tuple #[x, .int .i64 (cluesE lw ls cs)]) (roI x (if cluesE lw ls cs = 0 then (coreTo lw ls cs cs.length).map Int.ofNat else [])) e w') := by
 refine enter Tryz.func67 rfl rfl (Nat.le_of_ble_eq_true rfl) ?_
 refine Nz 0 ?_
 refine Wb 2 rfl rfl (fun _ => rfl) (fun _ => rfl) fun b2 hb2 => ?_
 refine Wd (Qc (Cs (Nz 0 ?_)))
 refine Wk 1 (Bb 0) ?_
 refine Wk 1 (Cb rfl rfl ent68 (fun u hu => checkClues_k _ _ _ _ _ u (hk.st hu))) ?_
 refine Wd (Qc (Nz 2 ?_))
 refine Wd (Qc (CS.cond rfl ?_ ?_))<;>intro hc1<;>try simp only [bq] at hc1
 ·
  refine Nz 3 ?_
  exact Wd (Qc (Cr (Qr (out2 rfl rfl rfl (retIn (by simp [hc1]) (by simp [hc1]))))))
 ·
  have hL := cluesE_lock hc1
  have hC := cluesE_clue hc1
  have hcl20 := cluesE_len hc1
  have hgl := hk.len
  have hol := clFlat_one (cs := cs) hk.one
  refine Ck (Qc (Nz 0 ?_))
  refine Wk 1 (Bb 0) ?_
  refine Wk 1 (Cb rfl rfl ent71 (fun u hu => count_k _ _ _ _ _ u hL hC (hk.st hu))) ?_
  refine Wd (Qc (Nz 1 ?_))
  refine Wc rfl rfl ent124 (fun u hu => CloneC_k cs gs _ u (hk.st hu) (by omega)) (fun _ => rfl) ?_; intro v21 hv21
  refine Wz 1 ?_
  refine Wd (Qc (Cs (Nz 1 ?_)))
  refine Wk 1 (det_lenS sl46 rfl (by first | exact SlL.sp (by assumption) | exact ClS.sp (by assumption))) ?_
  refine Wd (Qc (Ce ?_))
  refine CS.weak (fun _ hu => hu.osl0 (e := 3) (size := 1)) ?_
  refine CS.loopM (σ := Int × Value × Value) [9, 10, 25, 26, 27, 28, 29, 30, 31, 32, 33, 34, 35, 36, 37, 38, 39, 40, 41, 42, 43, 44, 45] (fun s => [(4, s.2.1), (8, s.2.2), (24, .int .i64 s.1)]) (fun s => [oints 3 s.2.1 ((coreTo lw ls cs s.1.toNat).map Int.ofNat), osl 48 7 s.2.2 (pickN cs (leftN lw ls cs s.1.toNat)).length (clFlat (pickN cs (leftN lw ls cs s.1.toNat)) (pickN gs (leftN lw ls cs s.1.toNat))), blk b2 [.int .i64 lw, .int .i64 ls] 54]) (fun s => 0 ≤ s.1 ∧ s.1 ≤ cs.length) (fun s => (cs.length - s.1).toNat) (0, .slice none 0 0, v21) (fun _ _ => rfl) rfl (by simp only [Int.toNat_zero, leftN_zero, leftN_zeroG hgl]; rfl) ⟨by simp, by simp⟩ ?_
  intro s t hs
  obtain ⟨hs1, hs2⟩ := hs
  refine Nz 1 ?_
  refine Wd (Qc (Cs (CS.cond rfl ?_ ?_)))<;>intro hc2<;>try simp only [bq] at hc2
  ·
   have hin : s.1.toNat < cs.length := by omega
   have e1 : (s.1 + 1).toNat = s.1.toNat + 1 := by omega
   have hlt : ∀ k ∈ leftN lw ls cs s.1.toNat, k < cs.length := fun k hk => leftN_lt k hk (by omega)
   have hltg : ∀ k ∈ leftN lw ls cs s.1.toNat, k < gs.length := fun k hk => by rw [hgl]; exact hlt k hk
   have hll := leftN_len (w := lw) (s := ls) (cs := cs) (i := s.1.toNat) (by omega)
   have hcl := coreTo_len lw ls cs s.1.toNat
   have hkk : ((((coreTo lw ls cs s.1.toNat).map Int.ofNat).length : Int)).toNat = (coreTo lw ls cs s.1.toNat).length := by simp
   have hki := leftN_at (w := lw) (s := ls) (cs := cs) (i := s.1.toNat) hin
   have heC : (pickN cs (leftN lw ls cs s.1.toNat)).eraseIdx ((((coreTo lw ls cs s.1.toNat).map Int.ofNat).length : Int)).toNat = pickN cs (coreTo lw ls cs s.1.toNat ++ restN cs.length (s.1.toNat + 1)) := by rw [hkk, ← pickN_era, leftN_era hin]
   have heG : (pickN gs (leftN lw ls cs s.1.toNat)).eraseIdx ((((coreTo lw ls cs s.1.toNat).map Int.ofNat).length : Int)).toNat = pickN gs (coreTo lw ls cs s.1.toNat ++ restN cs.length (s.1.toNat + 1)) := by rw [hkk, ← pickN_era, leftN_era hin]
   have herl : ∀ c ∈ (pickN cs (leftN lw ls cs s.1.toNat)).eraseIdx ((((coreTo lw ls cs s.1.toNat).map Int.ofNat).length : Int)).toNat, clueB lw ls c = true := fun c hc => hC c (pickN_mem hlt (List.mem_of_mem_eraseIdx hc))
   refine Ck (Qc (Cs (Ce (Nz 2 ?_))))
   refine Wd (Qc (Nz 1 ?_))
   refine Wc rfl rfl ent124 (fun u hu => CloneC_k (pickN cs (leftN lw ls cs s.1.toNat)) (pickN gs (leftN lw ls cs s.1.toNat)) _ u ((hk.st hu).pick hlt (osl_SlC hu (j := 1) rfl)) (by rw [pickN_len]; omega)) (fun _ => rfl) ?_; intro v28 hv28
   refine Wz 1 ?_
   refine Wk 1 (Nb 1) ?_
   refine Wk 0 (Nb 1) ?_
   refine Wk 0 Za ?_
   refine WS.callS (p := fun v' : Value => v'.oneCell' = true) rfl rfl ent125 (fun u hu => DeleteC_k _ (pickN cs (leftN lw ls cs s.1.toNat)) (pickN gs (leftN lw ls cs s.1.toNat)) _ _ hu (by simp [pickN_len]) (pick_one hk.one hltg) (by omega) (by rw [pickN_len, List.length_map]; omega) (by rw [pickN_len]; omega)) (fun _ => rfl) ?_; intro v34 hv34
   refine Wz 1 ?_
   refine Wd (Qc (Nz 0 ?_))
   refine Wk 1 (Bb 3) ?_
   refine Wk 2 (Cb rfl rfl ent71 (fun u hu => count_k _ _ _ _ _ u hL herl (((hk.st hu).pick hlt (osl_SlC hu (j := 2) rfl)).era (osl_SlC hu (j := 0) rfl)))) ?_
   refine Wd (Qc (CS.cond rfl ?_ ?_))<;>intro hc3<;>try simp only [bq] at hc3
   ·
    rw [heC] at hc3
    have hcnt : (readL lw ls (pickN cs (coreTo lw ls cs s.1.toNat ++ restN cs.length (s.1.toNat + 1)))).length = (readL lw ls cs).length := by omega
    refine Ny 2 ?_
    refine Wd (Qb (Qc (Ny 0 ?_)))
    refine Wk 1 Za ?_
    refine Wd ?_
    refine QS.sel [1, 0, 1] rfl ?_
    skip
    exact QS.head ((s.1 + 1, s.2.1, v34)) rfl (by first | simp only [e1, leftN_yes hin hcnt, coreTo_yes hcnt, heC, heG] | (simp only [e1, leftN_no hin hcnt, coreTo_no hcnt, List.map_append, List.map_singleton]; simp only [Int.ofNat_eq_natCast, Int.toNat_of_nonneg hs1])) ⟨⟨by simp; omega, by simp; omega⟩, by simp; omega⟩
   ·
    rw [heC] at hc3
    have hcnt : ¬ (readL lw ls (pickN cs (coreTo lw ls cs s.1.toNat ++ restN cs.length (s.1.toNat + 1)))).length = (readL lw ls cs).length := by omega
    refine Ny 2 ?_
    refine WS.buildI1 sl42 zv3 rfl (fun _ => rfl) ?_; intro v43
    refine WS.appendI (j := 2) sl42 zv3 rfl rfl rfl (fun u hu => oints_SlI hu (j := 0) rfl) (by first | omega | (simp; omega) | (simp only [List.length_append, List.length_singleton, List.length_map, List.length_cons, List.length_nil] at *; omega)) (by first | omega | (simp; omega) | (simp only [List.length_append, List.length_singleton, List.length_map, List.length_cons, List.length_nil] at *; omega)) (fun _ => rfl) (fun _ => rfl) ?_; intro v44; refine WS.oc (j := 2) rfl (fun hv44 => ?_)
    refine Wz 1 ?_
    refine Wd (Qb (Qc (Ny 0 ?_)))
    refine Wk 1 Za ?_
    refine Wd ?_
    refine QS.sel [2, 2, 2] rfl ?_
    exact QS.head ((s.1 + 1, v44, s.2.2)) rfl (by first | simp only [e1, leftN_yes hin hcnt, coreTo_yes hcnt, heC, heG] | (simp only [e1, leftN_no hin hcnt, coreTo_no hcnt, List.map_append, List.map_singleton]; simp only [Int.ofNat_eq_natCast, Int.toNat_of_nonneg hs1])) ⟨⟨by simp; omega, by simp; omega⟩, by simp; omega⟩
  ·
   refine Cv (Qe (Qe (Qx (Qc (Nz 3 ?_)))))
   exact Wd (Qc (Cr (out2 rfl rfl rfl (retIe (j := 0) rfl (by rw [if_pos hc1, show s.1.toNat = cs.length by omega]) (by rw [hc1])))))
theorem Pair_k (lw ls : Int) (cs : List Clue) (gs : List Value) (cv : Value) (w : World) (hk : ClS w cv cs gs) :
  Calls Tryz.prog 22 #[.agg #[.int .i64 lw, .int .i64 ls], cv] w (fun e w' => ∃ x : Value × Value, (∃ u0, SlI u0 x.1 (if prE lw ls cs = 0 then nth (readL lw ls cs) 0 else []) ∧ SlI u0 x.2 (if prE lw ls cs = 0 then nth (readL lw ls cs) ((readL lw ls cs).length - 1) else [])) ∧ RetF w (.tuple #[x.1, x.2, .int .i64 (prE lw ls cs)]) (roS fun u => SlI u x.1 (if prE lw ls cs = 0 then nth (readL lw ls cs) 0 else []) ∧ SlI u x.2 (if prE lw ls cs = 0 then nth (readL lw ls cs) ((readL lw ls cs).length - 1) else [])) e w') := by
 refine enter Tryz.func22 rfl rfl (Nat.le_of_ble_eq_true rfl) ?_
 refine Nz 0 ?_
 refine Wb 3 rfl rfl (fun _ => rfl) (fun _ => rfl) fun b2 hb2 => ?_
 refine Wd (Qc (Cs (Nz 0 ?_)))
 refine Wk 1 (Bb 0) ?_
 refine Wk 1 (Cb rfl rfl ent68 (fun u hu => checkClues_k _ _ _ _ _ u (hk.st hu))) ?_
 refine Wd (Qc (Nz 2 ?_))
 refine Wd (Qc (CS.cond rfl ?_ ?_))<;>intro hc1<;>try simp only [bq] at hc1
 ·
  refine Nz 4 ?_
  exact Wd (Qc (Cr (Qr (out3 rfl rfl rfl rfl (retP (fun _ u _ => ⟨by simpa [prE, hc1] using SlI.none u, by simpa [prE, hc1] using SlI.none u⟩) (by simp [prE, hc1]))))))
 ·
  have hL := cluesE_lock hc1
  have hC := cluesE_clue hc1
  refine Ck (Qc (Nz 0 ?_))
  refine Wk 1 (Bb 0) ?_
  refine Wc rfl rfl ent72 (fun u hu => all_k _ _ _ _ _ u hL hC (hk.st hu)) (fun _ => rfl) ?_; rintro ⟨va, ga⟩ ⟨ua, hva⟩
  refine Wz 1 ?_
  refine Wd (Qc (Cs (Nz 1 ?_)))
  refine Wk 1 (det_lenS sl33 rfl (by first | exact SlL.sp (by assumption) | exact ClS.sp (by assumption))) ?_
  refine Wd (Qc (CS.cond rfl ?_ ?_))<;>intro hc2<;>try simp only [bq] at hc2
  ·
   refine Nz 3 ?_
   exact Wd (Qc (Cr (Qr (out3 rfl rfl rfl rfl (retP (fun _ u _ => ⟨by simpa [prE, hc1, show (readL lw ls cs).length < 2 by omega] using SlI.none u, by simpa [prE, hc1, show (readL lw ls cs).length < 2 by omega] using SlI.none u⟩) (by simp [prE, hc1, show (readL lw ls cs).length < 2 by omega]))))))
  ·
   have hpe : prE lw ls cs = 0 := by simp [prE, hc1]; omega
   have hrb := readL_le hL cs
   refine Ck (Qc (Cs (Dr mixed 1 ?_)))
   refine Dk 0 (det_idxL sl33 rfl rfl (by assumption) (by omega) (by omega)) ?_
   refine Dk 2 (det_ldLR (j := 0) rfl rfl (by assumption) (by omega) tk42) ?_
   refine Dk 0 (det_lenS sl33 rfl (by first | exact SlL.sp (by assumption) | exact ClS.sp (by assumption))) ?_
   refine Dk 0 Zb ?_
   refine Dk 0 (det_idxL sl33 rfl rfl (by assumption) (by omega) (by omega)) ?_
   refine Dk 3 (det_ldLR (j := 0) rfl rfl (by assumption) (by omega) tk42) ?_
   refine Dd (Qc (Cr ?_))
   exact out3 rfl rfl rfl rfl (retP (v1 := nth ga 0) (v2 := nth ga ((readL lw ls cs).length - 1)) (fun S u hs => by
       have h1 : SlL u va (readL lw ls cs) ga := Star.ro (j := 0) rfl hs
       rw [if_pos hpe, if_pos hpe]
       exact ⟨h1.el 0 (by omega) (by omega), h1.el _ (by omega) (by omega)⟩) (by rw [hpe]))
end Go.Proofs.YtaeagngfhceceaaGreatDoor
set_option maxHeartbeats 8000000
namespace Go.Proofs.YtaeagngfhceceaaGreatDoor
open Go.RowKit Go.Proofs
set_option maxRecDepth 100000
set_option linter.unusedVariables false
set_option linter.unusedSimpArgs false
theorem singleF_k (lw ls : Int) (cs : List Clue) (b : Nat) (e : TypeId) (rv : Value) (gs : List Value) (w : World) (hL : lockB lw ls = true) (hch : ChB w b e (flagsOf lw ls cs) (manyC lw ls) rv gs) (i k : Int) (b2 b6 : Nat) (e2 e6 : TypeId) (hi : 0 ≤ i ∧ i < cs.length) (hk : 0 ≤ k ∧ k < manyC lw ls) (hb2 : BlkAt w b2 [.pointer (some ⟨b, 0, none⟩)] e2) (hb6 : BlkAt w b6 [.int .i64 k] e6) :
  Calls Tryz.prog 189 #[.int .i64 i, .pointer (some ⟨b2, 0, none⟩), .pointer (some ⟨b6, 0, none⟩)] w (RetB w (.bool (!holdsT (nth cs i) (nth (allC lw ls) k)))) := by
 have hbk := hch.bk
 have hfl := flagsOf_len lw ls cs
 have hrow := flagsOf_at (w := lw) (s := ls) hi.1 hi.2
 have hal := allC_len lw ls
 have hrl : (nth (flagsOf lw ls cs) i).length = manyC lw ls := by rw [hrow, List.length_map, hal]
 have hnm : nth (nth (flagsOf lw ls cs) i) k = holdsT (nth cs i) (nth (allC lw ls) k) := by
  rw [hrow]
  have : k.toNat < (allC lw ls).length := by omega
  simp [nth, List.getD, this]
 refine enter Tryz.func189 rfl rfl (Nat.le_of_ble_eq_true rfl) ?_
 refine Nz 1 ?_
 refine Wd (Qc (Cs (Dr mixed 0 ?_)))
 refine Dk 2 (by first | exact det_loadb (j := 0) rfl rfl rfl tk119 | exact det_loadb (j := 1) rfl rfl rfl tk119 | exact det_loadb (j := 2) rfl rfl rfl tk119 | exact det_loadb (j := 3) rfl rfl rfl tk119 | exact det_loadw rfl (by assumption) rfl tk119) ?_
 refine Dk 1 (by first | exact det_loadb (j := 0) rfl rfl rfl tk120 | exact det_loadb (j := 1) rfl rfl rfl tk120 | exact det_loadb (j := 2) rfl rfl rfl tk120 | exact det_loadb (j := 3) rfl rfl rfl tk120 | exact det_loadw rfl (by assumption) rfl tk120) ?_
 refine Dk 0 (det_indexS sl120 rfl rfl hch.sp hi.1 (by omega)) ?_
 refine Dk 0 (det_chRow rfl hch hi.1 (by omega) tk66) ?_
 refine Dk 0 (by first | exact det_ldI rfl (by assumption) (by omega) tk3 | exact det_loadb (j := 0) rfl rfl rfl tk3 | exact det_loadb (j := 1) rfl rfl rfl tk3 | exact det_loadb (j := 2) rfl rfl rfl tk3 | exact det_loadb (j := 3) rfl rfl rfl tk3 | exact det_loadw rfl (by assumption) rfl tk3) ?_
 refine Dk 0 (det_indexS sl66 rfl rfl (hch.el i hi.1 (by omega)) hk.1 (by omega)) ?_
 refine Dk 2 (det_chFlag rfl hch hi.1 (by omega) (by omega) tk4) ?_
 exact Dd (Qc (Cr (out1 rfl rfl (retBe (by rw [hnm])))))
theorem single_k (lw ls : Int) (cs : List Clue) (b : Nat) (e : TypeId) (rv : Value) (gs : List Value) (w : World) (hL : lockB lw ls = true) (hch : ChB w b e (flagsOf lw ls cs) (manyC lw ls) rv gs) (ks : List Nat) (vk : Value) (h1 : SlI w vk (ks.map Int.ofNat)) (hks : ∀ k ∈ ks, k < cs.length) :
  Calls Tryz.prog 134 #[.pointer (some ⟨b, 0, none⟩), vk] w (RetB w (.bool (decide ((readL lw ls (pickN cs ks)).length = 1)))) := by
 have hbk := hch.bk
 have hmc := manyC_le hL
 have hal := allC_len lw ls
 have hkl : (ks.map Int.ofNat).length = ks.length := by simp
 refine enter Tryz.func134 rfl rfl (Nat.le_of_ble_eq_true rfl) ?_
 refine Nz 0 ?_
 refine Wb 1 rfl rfl (fun _ => rfl) (fun _ => rfl) fun b2 hb2 => ?_
 refine Wd (Qc (Nz 1 ?_))
 refine Wd (Qc (Cs (Nz 0 ?_)))
 refine Wk 2 (by first | exact det_loadb (j := 0) rfl rfl rfl tk119 | exact det_loadw rfl (by assumption) rfl tk119) ?_
 refine Wk 1 (by first | exact det_ldI rfl (by assumption) (by omega) tk3 | exact det_loadb (j := 0) rfl rfl rfl tk3 | exact det_loadb (j := 1) rfl rfl rfl tk3 | exact det_loadb (j := 2) rfl rfl rfl tk3 | exact det_loadb (j := 3) rfl rfl rfl tk3 | exact det_loadw rfl (by assumption) rfl tk3) ?_
 refine Wd (Qc (Ce ?_))
 refine CS.loopM (σ := Int × Int) [6, 12, 13, 14, 15, 16, 17, 18, 19, 20] (fun s => [(5, .int .i64 s.2), (11, .int .i64 s.1)]) (fun _ => _) (fun s => 0 ≤ s.1 ∧ s.1 ≤ manyC lw ls ∧ s.2 = (readTo lw ls (pickN cs ks) s.1.toNat).length) (fun s => (manyC lw ls - s.1).toNat) (0, 0) (fun _ _ => rfl) rfl rfl ⟨by simp, by simp, by simp [readTo]⟩ ?_
 intro s t hs
 obtain ⟨hs1, hs2, hs3⟩ := hs
 refine Nz 1 ?_
 refine Wd (Qc (Cs (CS.cond rfl ?_ ?_)))<;>intro hc1<;>try simp only [bq] at hc1
 ·
  have hlt : s.1.toNat < manyC lw ls := by omega
  have e1 : (s.1 + 1).toNat = s.1.toNat + 1 := by omega
  have hca : codeAt lw ls s.1.toNat = nth (allC lw ls) s.1 := by
   have := allC_at (w := lw) (s := ls) hlt
   simp [nth, List.getD, this]
  have hrt := readTo_len (w := lw) (s := ls) (cs := pickN cs ks) (n := s.1.toNat)
  refine Ck (Qc (Cs (Ce (Nz 1 ?_))))
  refine Wl 0 zv3 (fun _ => rfl) (fun _ => rfl) fun b6 hb6 => ?_
  refine Ws 0 0 ?_
  refine Wd (Qc (Nz 1 ?_))
  refine Wk 0 (det_makeFunc rfl) ?_
  refine Wk 1 (Cb rfl rfl ent188 (fun u hu => ContainsI_k (ks.map Int.ofNat) vk u (h1.st hu) _ [.pointer (some ⟨b2, 0, none⟩), .pointer (some ⟨b6, 0, none⟩)] (fun i => !holdsT (nth cs i) (nth (allC lw ls) s.1)) ent189 (fun u2 h2 i h3 h4 => singleF_k lw ls cs b e rv gs u2 hL ((hch.st hu).ext h2) _ s.1 b2 b6 _ _ (by rw [ofNat_at ks h3 (by omega)]; have hlt2 : i.toNat < ks.length := (by omega); have := hks _ (List.getElem_mem hlt2); simp only [List.getD, List.getElem?_eq_getElem hlt2, Option.getD_some]; omega) (by omega) ((st_blk hu (j := 1) rfl).ext h2) ((st_blk hu (j := 0) rfl).ext h2)))) ?_
  refine Wd (Qc (CS.cond rfl ?_ ?_))<;>intro hc2<;>try simp only [bq] at hc2
  ·
   rw [any_fit, Bool.not_eq_false'] at hc2
   refine Ny 1 ?_
   refine Wk 1 Za ?_
   refine Wd (Qb (Qc (Ny 0 ?_)))
   refine Wk 1 Za ?_
   refine Wd ?_
   refine QS.sel [1] rfl ?_
   exact QS.head ((s.1 + 1, s.2 + 1)) rfl rfl ⟨⟨by simp; omega, by simp; omega, by simp only; rw [e1, readTo_yes hlt (by rw [hca]; exact hc2), hs3]; simp⟩, by simp; omega⟩
  ·
   rw [any_fit, Bool.not_eq_true'] at hc2
   refine Ck (Qb (Qc (Ny 0 ?_)))
   refine Wk 1 Za ?_
   refine Wd ?_
   refine QS.sel [1] rfl ?_
   exact QS.head ((s.1 + 1, s.2)) rfl rfl ⟨⟨by simp; omega, by simp; omega, by simp only; rw [e1, readTo_no hlt (by rw [hca]; exact hc2), hs3]⟩, by simp; omega⟩
 ·
  refine Cv (Qe (Qe (Qx (Qc (Nz 3 ?_)))))
  exact Wd (Qc (Cr (out1 rfl rfl (retBe (by rw [hs3, readTo_all (by omega)]; simp; omega)))))
theorem more0_k (lw ls : Int) (cs : List Clue) (b : Nat) (e : TypeId) (rv : Value) (gs : List Value) (w : World) (hL : lockB lw ls = true) (hch : ChB w b e (flagsOf lw ls cs) (manyC lw ls) rv gs) (ks us : List Nat) (vk vu : Value) (h1 : SlI w vk (ks.map Int.ofNat)) (h2 : SlI w vu (us.map Int.ofNat)) (hks : ∀ k ∈ ks, k < cs.length) (hus : ∀ k ∈ us, k < cs.length) :
  Calls Tryz.prog 76 #[.pointer (some ⟨b, 0, none⟩), vk, vu, .int .i64 0] w (RetB w (if (readL lw ls (pickN cs ks)).length = 1 then vk else .slice none 0 0)) := by
 refine enter Tryz.func76 rfl rfl (Nat.le_of_ble_eq_true rfl) ?_
 refine Nz 1 ?_
 refine Wd (Qc (Cs (Nz 2 ?_)))
 refine Wd (Qc (CS.cond rfl ?_ ?_))<;>intro hc1<;>try simp only [bq] at hc1
 ·
  refine Cs (Nz 2 ?_)
  refine Wk 0 (Cb rfl rfl ent134 (fun u hu => single_k lw ls cs b e rv gs u hL (hch.st hu) ks vk (h1.st hu) hks)) ?_
  refine Wd (Qc (CS.cond rfl ?_ ?_))<;>intro hc2<;>try simp only [bq] at hc2
  ·
   refine Nz 2 ?_
   exact Wd (Qc (Cr (Qr (Qr (out1 rfl rfl (retBe (by rw [if_pos hc2])))))))
  ·
   refine Ck (Qc (Nz 1 ?_))
   exact Wd (Qc (Cr (Qr (out1 rfl rfl (retBe (by rw [if_neg hc2]))))))
 ·
  exact absurd trivial hc1
theorem more1_k (lw ls : Int) (cs : List Clue) (b : Nat) (e : TypeId) (rv : Value) (gs : List Value) (w : World) (hL : lockB lw ls = true) (hch : ChB w b e (flagsOf lw ls cs) (manyC lw ls) rv gs)  (ks us : List Nat) (vk vu : Value) (h1 : SlI w vk (ks.map Int.ofNat)) (h2 : SlI w vu (us.map Int.ofNat)) (hks : ∀ k ∈ ks, k < cs.length) (hus : ∀ k ∈ us, k < cs.length) (N : Int) (hN : N = ((0 + 1 : Nat) : Int)) (hm : ks.length + 0 ≤ 100) (hul : us.length ≤ 1000) :
  Calls Tryz.prog 76 #[.pointer (some ⟨b, 0, none⟩), vk, vu, .int .i64 N] w (fun e w' => ∃ v : Value, (nilB v = (moreF lw ls cs (0 + 1) ks us).isNone ∧ ∃ u0, SlI u0 v (((moreF lw ls cs (0 + 1) ks us).getD []).map Int.ofNat)) ∧ RetF w v (roI v (((moreF lw ls cs (0 + 1) ks us).getD []).map Int.ofNat)) e w') := by
 have hlu : (us.map Int.ofNat).length = us.length := by simp
 have hlk : (ks.map Int.ofNat).length = ks.length := by simp
 have hll := h1.le
 refine enter Tryz.func76 rfl rfl (Nat.le_of_ble_eq_true rfl) ?_
 refine Nz 1 ?_
 refine Wd (Qc (Cs (Nz 2 ?_)))
 refine Wd (Qc (CS.cond rfl ?_ ?_))<;>intro hc1<;>try simp only [bq] at hc1
 ·
  omega
 ·
  refine Ck (Qc (Cs (Nz 1 ?_)))
  refine Wk 1 (by first | exact det_lenS sl42 rfl (by assumption) | exact det_lenS sl42 rfl (by first | exact SlL.sp (by assumption) | exact ClS.sp (by assumption)) | exact det_lenO sl42 rfl | exact det_lenV sl42 rfl ⟨_, _, rfl⟩) ?_
  refine Wd (Qc (Ce ?_))
  refine CS.loopM (σ := Int) [8, 9, 10, 11, 21, 22, 23, 24, 25, 26, 27, 28, 29, 30, 31, 32, 33, 34, 35, 36, 37, 38, 39, 40, 41] (fun s => [(20, .int .i64 s)]) (fun _ => _) (fun s => 0 ≤ s ∧ s ≤ us.length ∧ moreF lw ls cs (0 + 1) ks us = moreF lw ls cs (0 + 1) ks (us.drop s.toNat)) (fun s => (us.length - s).toNat) 0 (fun _ _ => rfl) rfl rfl ⟨by omega, by omega, by simp⟩ ?_
  intro q t hs
  obtain ⟨hq1, hq2, hq4⟩ := hs
  refine Nz 1 ?_
  refine Wd (Qc (Cs (CS.cond rfl ?_ ?_)))<;>intro hc2<;>try simp only [bq] at hc2
  ·
   have hq3 : q < (us.length : Int) := by omega
   have hat := ofNat_at us hq1 hq3
   have hdr := drop_getD hq1 hq3
   have hlt : us.getD q.toNat 0 < cs.length := by
    have h3 : q.toNat < us.length := by omega
    simp only [List.getD, List.getElem?_eq_getElem h3, Option.getD_some]
    exact hus _ (List.getElem_mem h3)
   have hks2 : ∀ k ∈ ks ++ [us.getD q.toNat 0], k < cs.length := fun k hk => by
    simp only [List.mem_append, List.mem_singleton] at hk
    rcases hk with hk | hk
    ·
     exact hks k hk
    ·
     rw [hk]; exact hlt
   have hus2 : ∀ k ∈ us.drop (q + 1).toNat, k < cs.length := fun k hk => hus k (List.mem_of_mem_drop hk)
   have hsub : ∀ u, SlI u vu (us.map Int.ofNat) → SlI u (sub2 1 vu (q + 1).toNat (us.map Int.ofNat).length) ((us.drop (q + 1).toNat).map Int.ofNat) := fun u hu => by
    have h3 := hu.sub2 (lo := (q + 1).toNat) (hi := (us.map Int.ofNat).length) (by omega) (by omega)
    rw [List.take_of_length_le (by simp), ← List.map_drop] at h3
    exact h3
   have hkm : ks.map Int.ofNat ++ [nth (us.map Int.ofNat) q] = (ks ++ [us.getD q.toNat 0]).map Int.ofNat := by rw [hat]; simp
   refine Ck (Qc (Cs (Ce (Nz 1 ?_))))
   refine Wk 0 (by first | exact det_idxI sl42 rfl rfl (by assumption) (by omega) (by omega) | exact det_idxO sl42 rfl rfl (by omega) (by omega)) ?_
   refine Wk 2 (by first | exact det_ldI rfl (by assumption) (by omega) tk3 | exact det_loadb (j := 0) rfl rfl rfl tk3 | exact det_loadb (j := 1) rfl rfl rfl tk3 | exact det_loadb (j := 2) rfl rfl rfl tk3 | exact det_loadb (j := 3) rfl rfl rfl tk3 | exact det_loadw rfl (by assumption) rfl tk3) ?_
   refine Wd (Qc ?_)
   refine CS.cut (σ := Value) [25, 26, 27, 28, 29, 30, 31, 32, 33, 34, 35, 36, 37] (fun s => [(11, s)]) (fun s => [roI s (((moreF lw ls cs 0 (ks ++ [us.getD q.toNat 0]) (us.drop (q + 1).toNat)).getD []).map Int.ofNat)]) (fun s => nilB s = (moreF lw ls cs 0 (ks ++ [us.getD q.toNat 0]) (us.drop (q + 1).toNat)).isNone ∧ ∃ p n c, s = .slice p n c) (fun _ _ => rfl) ?_ ?_
   ·
    refine CS.drawnAll (k := 14) mixed rfl rfl ?_
    refine Ar [0,1,3,6,7] ?_
    refine Ak 8 [] rfl Za ?_
    refine Ak 9 [10] rfl (det_slFrom sl42 rfl rfl (by first | assumption | exact SlL.sp (by assumption) | exact ClS.sp (by assumption) | exact SlT.sp (by assumption)) (by omega) (by omega)) ?_
    refine Ak 11 [] rfl Zb ?_
    refine AS.two (i := 2) (j := 4) (by kernel_rfl) rfl rfl (by first | exact fun _ h => h | exact fun _ h => h.sub (by repeat first | exact List.Sublist.refl _ | apply List.Sublist.cons_cons | apply List.Sublist.cons)) rfl rfl ?_ ?_
    ·
     refine Wc rfl rfl ent79 (fun u hu => CloneI_k (ks.map Int.ofNat) vk u (h1.st hu) (by omega)) (fun _ => rfl) ?_; intro v27 hv27
     refine Wd (Qa ?_)
     refine Ao 4 rfl ?_
     refine WS.buildI1 sl42 zv3 rfl (fun _ => rfl) ?_; intro v29
     refine Wd (Qa ?_)
     refine Ao 5 rfl ?_
     refine WS.appendI (j := 1) (ys := [nth (us.map Int.ofNat) q]) sl42 zv3 rfl rfl rfl (fun u hu => oints_SlI hu (j := 0) rfl) (by simp only [List.length_singleton]; omega) (by simp only [List.length_singleton]; omega) (fun _ => rfl) (fun _ => rfl) ?_; intro v30; refine WS.sn (j := 1) rfl (by simp) (fun hvn30 hvs30 => ?_)
     refine Wd (Qa ?_)
     refine Ao 12 rfl ?_
     refine WS.weak (fun u hu => by rw [hkm] at hu; exact hu) ?_; refine WS.det rfl rfl rfl (Cb rfl rfl ent76 (v := (if (readL lw ls (pickN cs (ks ++ [us.getD q.toNat 0]))).length = 1 then v30 else .slice none 0 0)) (fun u hu => by have h0 := more0_k lw ls cs b e rv gs u hL (hch.st hu) (ks ++ [us.getD q.toNat 0]) (us.drop (q + 1).toNat) v30 _ (oints_SlI hu (j := 1) rfl) (hsub u (h2.st hu)) hks2 hus2; rw [show N - 1 = 0 by omega]; exact h0)) rfl ?_
     refine Wd (Qa ?_)
     refine Ar [13] ?_
     refine Ae ?_
     refine QS.sel [1] rfl ?_
     refine QS.weak (L' := [roI (if (readL lw ls (pickN cs (ks ++ [us.getD q.toNat 0]))).length = 1 then v30 else .slice none 0 0) (((moreF lw ls cs 0 (ks ++ [us.getD q.toNat 0]) (us.drop (q + 1).toNat)).getD []).map Int.ofNat)]) (fun u hu => by
        by_cases h : (readL lw ls (pickN cs (ks ++ [us.getD q.toNat 0]))).length = 1
        ·
         rw [if_pos h, moreF, if_pos h]; exact hu.toRoI
        ·
         rw [if_neg h, moreF, if_neg h]; exact (hu.nilRoI).sel [0] rfl) ?_
     exact QS.head ((if (readL lw ls (pickN cs (ks ++ [us.getD q.toNat 0]))).length = 1 then v30 else .slice none 0 0)) rfl rfl (by
        by_cases h : (readL lw ls (pickN cs (ks ++ [us.getD q.toNat 0]))).length = 1
        ·
         rw [if_pos h, moreF, if_pos h]
         exact ⟨hvn30, hvs30⟩
        ·
         rw [if_neg h, moreF, if_neg h]; exact ⟨rfl, _, _, _, rfl⟩)
    ·
     refine WS.buildI1 sl42 zv3 rfl (fun _ => rfl) ?_; intro v29
     refine Wd (Qa ?_)
     refine Ao 2 rfl ?_
     refine Wc rfl rfl ent79 (fun u hu => CloneI_k (ks.map Int.ofNat) vk u (h1.st hu) (by omega)) (fun _ => rfl) ?_; intro v27 hv27
     refine Wd (Qa ?_)
     refine Ao 5 rfl ?_
     refine WS.appendI (j := 0) (ys := [nth (us.map Int.ofNat) q]) sl42 zv3 rfl rfl rfl (fun u hu => oints_SlI hu (j := 1) rfl) (by simp only [List.length_singleton]; omega) (by simp only [List.length_singleton]; omega) (fun _ => rfl) (fun _ => rfl) ?_; intro v30; refine WS.sn (j := 0) rfl (by simp) (fun hvn30 hvs30 => ?_)
     refine Wd (Qa ?_)
     refine Ao 12 rfl ?_
     refine WS.weak (fun u hu => by rw [hkm] at hu; exact hu) ?_; refine WS.det rfl rfl rfl (Cb rfl rfl ent76 (v := (if (readL lw ls (pickN cs (ks ++ [us.getD q.toNat 0]))).length = 1 then v30 else .slice none 0 0)) (fun u hu => by have h0 := more0_k lw ls cs b e rv gs u hL (hch.st hu) (ks ++ [us.getD q.toNat 0]) (us.drop (q + 1).toNat) v30 _ (oints_SlI hu (j := 0) rfl) (hsub u (h2.st hu)) hks2 hus2; rw [show N - 1 = 0 by omega]; exact h0)) rfl ?_
     refine Wd (Qa ?_)
     refine Ar [13] ?_
     refine Ae ?_
     refine QS.sel [0] rfl ?_
     refine QS.weak (L' := [roI (if (readL lw ls (pickN cs (ks ++ [us.getD q.toNat 0]))).length = 1 then v30 else .slice none 0 0) (((moreF lw ls cs 0 (ks ++ [us.getD q.toNat 0]) (us.drop (q + 1).toNat)).getD []).map Int.ofNat)]) (fun u hu => by
        by_cases h : (readL lw ls (pickN cs (ks ++ [us.getD q.toNat 0]))).length = 1
        ·
         rw [if_pos h, moreF, if_pos h]; exact hu.toRoI
        ·
         rw [if_neg h, moreF, if_neg h]; exact (hu.nilRoI).sel [0] rfl) ?_
     exact QS.head ((if (readL lw ls (pickN cs (ks ++ [us.getD q.toNat 0]))).length = 1 then v30 else .slice none 0 0)) rfl rfl (by
        by_cases h : (readL lw ls (pickN cs (ks ++ [us.getD q.toNat 0]))).length = 1
        ·
         rw [if_pos h, moreF, if_pos h]
         exact ⟨hvn30, hvs30⟩
        ·
         rw [if_neg h, moreF, if_neg h]; exact ⟨rfl, _, _, _, rfl⟩)
   ·
    intro s t hs
    refine Nz 1 ?_
    refine Wk 0 (det_nenilV sl42 rfl rfl hs.2) ?_
    refine Wd (Qc (CS.cond rfl ?_ ?_))<;>intro hc3<;>try simp only [bq] at hc3
    ·
     obtain ⟨r, hr⟩ : ∃ r, (moreF lw ls cs 0 (ks ++ [us.getD q.toNat 0]) (us.drop (q + 1).toNat)) = some r := by
      cases h : (moreF lw ls cs 0 (ks ++ [us.getD q.toNat 0]) (us.drop (q + 1).toNat)) with
      | none => rw [hs.1, h] at hc3; cases hc3
      | some r => exact ⟨r, rfl⟩
     have hfin : moreF lw ls cs (0 + 1) ks us = some r := by rw [hq4, hdr]; exact moreF_some hr
     refine Nz 2 ?_
     exact Wd (Qc (Cr (Qs (Qr (Qr (Qs (Qr (out1 rfl rfl (moreRet (j := 0) (by rw [hs.1, hr, hfin]) rfl (by rw [hr, hfin]))))))))))
    ·
     have hr : (moreF lw ls cs 0 (ks ++ [us.getD q.toNat 0]) (us.drop (q + 1).toNat)) = none := by
      cases h : (moreF lw ls cs 0 (ks ++ [us.getD q.toNat 0]) (us.drop (q + 1).toNat)) with
      | none => rfl
      | some r => rw [hs.1, h] at hc3; cases hc3
     refine Ck (Qb (Qc (Ny 0 ?_)))
     refine Wk 1 Za ?_
     refine Wd ?_
     refine QS.sel [] rfl ?_
     exact QS.head (q + 1) rfl rfl ⟨⟨by omega, by omega, by rw [hq4, hdr, moreF_none hr]⟩, by omega⟩
  ·
   have hfin : moreF lw ls cs (0 + 1) ks us = none := by rw [hq4, List.drop_eq_nil_of_le (by omega)]; exact moreF_nil _ _
   refine Cv (Qe (Qe (Qx (Qc (Nz 1 ?_)))))
   exact Wd (Qc (Cr (out1 rfl rfl (moreRetN (by rw [hfin]; rfl) (by rw [hfin]; rfl)))))
theorem moreS_k (lw ls : Int) (cs : List Clue) (b : Nat) (e : TypeId) (rv : Value) (gs : List Value) (w : World) (hL : lockB lw ls = true) (hch : ChB w b e (flagsOf lw ls cs) (manyC lw ls) rv gs) (m : Nat) (ih : ∀ (ks us : List Nat) (vk vu : Value) (w : World) (hch : ChB w b e (flagsOf lw ls cs) (manyC lw ls) rv gs) (h1 : SlI w vk (ks.map Int.ofNat)) (h2 : SlI w vu (us.map Int.ofNat)) (hks : ∀ k ∈ ks, k < cs.length) (hus : ∀ k ∈ us, k < cs.length) (N : Int) (hN : N = ((m + 1 : Nat) : Int)) (hm : ks.length + m ≤ 100) (hul : us.length ≤ 1000), Calls Tryz.prog 76 #[.pointer (some ⟨b, 0, none⟩), vk, vu, .int .i64 N] w (fun e w' => ∃ v : Value, (nilB v = (moreF lw ls cs (m + 1) ks us).isNone ∧ ∃ u0, SlI u0 v (((moreF lw ls cs (m + 1) ks us).getD []).map Int.ofNat)) ∧ RetF w v (roI v (((moreF lw ls cs (m + 1) ks us).getD []).map Int.ofNat)) e w')) (ks us : List Nat) (vk vu : Value) (h1 : SlI w vk (ks.map Int.ofNat)) (h2 : SlI w vu (us.map Int.ofNat)) (hks : ∀ k ∈ ks, k < cs.length) (hus : ∀ k ∈ us, k < cs.length) (N : Int) (hN : N = (((m + 1) + 1 : Nat) : Int)) (hm : ks.length + (m + 1) ≤ 100) (hul : us.length ≤ 1000) :
  Calls Tryz.prog 76 #[.pointer (some ⟨b, 0, none⟩), vk, vu, .int .i64 N] w (fun e w' => ∃ v : Value, (nilB v = (moreF lw ls cs ((m + 1) + 1) ks us).isNone ∧ ∃ u0, SlI u0 v (((moreF lw ls cs ((m + 1) + 1) ks us).getD []).map Int.ofNat)) ∧ RetF w v (roI v (((moreF lw ls cs ((m + 1) + 1) ks us).getD []).map Int.ofNat)) e w') := by
 have hlu : (us.map Int.ofNat).length = us.length := by simp
 have hlk : (ks.map Int.ofNat).length = ks.length := by simp
 have hll := h1.le
 refine enter Tryz.func76 rfl rfl (Nat.le_of_ble_eq_true rfl) ?_
 refine Nz 1 ?_
 refine Wd (Qc (Cs (Nz 2 ?_)))
 refine Wd (Qc (CS.cond rfl ?_ ?_))<;>intro hc1<;>try simp only [bq] at hc1
 ·
  omega
 ·
  refine Ck (Qc (Cs (Nz 1 ?_)))
  refine Wk 1 (by first | exact det_lenS sl42 rfl (by assumption) | exact det_lenS sl42 rfl (by first | exact SlL.sp (by assumption) | exact ClS.sp (by assumption)) | exact det_lenO sl42 rfl | exact det_lenV sl42 rfl ⟨_, _, rfl⟩) ?_
  refine Wd (Qc (Ce ?_))
  refine CS.loopM (σ := Int) [8, 9, 10, 11, 21, 22, 23, 24, 25, 26, 27, 28, 29, 30, 31, 32, 33, 34, 35, 36, 37, 38, 39, 40, 41] (fun s => [(20, .int .i64 s)]) (fun _ => _) (fun s => 0 ≤ s ∧ s ≤ us.length ∧ moreF lw ls cs ((m + 1) + 1) ks us = moreF lw ls cs ((m + 1) + 1) ks (us.drop s.toNat)) (fun s => (us.length - s).toNat) 0 (fun _ _ => rfl) rfl rfl ⟨by omega, by omega, by simp⟩ ?_
  intro q t hs
  obtain ⟨hq1, hq2, hq4⟩ := hs
  refine Nz 1 ?_
  refine Wd (Qc (Cs (CS.cond rfl ?_ ?_)))<;>intro hc2<;>try simp only [bq] at hc2
  ·
   have hq3 : q < (us.length : Int) := by omega
   have hat := ofNat_at us hq1 hq3
   have hdr := drop_getD hq1 hq3
   have hlt : us.getD q.toNat 0 < cs.length := by
    have h3 : q.toNat < us.length := by omega
    simp only [List.getD, List.getElem?_eq_getElem h3, Option.getD_some]
    exact hus _ (List.getElem_mem h3)
   have hks2 : ∀ k ∈ ks ++ [us.getD q.toNat 0], k < cs.length := fun k hk => by
    simp only [List.mem_append, List.mem_singleton] at hk
    rcases hk with hk | hk
    ·
     exact hks k hk
    ·
     rw [hk]; exact hlt
   have hus2 : ∀ k ∈ us.drop (q + 1).toNat, k < cs.length := fun k hk => hus k (List.mem_of_mem_drop hk)
   have hsub : ∀ u, SlI u vu (us.map Int.ofNat) → SlI u (sub2 1 vu (q + 1).toNat (us.map Int.ofNat).length) ((us.drop (q + 1).toNat).map Int.ofNat) := fun u hu => by
    have h3 := hu.sub2 (lo := (q + 1).toNat) (hi := (us.map Int.ofNat).length) (by omega) (by omega)
    rw [List.take_of_length_le (by simp), ← List.map_drop] at h3
    exact h3
   have hkm : ks.map Int.ofNat ++ [nth (us.map Int.ofNat) q] = (ks ++ [us.getD q.toNat 0]).map Int.ofNat := by rw [hat]; simp
   refine Ck (Qc (Cs (Ce (Nz 1 ?_))))
   refine Wk 0 (by first | exact det_idxI sl42 rfl rfl (by assumption) (by omega) (by omega) | exact det_idxO sl42 rfl rfl (by omega) (by omega)) ?_
   refine Wk 2 (by first | exact det_ldI rfl (by assumption) (by omega) tk3 | exact det_loadb (j := 0) rfl rfl rfl tk3 | exact det_loadb (j := 1) rfl rfl rfl tk3 | exact det_loadb (j := 2) rfl rfl rfl tk3 | exact det_loadb (j := 3) rfl rfl rfl tk3 | exact det_loadw rfl (by assumption) rfl tk3) ?_
   refine Wd (Qc ?_)
   refine CS.cut (σ := Value) [25, 26, 27, 28, 29, 30, 31, 32, 33, 34, 35, 36, 37] (fun s => [(11, s)]) (fun s => [roI s (((moreF lw ls cs (m + 1) (ks ++ [us.getD q.toNat 0]) (us.drop (q + 1).toNat)).getD []).map Int.ofNat)]) (fun s => nilB s = (moreF lw ls cs (m + 1) (ks ++ [us.getD q.toNat 0]) (us.drop (q + 1).toNat)).isNone ∧ ∃ p n c, s = .slice p n c) (fun _ _ => rfl) ?_ ?_
   ·
    refine CS.drawnAll (k := 14) mixed rfl rfl ?_
    refine Ar [0,1,3,6,7] ?_
    refine Ak 8 [] rfl Za ?_
    refine Ak 9 [10] rfl (det_slFrom sl42 rfl rfl (by first | assumption | exact SlL.sp (by assumption) | exact ClS.sp (by assumption) | exact SlT.sp (by assumption)) (by omega) (by omega)) ?_
    refine Ak 11 [] rfl Zb ?_
    refine AS.two (i := 2) (j := 4) (by kernel_rfl) rfl rfl (by first | exact fun _ h => h | exact fun _ h => h.sub (by repeat first | exact List.Sublist.refl _ | apply List.Sublist.cons_cons | apply List.Sublist.cons)) rfl rfl ?_ ?_
    ·
     refine Wc rfl rfl ent79 (fun u hu => CloneI_k (ks.map Int.ofNat) vk u (h1.st hu) (by omega)) (fun _ => rfl) ?_; intro v27 hv27
     refine Wd (Qa ?_)
     refine Ao 4 rfl ?_
     refine WS.buildI1 sl42 zv3 rfl (fun _ => rfl) ?_; intro v29
     refine Wd (Qa ?_)
     refine Ao 5 rfl ?_
     refine WS.appendI (j := 1) (ys := [nth (us.map Int.ofNat) q]) sl42 zv3 rfl rfl rfl (fun u hu => oints_SlI hu (j := 0) rfl) (by simp only [List.length_singleton]; omega) (by simp only [List.length_singleton]; omega) (fun _ => rfl) (fun _ => rfl) ?_; intro v30; refine WS.sn (j := 1) rfl (by simp) (fun hvn30 hvs30 => ?_)
     refine Wd (Qa ?_)
     refine Ao 12 rfl ?_
     refine WS.weak (fun u hu => by rw [hkm] at hu; exact hu) ?_; refine Wc rfl rfl ent76 (fun u hu => ih (ks ++ [us.getD q.toNat 0]) (us.drop (q + 1).toNat) v30 _ u (hch.st hu) (oints_SlI hu (j := 1) rfl) (hsub u (h2.st hu)) hks2 hus2 (N - 1) (by omega) (by simp; omega) (by simp; omega)) (fun _ => rfl) ?_; rintro v37 ⟨hv37, u37, hv37s⟩
     refine Wd (Qa ?_)
     refine Ar [13] ?_
     refine Ae ?_
     refine QS.sel [0] rfl ?_
     exact QS.head (v37) rfl rfl ⟨hv37, by obtain ⟨p, c, h⟩ := hv37s.shape; exact ⟨p, _, c, h⟩⟩
    ·
     refine WS.buildI1 sl42 zv3 rfl (fun _ => rfl) ?_; intro v29
     refine Wd (Qa ?_)
     refine Ao 2 rfl ?_
     refine Wc rfl rfl ent79 (fun u hu => CloneI_k (ks.map Int.ofNat) vk u (h1.st hu) (by omega)) (fun _ => rfl) ?_; intro v27 hv27
     refine Wd (Qa ?_)
     refine Ao 5 rfl ?_
     refine WS.appendI (j := 0) (ys := [nth (us.map Int.ofNat) q]) sl42 zv3 rfl rfl rfl (fun u hu => oints_SlI hu (j := 1) rfl) (by simp only [List.length_singleton]; omega) (by simp only [List.length_singleton]; omega) (fun _ => rfl) (fun _ => rfl) ?_; intro v30; refine WS.sn (j := 0) rfl (by simp) (fun hvn30 hvs30 => ?_)
     refine Wd (Qa ?_)
     refine Ao 12 rfl ?_
     refine WS.weak (fun u hu => by rw [hkm] at hu; exact hu) ?_; refine Wc rfl rfl ent76 (fun u hu => ih (ks ++ [us.getD q.toNat 0]) (us.drop (q + 1).toNat) v30 _ u (hch.st hu) (oints_SlI hu (j := 0) rfl) (hsub u (h2.st hu)) hks2 hus2 (N - 1) (by omega) (by simp; omega) (by simp; omega)) (fun _ => rfl) ?_; rintro v37 ⟨hv37, u37, hv37s⟩
     refine Wd (Qa ?_)
     refine Ar [13] ?_
     refine Ae ?_
     refine QS.sel [0] rfl ?_
     exact QS.head (v37) rfl rfl ⟨hv37, by obtain ⟨p, c, h⟩ := hv37s.shape; exact ⟨p, _, c, h⟩⟩
   ·
    intro s t hs
    refine Nz 1 ?_
    refine Wk 0 (det_nenilV sl42 rfl rfl hs.2) ?_
    refine Wd (Qc (CS.cond rfl ?_ ?_))<;>intro hc3<;>try simp only [bq] at hc3
    ·
     obtain ⟨r, hr⟩ : ∃ r, (moreF lw ls cs (m + 1) (ks ++ [us.getD q.toNat 0]) (us.drop (q + 1).toNat)) = some r := by
      cases h : (moreF lw ls cs (m + 1) (ks ++ [us.getD q.toNat 0]) (us.drop (q + 1).toNat)) with
      | none => rw [hs.1, h] at hc3; cases hc3
      | some r => exact ⟨r, rfl⟩
     have hfin : moreF lw ls cs ((m + 1) + 1) ks us = some r := by rw [hq4, hdr]; exact moreF_some hr
     refine Nz 2 ?_
     exact Wd (Qc (Cr (Qs (Qr (Qr (Qs (Qr (out1 rfl rfl (moreRet (j := 0) (by rw [hs.1, hr, hfin]) rfl (by rw [hr, hfin]))))))))))
    ·
     have hr : (moreF lw ls cs (m + 1) (ks ++ [us.getD q.toNat 0]) (us.drop (q + 1).toNat)) = none := by
      cases h : (moreF lw ls cs (m + 1) (ks ++ [us.getD q.toNat 0]) (us.drop (q + 1).toNat)) with
      | none => rfl
      | some r => rw [hs.1, h] at hc3; cases hc3
     refine Ck (Qb (Qc (Ny 0 ?_)))
     refine Wk 1 Za ?_
     refine Wd ?_
     refine QS.sel [] rfl ?_
     exact QS.head (q + 1) rfl rfl ⟨⟨by omega, by omega, by rw [hq4, hdr, moreF_none hr]⟩, by omega⟩
  ·
   have hfin : moreF lw ls cs ((m + 1) + 1) ks us = none := by rw [hq4, List.drop_eq_nil_of_le (by omega)]; exact moreF_nil _ _
   refine Cv (Qe (Qe (Qx (Qc (Nz 1 ?_)))))
   exact Wd (Qc (Cr (out1 rfl rfl (moreRetN (by rw [hfin]; rfl) (by rw [hfin]; rfl)))))
theorem more_k (lw ls : Int) (cs : List Clue) (b : Nat) (e : TypeId) (rv : Value) (gs : List Value) (hL : lockB lw ls = true) : ∀ (m : Nat) (ks us : List Nat) (vk vu : Value) (w : World) (hch : ChB w b e (flagsOf lw ls cs) (manyC lw ls) rv gs) (h1 : SlI w vk (ks.map Int.ofNat)) (h2 : SlI w vu (us.map Int.ofNat)) (hks : ∀ k ∈ ks, k < cs.length) (hus : ∀ k ∈ us, k < cs.length) (N : Int) (hN : N = ((m + 1 : Nat) : Int)) (hm : ks.length + m ≤ 100) (hul : us.length ≤ 1000), Calls Tryz.prog 76 #[.pointer (some ⟨b, 0, none⟩), vk, vu, .int .i64 N] w (fun e w' => ∃ v : Value, (nilB v = (moreF lw ls cs (m + 1) ks us).isNone ∧ ∃ u0, SlI u0 v (((moreF lw ls cs (m + 1) ks us).getD []).map Int.ofNat)) ∧ RetF w v (roI v (((moreF lw ls cs (m + 1) ks us).getD []).map Int.ofNat)) e w')
 | 0, ks, us, vk, vu, w, hch, h1, h2, hks, hus, N, hN, hm, hul => more1_k lw ls cs b e rv gs w hL hch ks us vk vu h1 h2 hks hus N hN hm hul
 | m + 1, ks, us, vk, vu, w, hch, h1, h2, hks, hus, N, hN, hm, hul => moreS_k lw ls cs b e rv gs w hL hch m (more_k lw ls cs b e rv gs hL m) ks us vk vu h1 h2 hks hus N hN hm hul
end Go.Proofs.YtaeagngfhceceaaGreatDoor
set_option maxHeartbeats 8000000
namespace Go.Proofs.YtaeagngfhceceaaGreatDoor
open Go.RowKit Go.Proofs
set_option maxRecDepth 100000
set_option linter.unusedVariables false
set_option linter.unusedSimpArgs false
theorem Choose_k (lw ls : Int) (cs : List Clue) (gs : List Value) (cv : Value) (xs : List Int) (xv : Value) (w : World) (hk : ClS w cv cs gs) (h2 : SlI w xv xs) :
  Calls Tryz.prog 24 #[.agg #[.int .i64 lw, .int .i64 ls], cv, xv] w (fun e w' => ∃ x : Value, (∃ u0, SlI u0 x (if chE lw ls cs xs = 0 then ((chooseX lw ls cs xs).getD []).map Int.ofNat else [])) ∧ RetF w (.tuple #[x, .int .i64 (chE lw ls cs xs)]) (roI x (if chE lw ls cs xs = 0 then ((chooseX lw ls cs xs).getD []).map Int.ofNat else [])) e w') := by
 obtain ⟨hkl, pp, cap, hpv, hkr⟩ := hk.sp
 subst hpv
 replace hk : ClS w (.slice pp cs.length cap) cs gs := ⟨⟨hkl, _, _, rfl, hkr⟩, hk.len, hk.el⟩
 clear hkl hkr
 have hkl := hk.le
 have hcs := hk.sp
 have hgl := hk.len
 refine enterM St.nil Tryz.func24 rfl rfl (Nat.le_of_ble_eq_true rfl) ?_
 refine Nz 0 ?_
 refine Wb 0 rfl rfl (fun _ => rfl) (fun _ => rfl) fun b3 hb3 => ?_
 refine Wb 2 rfl rfl (fun _ => rfl) (fun _ => rfl) fun b4 hb4 => ?_
 refine Wd (Qc (Cs (Nz 0 ?_)))
 refine Wk 0 (by first | exact det_loadb0 (j := 1) rfl rfl tk54 | exact det_loadbN (j := 1) rfl rfl (by rfl) tk54 | exact det_loadwN rfl (by assumption) (by rfl) tk54 | exact det_loadbK (n := 2) (j := 1) rfl rfl rfl rfl tk54) ?_
 refine Wk 1 (Cb rfl rfl ent73 (fun u hu => Check_k _ _ u)) ?_
 refine Wd (Qc (Nz 2 ?_))
 refine Wd (Qc (CS.cond rfl ?_ ?_))<;>intro hc1<;>try simp only [bq] at hc1
 ·
  refine Nz 3 ?_
  refine Wd (Qc (Cr (Qr ?_)))
  exact outE (Or.inl rfl) (res2 rfl rfl rfl) (retIn (by simp [chE, hc1]) (by simp [chE, hc1]))
 ·
  have hL : lockB lw ls = true := by
   cases h : lockB lw ls with
   | true => rfl
   | false => simp [lockE, h] at hc1
  have hmc := manyC_le hL
  have hal := allC_len lw ls
  refine Ck (Qc (Cs (Nz 0 ?_)))
  refine Wk 0 (by first | exact det_loadb (j := 0) rfl rfl rfl tk46 | exact det_loadw rfl (by assumption) rfl tk46) ?_
  refine Wk 1 (by first | exact det_lenS sl46 rfl (by assumption) | exact det_lenS sl46 rfl (by first | exact SlL.sp (by assumption) | exact ClS.sp (by assumption)) | exact det_lenO sl46 rfl | exact det_lenV sl46 rfl ⟨_, _, rfl⟩) ?_
  refine Wd (Qc (CS.cond rfl ?_ ?_))<;>intro hc2<;>try simp only [bq] at hc2
  ·
   refine Nz 2 ?_
   refine Wd (Qc (Cr (Qr ?_)))
   exact outE (Or.inl rfl) (res2 rfl rfl rfl) (retIn (by simp [chE, hc1, show 12 < cs.length by omega]) (by simp [chE, hc1, show 12 < cs.length by omega]))
  ·
   refine Ck (Qc (Cs (Nz 0 ?_)))
   refine Wk 0 (by first | exact det_loadb0 (j := 1) rfl rfl tk54 | exact det_loadbN (j := 1) rfl rfl (by rfl) tk54 | exact det_loadwN rfl (by assumption) (by rfl) tk54 | exact det_loadbK (n := 2) (j := 1) rfl rfl rfl rfl tk54) ?_
   refine Wk 0 (by first | exact det_loadb (j := 0) rfl rfl rfl tk46 | exact det_loadw rfl (by assumption) rfl tk46) ?_
   refine Wk 1 (Cb rfl rfl ent68 (fun u hu => checkClues_k _ _ _ _ _ u (hk.st hu))) ?_
   refine Wd (Qc (Nz 2 ?_))
   refine Wd (Qc (CS.cond rfl ?_ ?_))<;>intro hc3<;>try simp only [bq] at hc3
   ·
    refine Nz 3 ?_
    refine Wd (Qc (Cr (Qr ?_)))
    exact outE (Or.inl rfl) (res2 rfl rfl rfl) (retIn (by simp [chE, hc1, show ¬ 12 < cs.length by omega, hc3]) (by simp [chE, hc1, show ¬ 12 < cs.length by omega, hc3]))
   ·
    have hC := cluesE_clue hc3
    refine Ck (Qc (Cs (Nz 0 ?_)))
    refine Wk 1 (by first | exact det_loadb0 (j := 1) rfl rfl tk54 | exact det_loadbN (j := 1) rfl rfl (by rfl) tk54 | exact det_loadwN rfl (by assumption) (by rfl) tk54 | exact det_loadbK (n := 2) (j := 1) rfl rfl rfl rfl tk54) ?_
    refine Wk 1 (Cb rfl rfl ent69 (fun u hu => CheckCode_k _ _ _ _ u (h2.st hu))) ?_
    refine Wd (Qc (Nz 2 ?_))
    refine Wd (Qc (CS.cond rfl ?_ ?_))<;>intro hc4<;>try simp only [bq] at hc4
    ·
     refine Nz 3 ?_
     refine Wd (Qc (Cr (Qr ?_)))
     exact outE (Or.inl rfl) (res2 rfl rfl rfl) (retIn (by simp [chE, hc1, show ¬ 12 < cs.length by omega, hc3, hc4]) (by simp [chE, hc1, show ¬ 12 < cs.length by omega, hc3, hc4]))
    ·
     have hU := use_all hc3 hc4
     have hche : chE lw ls cs xs = if (chooseX lw ls cs xs).isNone then 3 else 0 := by
      have h12 : ¬ 12 < cs.length := by omega
      simp only [chE, hc1, h12, hc3, hc4, not_true_eq_false, if_false]
     refine Ck (Qc (Nz 0 ?_))
     refine Wk 0 (by first | exact det_loadb (j := 0) rfl rfl rfl tk46 | exact det_loadw rfl (by assumption) rfl tk46) ?_
     refine Wk 0 (by first | exact det_lenS sl46 rfl (by assumption) | exact det_lenS sl46 rfl (by first | exact SlL.sp (by assumption) | exact ClS.sp (by assumption)) | exact det_lenO sl46 rfl | exact det_lenV sl46 rfl ⟨_, _, rfl⟩) ?_
     refine WS.makeListsL (f := Value.bool) (e := 4) sl120 rfl rfl zv66 (by omega) (by omega) (by omega) (fun _ => rfl) ?_; intro v42 hv42
     refine Wk 0 (det_build1 plc122 zv122 rfl rfl (by intro p hp; simp at hp; subst hp; exact hv42)) ?_
     refine Wb 0 rfl rfl (fun _ => rfl) (fun _ => rfl) fun b44 hb44 => ?_
     refine Wl 0 zv119 (fun _ => rfl) (fun _ => rfl) fun b11 hb11 => ?_
     refine Ws 0 0 ?_
     refine Wd (Qc (Cs (Nz 0 ?_)))
     refine Wk 0 (by first | exact det_loadb0 (j := 5) rfl rfl tk54 | exact det_loadbN (j := 5) rfl rfl (by rfl) tk54 | exact det_loadwN rfl (by assumption) (by rfl) tk54 | exact det_loadbK (n := 2) (j := 5) rfl rfl rfl rfl tk54) ?_
     refine Wc rfl rfl ent74 (fun u hu => codes_k _ _ u) (fun _ => rfl) ?_; intro bc _
     refine Wd (Qc (Ce ?_))
     refine CS.weak (L' := [exS fun ps : List (Value × List Bool) => star [osl 66 1 v42 (ps.map (·.1)).length (ps.map (·.1)), star (lol Value.bool 4 ps), fact (ps.map (·.2) = cs.map fun c => [].map (holdsT c))], blk b44 [v42, .int .i64 0] 122, blk b11 [.pointer (some ⟨b44, 0, none⟩)] 119, blk b4 [.slice pp cs.length cap] 46, blk b3 [.int .i64 lw, .int .i64 ls] 54] ++ [blk bc [.int .i64 lw, .int .i64 ls] 116]) (fun u hu => St.exI (List.replicate cs.length ((Value.slice none 0 0, []) : Value × List Bool)) (St.pack (L1 := [_, _, _]) ((hu.factI (p := (List.replicate cs.length ((Value.slice none 0 0, []) : Value × List Bool)).map (·.2) = cs.map fun c => ([] : List (List Int)).map (holdsT c)) (by simp [List.map_const'])).sel [4, 4, 0, 2, 1, 1, 1, 0] rfl))) ?_
     refine CS.rangeA (A := [blk bc [.int .i64 lw, .int .i64 ls] 116]) rfl ent132 (codesI_k lw ls w bc hL) (fun pre => [exS fun ps : List (Value × List Bool) => star [osl 66 1 v42 (ps.map (·.1)).length (ps.map (·.1)), star (lol Value.bool 4 ps), fact (ps.map (·.2) = cs.map fun c => pre.map (holdsT c))], blk b44 [v42, .int .i64 pre.length] 122, blk b11 [.pointer (some ⟨b44, 0, none⟩)] 119, blk b4 [.slice pp cs.length cap] 46, blk b3 [.int .i64 lw, .int .i64 ls] 54]) (fun kd pre => match kd with | _ => [fact False]) (fun _ => rfl) (Nat.le_of_ble_eq_true rfl) (fun _ => rfl) ?_ ?_ ?_
     ·
      intro lr pre x post v F hall
      have hx : codeB lw ls x = true := allC_mem hL (by rw [hall]; simp)
      have hpn : pre.length < manyC lw ls := by rw [← hal, hall]; simp
      refine CS.sel [1, 0, 0, 0, 0, 0, 0] rfl ?_
      refine CS.ex ?_; intro ps
      refine CS.unpack ?_
      refine CS.factE (j := 2) rfl (fun hq => ?_)
      refine CS.sel [0, 0, 1, 1, 1, 1, 1, 1] rfl ?_
      refine Ce (Cs (Nz 0 ?_))
      refine Wk 0 (by first | exact det_loadb (j := 5) rfl rfl rfl tk46 | exact det_loadw rfl (by assumption) rfl tk46) ?_
      refine Wk 1 (by first | exact det_lenS sl46 rfl (by assumption) | exact det_lenS sl46 rfl (by first | exact SlL.sp (by assumption) | exact ClS.sp (by assumption)) | exact det_lenO sl46 rfl | exact det_lenV sl46 rfl ⟨_, _, rfl⟩) ?_
      refine Wd (Qc (Ce ?_))
      refine CS.loopM (σ := Int × List (Value × List Bool)) [13, 14, 51, 52, 53, 54, 55, 56, 57, 58, 59, 60, 61, 62, 63, 64, 65, 66, 67, 68, 69, 70, 71, 72, 73] (fun s => [(50, .int .i64 s.1)]) (fun s => [osl 66 1 v42 (s.2.map (·.1)).length (s.2.map (·.1)), star (lol Value.bool 4 s.2), oints 3 v x, blk b44 [v42, .int .i64 pre.length] 122, blk b11 [.pointer (some ⟨b44, 0, none⟩)] 119, blk b4 [.slice pp cs.length cap] 46, blk b3 [.int .i64 lw, .int .i64 ls] 54, F]) (fun s => 0 ≤ s.1 ∧ s.1 ≤ cs.length ∧ s.2.map (·.2) = flgT cs pre x s.1.toNat) (fun s => (cs.length - s.1).toNat) (0, ps) (fun _ _ => rfl) rfl rfl ⟨by simp, by simp, by simp only; rw [hq]; exact flgT_zero.symm⟩ ?_
      intro q t hs
      obtain ⟨hq1, hq2, hq3⟩ := hs
      refine Nz 1 ?_
      refine Wd (Qc (Cs (CS.cond rfl ?_ ?_)))<;>intro hc5<;>try simp only [bq] at hc5
      ·
       have hUx : Use lw ls (nth cs q.1) x := ⟨hL, hC _ (nth_mem hq1 (by omega)), hx⟩
       have hin : q.1.toNat < cs.length := by omega
       have hgi : (nth gs q.1).oneCell' = true := hk.one _ (nth_mem hq1 (by omega))
       obtain ⟨ga2, hp⟩ := snd_at hq3 (flgT_at (pre := pre) (x := x) hin)
       have hpl := snd_len hq3
       have hpl2 : (flgT cs pre x q.1.toNat).length = cs.length := by simp [flgT]
       have hpl3 : (q.2.map (·.1)).length = cs.length := by rw [List.length_map]; omega
       refine Ck (Qc (Cs (Ce (Nz 1 ?_))))
       refine Wk 0 (det_idxCl sl46 rfl rfl (by assumption) (by omega) (by omega)) ?_
       refine Wk 0 (by first | exact det_ldCl rfl (by assumption) (by omega) tk48 | exact det_loadb0 (j := 0) rfl rfl tk48 | exact det_loadb0 (j := 1) rfl rfl tk48 | exact det_loadb0 (j := 2) rfl rfl tk48 | exact det_loadb0 (j := 3) rfl rfl tk48 | exact det_loadb0 (j := 4) rfl rfl tk48 | exact det_loadb0 (j := 5) rfl rfl tk48 | exact det_loadb0 (j := 6) rfl rfl tk48 | exact det_loadb0 (j := 7) rfl rfl tk48 | exact det_loadbN (j := 0) rfl rfl (by rfl) tk48 | exact det_loadbN (j := 1) rfl rfl (by rfl) tk48 | exact det_loadbN (j := 2) rfl rfl (by rfl) tk48 | exact det_loadbN (j := 3) rfl rfl (by rfl) tk48 | exact det_loadbN (j := 4) rfl rfl (by rfl) tk48 | exact det_loadbN (j := 5) rfl rfl (by rfl) tk48 | exact det_loadbN (j := 6) rfl rfl (by rfl) tk48 | exact det_loadbN (j := 7) rfl rfl (by rfl) tk48 | exact det_loadwN rfl (by assumption) (by rfl) tk48 | exact det_loadbK (n := 7) (j := 0) rfl rfl rfl rfl tk48 | exact det_loadbK (n := 7) (j := 1) rfl rfl rfl rfl tk48 | exact det_loadbK (n := 7) (j := 2) rfl rfl rfl rfl tk48 | exact det_loadbK (n := 7) (j := 3) rfl rfl rfl rfl tk48 | exact det_loadbK (n := 7) (j := 4) rfl rfl rfl rfl tk48 | exact det_loadbK (n := 7) (j := 5) rfl rfl rfl rfl tk48 | exact det_loadbK (n := 7) (j := 6) rfl rfl rfl rfl tk48 | exact det_loadbK (n := 7) (j := 7) rfl rfl rfl rfl tk48) ?_
       refine Wl 1 zv48 (fun _ => rfl) (fun _ => rfl) fun b14 hb14 => ?_
       refine WS.storeW (j := 0) rfl rfl rfl rfl (clCells_one hgi) tk48 rfl rfl ?_
       refine Wd (Qc ?_)
       refine CS.drawnTillBut 18 2 (k := 19) mixed rfl rfl rfl ?_
       refine Tk 19 0 [1,2] rfl (by first | exact det_loadb (j := 4) rfl rfl rfl tk119 | exact det_loadw rfl (by assumption) rfl tk119) ?_
       refine Tk 19 3 [4] rfl (by first | exact det_loadb (j := 0) rfl rfl rfl tk120 | exact det_loadb (j := 1) rfl rfl rfl tk120 | exact det_loadb (j := 2) rfl rfl rfl tk120 | exact det_loadb (j := 3) rfl rfl rfl tk120 | exact det_loadb (j := 4) rfl rfl rfl tk120 | exact det_loadb (j := 5) rfl rfl rfl tk120 | exact det_loadb (j := 6) rfl rfl rfl tk120 | exact det_loadb (j := 7) rfl rfl rfl tk120 | exact det_loadw rfl (by assumption) rfl tk120) ?_
       refine Tk 19 5 [6,7] rfl (by first | exact det_loadb (j := 4) rfl rfl rfl tk119 | exact det_loadw rfl (by assumption) rfl tk119) ?_
       refine Tk 19 8 [9] rfl (by first | exact det_loadb (j := 0) rfl rfl rfl tk120 | exact det_loadb (j := 1) rfl rfl rfl tk120 | exact det_loadb (j := 2) rfl rfl rfl tk120 | exact det_loadb (j := 3) rfl rfl rfl tk120 | exact det_loadb (j := 4) rfl rfl rfl tk120 | exact det_loadb (j := 5) rfl rfl rfl tk120 | exact det_loadb (j := 6) rfl rfl rfl tk120 | exact det_loadb (j := 7) rfl rfl rfl tk120 | exact det_loadw rfl (by assumption) rfl tk120) ?_
       refine Tk 19 10 [] rfl (det_idxO (j := 1) sl120 rfl rfl rfl (by omega) (by omega)) ?_
       refine Tk 19 11 [] rfl (det_ldO (j := 1) rfl rfl (by rw [Nat.mul_one, List.getElem?_map, hp]; rfl) tk66) ?_
       refine Tk 19 12 [13] rfl (by first | exact det_ldCl rfl (by assumption) (by omega) tk48 | exact det_loadb0 (j := 0) rfl rfl tk48 | exact det_loadbN (j := 0) rfl rfl (by rfl) tk48 | exact det_loadwN rfl (by assumption) (by rfl) tk48 | exact det_loadbK (n := 7) (j := 0) rfl rfl rfl rfl tk48) ?_
       refine Tk 19 14 [] rfl (Cb rfl rfl ent75 (fun u hu => holds_k _ _ _ _ _ _ u hUx ((hk.st hu).el q.1 hq1 (by omega)) (oints_SlI hu (j := 2) rfl))) ?_
       refine To 15 rfl ?_
       refine WS.buildV1 sl66 zv4 rfl (by first | rfl | assumption) (fun _ => rfl) ?_; intro v70
       refine Wd (Qt ?_)
       refine To 16 rfl ?_
       refine WS.appendAtL (f := Value.bool) (j := 3) (p := (ga2, pre.map (holdsT (cs.getD q.1.toNat default)))) (a := holdsT (cs.getD q.1.toNat default) x) (i := q.1.toNat) sl66 zv4 rfl rfl hp rfl (fun u hu => osl_SlC hu (j := 0) rfl) rfl (by simp only [List.length_map]; omega) (by simp only [List.length_map]; omega) (fun _ => rfl) (fun _ => rfl) ?_; intro v71 hv71
       refine Wd (Qt ?_)
       refine Tk 19 17 [] rfl (det_idxO (j := 1) sl120 rfl rfl rfl (by omega) (by omega)) ?_
       refine To 18 rfl ?_
       refine WS.storeO (j := 2) rfl rfl (by rw [Nat.mul_one, List.length_map]; omega) rfl hv71 tk66 rfl ?_
       refine Wd (Qt ?_)
       refine Te ?_
       refine Qb (Qc (Ny 0 ?_))
       refine Wk 1 Za ?_
       refine Wd ?_
       refine QS.sel [2, 2, 2, 2, 2, 2, 2, 2] rfl ?_
       exact QS.head ((q.1 + 1, q.2.set q.1.toNat (v71, pre.map (holdsT (cs.getD q.1.toNat default)) ++ [holdsT (cs.getD q.1.toNat default) x]))) rfl (by simp only [map_fst_set, Nat.mul_one, List.length_set]) ⟨⟨by simp; omega, by simp; omega, by simp only; rw [map_snd_set hq3, flgT_set hin, show (q.1 + 1).toNat = q.1.toNat + 1 by omega]⟩, by simp; omega⟩
      ·
       refine Cv (Qe (Qe (Qx (Qc (Ny 0 ?_)))))
       refine Wk 2 (by first | exact det_loadb (j := 4) rfl rfl rfl tk119 | exact det_loadw rfl (by assumption) rfl tk119) ?_
       refine Wk 0 (by first | exact det_ldI rfl (by assumption) (by omega) tk3 | exact det_loadb (j := 0) rfl rfl rfl tk3 | exact det_loadb (j := 1) rfl rfl rfl tk3 | exact det_loadb (j := 2) rfl rfl rfl tk3 | exact det_loadb (j := 3) rfl rfl rfl tk3 | exact det_loadb (j := 4) rfl rfl rfl tk3 | exact det_loadb (j := 5) rfl rfl rfl tk3 | exact det_loadb (j := 6) rfl rfl rfl tk3 | exact det_loadb (j := 7) rfl rfl rfl tk3 | exact det_loadw rfl (by assumption) rfl tk3) ?_
       refine Wk 2 Za ?_
       first | refine WS.store (j := 0) rfl rfl (by first | decide | omega | (simp; done) | (simp; omega) | exact Nat.le_of_ble_eq_true rfl) rfl (by first | rfl | assumption) tk3 rfl rfl ?_ | refine WS.store (j := 0) rfl rfl (by first | decide | omega | (simp; done) | (simp; omega) | exact Nat.le_of_ble_eq_true rfl) rfl (by first | rfl | assumption) tk3 (lset_eq _ _ _) rfl ?_ | refine WS.store (j := 1) rfl rfl (by first | decide | omega | (simp; done) | (simp; omega) | exact Nat.le_of_ble_eq_true rfl) rfl (by first | rfl | assumption) tk3 rfl rfl ?_ | refine WS.store (j := 1) rfl rfl (by first | decide | omega | (simp; done) | (simp; omega) | exact Nat.le_of_ble_eq_true rfl) rfl (by first | rfl | assumption) tk3 (lset_eq _ _ _) rfl ?_ | refine WS.store (j := 2) rfl rfl (by first | decide | omega | (simp; done) | (simp; omega) | exact Nat.le_of_ble_eq_true rfl) rfl (by first | rfl | assumption) tk3 rfl rfl ?_ | refine WS.store (j := 2) rfl rfl (by first | decide | omega | (simp; done) | (simp; omega) | exact Nat.le_of_ble_eq_true rfl) rfl (by first | rfl | assumption) tk3 (lset_eq _ _ _) rfl ?_ | refine WS.store (j := 3) rfl rfl (by first | decide | omega | (simp; done) | (simp; omega) | exact Nat.le_of_ble_eq_true rfl) rfl (by first | rfl | assumption) tk3 rfl rfl ?_ | refine WS.store (j := 3) rfl rfl (by first | decide | omega | (simp; done) | (simp; omega) | exact Nat.le_of_ble_eq_true rfl) rfl (by first | rfl | assumption) tk3 (lset_eq _ _ _) rfl ?_ | refine WS.store (j := 4) rfl rfl (by first | decide | omega | (simp; done) | (simp; omega) | exact Nat.le_of_ble_eq_true rfl) rfl (by first | rfl | assumption) tk3 rfl rfl ?_ | refine WS.store (j := 4) rfl rfl (by first | decide | omega | (simp; done) | (simp; omega) | exact Nat.le_of_ble_eq_true rfl) rfl (by first | rfl | assumption) tk3 (lset_eq _ _ _) rfl ?_ | refine WS.store (j := 5) rfl rfl (by first | decide | omega | (simp; done) | (simp; omega) | exact Nat.le_of_ble_eq_true rfl) rfl (by first | rfl | assumption) tk3 rfl rfl ?_ | refine WS.store (j := 5) rfl rfl (by first | decide | omega | (simp; done) | (simp; omega) | exact Nat.le_of_ble_eq_true rfl) rfl (by first | rfl | assumption) tk3 (lset_eq _ _ _) rfl ?_ | refine WS.store (j := 6) rfl rfl (by first | decide | omega | (simp; done) | (simp; omega) | exact Nat.le_of_ble_eq_true rfl) rfl (by first | rfl | assumption) tk3 rfl rfl ?_ | refine WS.store (j := 6) rfl rfl (by first | decide | omega | (simp; done) | (simp; omega) | exact Nat.le_of_ble_eq_true rfl) rfl (by first | rfl | assumption) tk3 (lset_eq _ _ _) rfl ?_ | refine WS.store (j := 7) rfl rfl (by first | decide | omega | (simp; done) | (simp; omega) | exact Nat.le_of_ble_eq_true rfl) rfl (by first | rfl | assumption) tk3 rfl rfl ?_ | refine WS.store (j := 7) rfl rfl (by first | decide | omega | (simp; done) | (simp; omega) | exact Nat.le_of_ble_eq_true rfl) rfl (by first | rfl | assumption) tk3 (lset_eq _ _ _) rfl ?_
       refine Wd (Qb ?_)
       refine QS.sel [0, 0, 0, 0, 0, 0, 0, 0] rfl ?_
       exact fun u hu => by
        simp only [roundQ, List.length_append, List.length_singleton]
        have h1 := hu.factI (p := q.2.map (·.2) = cs.map fun c => (pre ++ [x]).map (holdsT c)) (by rw [hq3, show q.1.toNat = cs.length by omega, flgT_end])
        have h2 := h1.sel [1, 1, 0, 0, 0, 0, 0, 0, 0] rfl
        refine St.perm ?_ (List.Perm.swap _ _ _)
        exact St.exI q.2 (St.pack (L1 := [_, _, _]) h2)
     ·
      intro D
      refine QS.sel [1, 0, 0, 0, 0, 0, 0] rfl ?_
      refine QS.ex ?_; intro ps
      refine QS.unpack ?_
      refine QS.factE (j := 2) rfl (fun hq => ?_)
      refine QS.sel [0, 0, 2, 2, 2, 2, 1, 1] rfl ?_
      refine Qb (Qc (Nz 1 ?_))
      refine Wd (Qc (Cs (Nz 0 ?_)))
      refine Wk 0 (by first | exact det_loadb (j := 4) rfl rfl rfl tk46 | exact det_loadw rfl (by assumption) rfl tk46) ?_
      refine Wk 1 (by first | exact det_lenS sl46 rfl (by assumption) | exact det_lenS sl46 rfl (by first | exact SlL.sp (by assumption) | exact ClS.sp (by assumption)) | exact det_lenO sl46 rfl | exact det_lenV sl46 rfl ⟨_, _, rfl⟩) ?_
      refine Wd (Qc (Ce ?_))
      refine CS.weak (fun _ hu => hu.osl0 (e := 3) (size := 1)) ?_
      refine CS.loopM (σ := Int × Value) [16, 17, 84, 85, 86, 87, 88, 89, 90, 91, 92, 93, 94, 95] (fun s => [(15, s.2), (83, .int .i64 s.1)]) (fun s => [oints 3 s.2 ((usTo cs xs s.1.toNat).map Int.ofNat), osl 66 1 v42 (ps.map (·.1)).length (ps.map (·.1)), star (lol Value.bool 4 ps), blk b44 [v42, .int .i64 (allC lw ls).length] 122, blk b11 [.pointer (some ⟨b44, 0, none⟩)] 119, blk b4 [.slice pp cs.length cap] 46, blk b3 [.int .i64 lw, .int .i64 ls] 54, recd D (.deferred (some [])), blk bc [.int .i64 lw, .int .i64 ls] 116]) (fun s => 0 ≤ s.1 ∧ s.1 ≤ cs.length) (fun s => (cs.length - s.1).toNat) (0, .slice none 0 0) (fun _ _ => rfl) rfl rfl ⟨by simp, by simp⟩ ?_
      intro r t hs
      obtain ⟨hr1, hr2⟩ := hs
      have hutl := usTo_len (cs := cs) (xs := xs) r.1.toNat
      refine Nz 1 ?_
      refine Wd (Qc (Cs (CS.cond rfl ?_ ?_)))<;>intro hc6<;>try simp only [bq] at hc6
      ·
       have hUy : Use lw ls (nth cs r.1) xs := hU _ (nth_mem hr1 (by omega))
       have hgi : (nth gs r.1).oneCell' = true := hk.one _ (nth_mem hr1 (by omega))
       refine Ck (Qc (Cs (Ce (Nz 1 ?_))))
       refine Wk 0 (det_idxCl sl46 rfl rfl (by assumption) (by omega) (by omega)) ?_
       refine Wk 0 (by first | exact det_ldCl rfl (by assumption) (by omega) tk48 | exact det_loadb0 (j := 0) rfl rfl tk48 | exact det_loadb0 (j := 1) rfl rfl tk48 | exact det_loadb0 (j := 2) rfl rfl tk48 | exact det_loadb0 (j := 3) rfl rfl tk48 | exact det_loadb0 (j := 4) rfl rfl tk48 | exact det_loadb0 (j := 5) rfl rfl tk48 | exact det_loadb0 (j := 6) rfl rfl tk48 | exact det_loadb0 (j := 7) rfl rfl tk48 | exact det_loadbN (j := 0) rfl rfl (by rfl) tk48 | exact det_loadbN (j := 1) rfl rfl (by rfl) tk48 | exact det_loadbN (j := 2) rfl rfl (by rfl) tk48 | exact det_loadbN (j := 3) rfl rfl (by rfl) tk48 | exact det_loadbN (j := 4) rfl rfl (by rfl) tk48 | exact det_loadbN (j := 5) rfl rfl (by rfl) tk48 | exact det_loadbN (j := 6) rfl rfl (by rfl) tk48 | exact det_loadbN (j := 7) rfl rfl (by rfl) tk48 | exact det_loadwN rfl (by assumption) (by rfl) tk48 | exact det_loadbK (n := 7) (j := 0) rfl rfl rfl rfl tk48 | exact det_loadbK (n := 7) (j := 1) rfl rfl rfl rfl tk48 | exact det_loadbK (n := 7) (j := 2) rfl rfl rfl rfl tk48 | exact det_loadbK (n := 7) (j := 3) rfl rfl rfl rfl tk48 | exact det_loadbK (n := 7) (j := 4) rfl rfl rfl rfl tk48 | exact det_loadbK (n := 7) (j := 5) rfl rfl rfl rfl tk48 | exact det_loadbK (n := 7) (j := 6) rfl rfl rfl rfl tk48 | exact det_loadbK (n := 7) (j := 7) rfl rfl rfl rfl tk48) ?_
       refine Wl 1 zv48 (fun _ => rfl) (fun _ => rfl) fun b17 hb17 => ?_
       refine WS.storeW (j := 0) rfl rfl rfl rfl (clCells_one hgi) tk48 rfl rfl ?_
       refine Wd (Qc (Nz 0 ?_))
       refine Wk 1 (by first | exact det_ldCl rfl (by assumption) (by omega) tk48 | exact det_loadb0 (j := 0) rfl rfl tk48 | exact det_loadbN (j := 0) rfl rfl (by rfl) tk48 | exact det_loadwN rfl (by assumption) (by rfl) tk48 | exact det_loadbK (n := 7) (j := 0) rfl rfl rfl rfl tk48) ?_
       refine Wk 0 (Cb rfl rfl ent75 (fun u hu => holds_k _ _ _ _ _ _ u hUy ((hk.st hu).el r.1 hr1 (by omega)) (h2.st hu))) ?_
       refine Wd (Qc (CS.cond rfl ?_ ?_))<;>intro hc7<;>try simp only [bq] at hc7
       ·
        refine Ny 2 ?_
        refine WS.buildI1 sl42 zv3 rfl (fun _ => rfl) ?_; intro v93
        refine WS.appendI (j := 2) sl42 zv3 rfl rfl rfl (fun u hu => oints_SlI hu (j := 0) rfl) (by first | omega | (simp; omega) | (simp only [List.length_append, List.length_singleton, List.length_map, List.length_cons, List.length_nil] at *; omega)) (by first | omega | (simp; omega) | (simp only [List.length_append, List.length_singleton, List.length_map, List.length_cons, List.length_nil] at *; omega)) (fun _ => rfl) (fun _ => rfl) ?_; intro v94; refine WS.oc (j := 2) rfl (fun hv94 => ?_)
        refine Wz 1 ?_
        refine Wd (Qb (Qc (Ny 0 ?_)))
        refine Wk 1 Za ?_
        refine Wd ?_
        refine QS.sel [2, 2, 2, 2, 2, 2, 2, 2, 2] rfl ?_
        exact QS.head ((r.1 + 1, v94)) rfl (by first | simp only [usTo_yes hr1 hc7] | simp only [usTo_no hr1 hc7]) ⟨⟨by simp; omega, by simp; omega⟩, by simp; omega⟩
       ·
        refine Ck (Qb (Qc (Ny 0 ?_)))
        refine Wk 1 Za ?_
        refine Wd ?_
        refine QS.sel [1, 1, 1, 1, 1, 1, 1, 1, 1] rfl ?_
        exact QS.head ((r.1 + 1, r.2)) rfl (by first | simp only [usTo_yes hr1 hc7] | simp only [usTo_no hr1 hc7]) ⟨⟨by simp; omega, by simp; omega⟩, by simp; omega⟩
      ·
       have hus : (usFrom cs xs 0).length = (usTo cs xs r.1.toNat).length := by rw [show r.1.toNat = cs.length by omega, usTo_all]
       have hum : ((usTo cs xs r.1.toNat).map Int.ofNat).length = (usTo cs xs r.1.toNat).length := by simp
       refine Cv (Qe (Qe (Qx (Qc (Cs (Nz 1 ?_))))))
       refine Wd (Qc (Ce ?_))
       refine CS.loopM (σ := Int) [6, 7, 19, 96, 97, 98, 99, 100, 101, 102, 103, 104, 105, 106, 107, 108] (fun s => [(18, .int .i64 s)]) (fun _ => _) (fun s => 1 ≤ s ∧ s ≤ (usFrom cs xs 0).length + 1 ∧ chF lw ls cs xs (s - 1).toNat = none) (fun s => ((usFrom cs xs 0).length + 1 - s).toNat) 1 (fun _ _ => rfl) rfl rfl ⟨by omega, by omega, rfl⟩ ?_
       intro n t hs
       obtain ⟨hn1, hn2, hn3⟩ := hs
       refine Cs (Nz 2 ?_)
       refine Wk 1 (Nb 0) ?_
       refine Wd (Qc (CS.cond rfl ?_ ?_))<;>intro hc8<;>try simp only [bq] at hc8
       ·
        have hnn : n.toNat = (n - 1).toNat + 1 := by omega
        refine Ck (Qc (Cs (Ce (Nz 0 ?_))))
        refine Wk 2 (by first | exact det_loadb (j := 4) rfl rfl rfl tk119 | exact det_loadw rfl (by assumption) rfl tk119) ?_
        refine Wc rfl rfl ent76 (fun u hu => more_k lw ls cs b44 122 v42 (ps.map (·.1)) hL (n - 1).toNat [] (usFrom cs xs 0) (.slice none 0 0) _ u (by have h9 := ChB_of hu (j1 := 3) (j2 := 1) (j3 := 2) rfl rfl rfl hq; rw [hal] at h9; exact h9) (SlI.none u) (by have h9 := oints_SlI hu (j := 0) rfl; rw [show r.1.toNat = cs.length by omega, usTo_all] at h9; exact h9) (by simp) usFrom_lt n (by omega) (by simp; omega) (by omega)) (fun _ => rfl) ?_; rintro vm ⟨hvm1, um, hvm3⟩; have hvm2 : ∃ p n c, vm = .slice p n c := (by obtain ⟨p9, c9, h9⟩ := hvm3.shape; exact ⟨p9, _, c9, h9⟩)
        refine Wz 1 ?_
        refine Wd (Qc (Nz 1 ?_))
        refine Wk 0 (det_nenilV sl42 rfl rfl hvm2) ?_
        refine Wd (Qc (CS.cond rfl ?_ ?_))<;>intro hc9<;>try simp only [bq] at hc9
        ·
         obtain ⟨r9, hr9⟩ : ∃ r, moreF lw ls cs ((n - 1).toNat + 1) [] (usFrom cs xs 0) = some r := by
          cases h : moreF lw ls cs ((n - 1).toNat + 1) [] (usFrom cs xs 0) with
          | none => rw [hvm1, h] at hc9; cases hc9
          | some r => exact ⟨r, rfl⟩
         have hfin : chooseX lw ls cs xs = some r9 := chF_found hn3 hr9 (by omega)
         rw [hfin] at hche
         have hche2 : chE lw ls cs xs = 0 := hche
         refine Nz 3 ?_
         refine Wd (Qc (Cr (Qs (Qr (Qr (Qs (Qr ?_)))))))
         exact outM (j := 8) (Or.inl rfl) rfl (res2 rfl rfl rfl) (retIq (v := vm) (fun S u hs => Star.ro (j := 0) rfl hs) (by rw [if_pos hche2, hfin, hr9]) (by rw [hche2]))
        ·
         have hr9 : moreF lw ls cs ((n - 1).toNat + 1) [] (usFrom cs xs 0) = none := by
          cases h : moreF lw ls cs ((n - 1).toNat + 1) [] (usFrom cs xs 0) with
          | none => rfl
          | some r => rw [hvm1, h] at hc9; cases hc9
         refine Ck (Qb (Qc (Ny 1 ?_)))
         refine Wk 1 Za ?_
         refine Wd ?_
         refine QS.sel [1, 1, 1, 1, 1, 1, 1, 1, 1] rfl ?_
         exact QS.head (n + 1) rfl rfl ⟨⟨by omega, by omega, by rw [show (n + 1 - 1).toNat = (n - 1).toNat + 1 by omega]; exact chF_next hn3 hr9⟩, by omega⟩
       ·
        have hfin : chooseX lw ls cs xs = none := by
         have : (n - 1).toNat = (usFrom cs xs 0).length := by omega
         rw [this] at hn3; exact hn3
        rw [hfin] at hche
        have hche2 : chE lw ls cs xs = 3 := hche
        refine Cv (Qe (Qe (Qx (Qc (Nz 2 ?_)))))
        refine Wd (Qc (Cr ?_))
        exact outM (j := 7) (Or.inl rfl) rfl (res2 rfl rfl rfl) (retIn (by rw [if_neg (by rw [hche2]; decide)]) (by rw [hche2]))
     ·
      intro D kd pre x post hall
      cases kd with
      | _ => exact fun u hu => (hu.factE (j := 1) rfl).elim
end Go.Proofs.YtaeagngfhceceaaGreatDoor
