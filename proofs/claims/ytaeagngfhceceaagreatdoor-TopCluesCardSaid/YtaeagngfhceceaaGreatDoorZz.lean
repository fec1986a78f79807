/- Merged texts of this proof (walks and plain laws), printed by a program of the prover. -/
import Derived.Test.YtaeagngfhceceaaGreatDoorZu
import Derived.Test.YtaeagngfhceceaaGreatDoorZaa
import Derived.Test.YtaeagngfhceceaaGreatDoorZv
import Derived.Test.YtaeagngfhceceaaGreatDoorZw
set_option maxHeartbeats 8000000
namespace Go.Proofs.YtaeagngfhceceaaGreatDoor
open Go.RowKit Go.Proofs
set_option maxRecDepth 100000
set_option linter.unusedVariables false
set_option linter.unusedSimpArgs false
theorem mem_filI_iff {n k : Int} {p : Int → Bool} : k ∈ filI n p ↔ (0 ≤ k ∧ k < n) ∧ p k = true := by
 refine ⟨mem_filI, fun h => ?_⟩
 unfold filI iotaI
 rw [List.mem_filter, List.mem_map]
 exact ⟨⟨k.toNat, by rw [List.mem_range]; omega, by omega⟩, h.2⟩
end Go.Proofs.YtaeagngfhceceaaGreatDoor
set_option maxHeartbeats 8000000
namespace Go.Proofs.YtaeagngfhceceaaGreatDoor
open Go.RowKit Go.Proofs
set_option maxRecDepth 100000
set_option linter.unusedVariables false
set_option linter.unusedSimpArgs false
end Go.Proofs.YtaeagngfhceceaaGreatDoor
set_option maxHeartbeats 8000000
namespace Go.Proofs.YtaeagngfhceceaaGreatDoor
open Go.RowKit Go.Proofs
set_option maxRecDepth 100000
set_option linter.unusedVariables false
set_option linter.unusedSimpArgs false
theorem any_snocI {l : List Int} {m s : Int} (h0 : 0 ≤ s) (h1 : s < l.length) : ((l.take s.toNat).any (fun y => decide (y = m)) || decide (nth l s = m)) = (l.take (s + 1).toNat).any fun y => decide (y = m) := by
 rw [take_snoc h0 h1, List.any_append]; simp
theorem any_filI {n lk : Int} {p : Int → Bool} (h : 0 ≤ lk ∧ lk < n) : (filI n p).any (fun y => decide (y = lk)) = p lk := by
 rw [Bool.eq_iff_iff, List.any_eq_true]
 constructor
 ·
  rintro ⟨y, hy, he⟩
  rw [← of_decide_eq_true he]
  exact (mem_filI_iff.1 hy).2
 ·
  intro hp
  exact ⟨lk, mem_filI_iff.2 ⟨h, hp⟩, decide_eq_true rfl⟩
end Go.Proofs.YtaeagngfhceceaaGreatDoor
set_option maxHeartbeats 8000000
namespace Go.Proofs.YtaeagngfhceceaaGreatDoor
open Go.RowKit Go.Proofs
set_option maxRecDepth 100000
set_option linter.unusedVariables false
set_option linter.unusedSimpArgs false
theorem code_in {G : Game} (hV : GoodG G) {lk : Int} (h0 : 0 ≤ lk) (h1 : lk < G.lks.l.length) {ns : List Int} (hns : NotesOf G lk ns) : fitB (clsG G ns) (nth G.cds.l lk).l = true := by
 rw [fitB_all, List.all_eq_true]
 intro c hc
 unfold clsG at hc
 obtain ⟨k, hk, rfl⟩ := List.mem_map.1 hc
 obtain ⟨⟨a, b⟩, e⟩ := hns k hk
 have := (hV.says a b (by omega)).2
 rwa [e] at this
theorem fit_mem {w s : Int} (hL : lockB w s = true) {cs : List Clue} {xs : List Int} (hx : codeB w s xs = true) (h : fitB cs xs = true) : xs ∈ readL w s cs ∧ failsT cs xs < 0 := by
 have h2 : failsT cs xs < 0 := by unfold fitB at h; exact of_decide_eq_true h
 exact ⟨(mem_readL hL hx).2 h2, h2⟩
theorem top_choose {G : Game} (hV : GoodG G) {lk : Int} (h0 : 0 ≤ lk) (h1 : lk < G.lks.l.length) (h12 : (clsG G (allN G.p lk)).length ≤ 12) (hR : (readL (nth G.lks.l lk).w (nth G.lks.l lk).s (clsG G (allN G.p lk))).length = 1) :
  ∃ r, chooseX (nth G.lks.l lk).w (nth G.lks.l lk).s (clsG G (allN G.p lk)) (nth G.cds.l lk).l = some r ∧ chE (nth G.lks.l lk).w (nth G.lks.l lk).s (clsG G (allN G.p lk)) (nth G.cds.l lk).l = 0 ∧ (r.map Int.ofNat).length ≤ (needX G.p lk (allN G.p lk).length).length ∧
   (∀ k ∈ r, k < (clsG G (allN G.p lk)).length) ∧ (readL (nth G.lks.l lk).w (nth G.lks.l lk).s (pickN (clsG G (allN G.p lk)) r)).length = 1 ∧ fitB (pickN (clsG G (allN G.p lk)) r) (nth G.cds.l lk).l = true ∧ r.length ≤ 12 ∧ cluesE (nth G.lks.l lk).w (nth G.lks.l lk).s (pickN (clsG G (allN G.p lk)) r) = 0 := by
 have hL := hV.lk lk h0 h1
 have hx := codeE_code (hV.cd lk h0 h1)
 have hce := cluesE_ok hV h0 h1 (all_of (lk := lk)) (Nat.le_trans (all_len hV lk) (by decide))
 have hf0 := code_in hV h0 h1 (all_of (lk := lk))
 have hkl : ∀ k ∈ coreTo (nth G.lks.l lk).w (nth G.lks.l lk).s (clsG G (allN G.p lk)) (clsG G (allN G.p lk)).length, k < (clsG G (allN G.p lk)).length := coreTo_lt _ _ _ _
 have hf : fitB (pickN (clsG G (allN G.p lk)) (coreTo (nth G.lks.l lk).w (nth G.lks.l lk).s (clsG G (allN G.p lk)) (clsG G (allN G.p lk)).length)) (nth G.cds.l lk).l = true := by
  rw [fitB_all, List.all_eq_true] at hf0 ⊢
  exact fun c hc => hf0 c (pickN_mem hkl hc)
 obtain ⟨r, hr, hrl, _⟩ := choose_best hL (core_sorted (w := (nth G.lks.l lk).w) (s := (nth G.lks.l lk).s) (cs := clsG G (allN G.p lk)) _) hkl hf (by unfold sing; rw [core_all]; exact hR)
 obtain ⟨c1, c2, c3, c4⟩ := choose_sound hr
 have hnl : (needX G.p lk (allN G.p lk).length).length = (coreTo (nth G.lks.l lk).w (nth G.lks.l lk).s (clsG G (allN G.p lk)) (clsG G (allN G.p lk)).length).length := by
  rw [need_all, List.length_map, clsN_p]
  have : (clsG G (allN G.p lk)).length = (allN G.p lk).length := by simp [clsG]
  rw [this]; rfl
 have hcal : (clsG G (allN G.p lk)).length = (allN G.p lk).length := by simp [clsG]
 have hcp : clsG G (pickN (allN G.p lk) r) = pickN (clsG G (allN G.p lk)) r := by
  have h9 := cls_pick (G := G.p) (A := allN G.p lk) (is := r) fun k hk => by have := c2 k hk; omega
  rwa [clsN_p, clsN_p] at h9
 refine ⟨r, hr, ?_, by rw [List.length_map, hnl]; exact hrl, c2, c1, c3, by omega, ?_⟩
 ·
  rw [chE_val hce hx h12, hr]; rfl
 ·
  rw [← hcp]
  exact cluesE_ok hV h0 h1 (fun k hk => all_of (lk := lk) k (pickN_mem (fun j hj => by have := c2 j hj; omega) hk)) (by rw [pickN_len]; omega)
theorem pair_ne {w s : Int} (hL : lockB w s = true) {cs : List Clue} (h : 1 < (readL w s cs).length) : nth (readL w s cs) 0 ≠ nth (readL w s cs) ((readL w s cs).length - 1) := by
 intro e
 have hn := readL_nodup hL (cs := cs)
 have h0 : 0 < (readL w s cs).length := by omega
 have h1 : (readL w s cs).length - 1 < (readL w s cs).length := by omega
 have e1 : nth (readL w s cs) 0 = (readL w s cs)[0] := by simp [nth, List.getD, h0]
 have e2 : nth (readL w s cs) ((readL w s cs).length - 1) = (readL w s cs)[(readL w s cs).length - 1] := by
  have : (((readL w s cs).length : Int) - 1).toNat = (readL w s cs).length - 1 := by omega
  simp [nth, List.getD, this, h1]
 rw [e1, e2] at e
 exact (List.pairwise_iff_getElem.1 hn 0 ((readL w s cs).length - 1) h0 h1 (by omega)) e
theorem two_only {α : Type} [Inhabited α] {R : List α} {x : α} (h : R.length = 1) (hx : x ∈ R) : nth (R.take (2 : Int).toNat) 0 = x := by
 match R, h with
 | [a], _ =>
  simp only [List.mem_singleton] at hx
  subst hx
  rfl
def cntClues : List Clue := [⟨2, 0, 1, 4, 0, [], false⟩]
theorem cntCl {u : World} {v : Value} (h : SlC u v 1 7 (clFlat cntClues [.slice none 0 0])) : ClS u v cntClues [.slice none 0 0] := ⟨h, rfl, fun i h0 h1 => by
 have h2 : i < 1 := h1
 obtain rfl : i = 0 := by omega
 exact SlI.nil u⟩
section
variable {P : Program} {n0 : Nat} {w0 : World} {L : List SA} {l : List Value} {d : Option Tmp} {ty : TypeId} {ps : String} {af : Array Edge} {g : Option (Nat × Bool)}
theorem det_ldPc {p : World → Prop} {α : Type} [Inhabited α] {C : Cel α} {T : TypeId} {z jj : Nat} (k j : Nat) {x : Operand} {y : Value} {s : Sl α} {i : Int}
  (hj' : L[jj]? = some (roS p)) (hp : ∀ u, p u → SlT C u s) (hx : evo l x = some (.pointer (some ⟨slb s.v, slo s.v + i.toNat * k + j, none⟩))) (hk : C.k = k) (h : 0 ≤ i ∧ i < s.l.length) (hj : j < k)
  (hc : (C.cells (nth s.l i))[j]? = some y) (hT : tk P T = some (false, z)) : Det P (St n0 w0 L) ⟨d, .load T x, ty, ps, af, g⟩ l y := by
 subst hk
 exact det_loadS (show evo l x = some (.pointer (some (sla s.v (i.toNat * C.k + j)))) by rw [hx, sla, Nat.add_assoc]) (fun _ hu => (hp _ (St.ro hj' hu)).sp) (by rw [flatC_at C h.1 h.2 j hj]; exact hc) hT
theorem det_ldPn {p : World → Prop} {α : Type} [Inhabited α] {C : Cel α} {T : TypeId} {k jj : Nat} (j : Nat) {x : Operand} {s : Sl α} {i : Int} (cs : List Value)
  (hj' : L[jj]? = some (roS p)) (hp : ∀ u, p u → SlT C u s) (hx : evo l x = some (.pointer (some ⟨slb s.v, slo s.v + i.toNat * k + j, none⟩))) (hk : C.k = k) (h : 0 ≤ i ∧ i < s.l.length) (hm : j + cs.length ≤ k)
  (hc : ((C.cells (nth s.l i)).drop j).take cs.length = cs) (hT : tk P T = some (true, cs.length)) : Det P (St n0 w0 L) ⟨d, .load T x, ty, ps, af, g⟩ l (.agg cs.toArray) := by
 subst hk
 refine det_loadSN (v := s.v) (m := i.toNat * C.k + j) (by rw [hx, sla, Nat.add_assoc]) (fun _ hu => (hp _ (St.ro hj' hu)).sp) (fun jj y hy => ?_) hT
 have hjj : jj < cs.length := (List.getElem?_eq_some_iff.1 hy).1
 rw [← hc, List.getElem?_take, if_pos hjj, List.getElem?_drop] at hy
 rw [Nat.add_assoc, flatC_at C h.1 h.2 (j + jj) (by omega)]
 exact hy
theorem det_ldClJ {p : World → Prop} {T : TypeId} {jj : Nat} {x : Operand} {v : Value} {cs : List Clue} {gs : List Value} {i : Int} (hj' : L[jj]? = some (roS p)) (hp : ∀ u, p u → ClS u v cs gs) (hx : evo l x = some (.pointer (some (sla v (i.toNat * 7))))) (hl : gs.length = cs.length) (h : 0 ≤ i ∧ i < cs.length) (hT : tk P T = some (true, 7)) :
  Det P (St n0 w0 L) ⟨d, .load T x, ty, ps, af, g⟩ l (.agg #[.int .i64 (nth cs i).k, .int .i64 (nth cs i).a, .int .i64 (nth cs i).b, .int .i64 (nth cs i).n, .int .i64 (nth cs i).m, nth gs i, .bool (nth cs i).nt]) :=
 det_loadSN (cs := clCells (nth cs i) (nth gs i)) hx (fun _ hu => (hp _ (St.ro hj' hu)).sp) (fun j y hy => by
  have hj : j < 7 := by have := (List.getElem?_eq_some_iff.1 hy).1; simpa [clCells] using this
  rw [clFlat_at hl h.1 h.2 j hj]; exact hy) hT
end
theorem counts_c (w : World) : Calls Tryz.prog 16 #[] w (RetB w (.bool true)) := by
 refine enter Tryz.func16 rfl rfl (Nat.le_of_ble_eq_true rfl) ?_
 refine Nz 1 ?_
 refine Wd (Qc (Nz 0 ?_))
 refine Wk 0 (Db plc54 zv54) ?_
 refine Wk 0 (Db plc48 zv48) ?_
 refine WS.buildSliceK sl46 zv48 (rows := [[.int .i64 2, .int .i64 0, .int .i64 1, .int .i64 4, .int .i64 0, .slice none 0 0, .bool false]]) rfl rfl (by decide) (by decide) (by simp) (fun _ => rfl) ?_; intro v6
 refine Wk 5 (Cb rfl rfl ent21 (fun u hu => Count_k 2 4 cntClues _ _ u (cntCl (osl_SlC hu (j := 0) rfl)))) ?_
 refine Wd (Qc (Nz 3 ?_))
 refine Wt 0 rfl rfl (fun hg => Fm) ?_
 refine Wt 0 rfl rfl (fun hg => Fq) ?_
 refine Wk 1 Pa ?_
 exact Wd (Qc (Cr (out1 rfl rfl (retBe (by kernel_rfl)))))
theorem sameIntsT_c (xs ys : List Int) (v1 v2 : Value) (w : World) (h1 : SlI w v1 xs) (h2 : SlI w v2 ys) :
  Calls Tryz.prog 23 #[v1, v2] w (RetB w (.bool (decide (xs = ys)))) := by
 have l1 := h1.le
 have l2 := h2.le
 refine enter Tryz.func23 rfl rfl (Nat.le_of_ble_eq_true rfl) ?_
 refine Nz 1 ?_
 refine Wd (Qc (Cs (Nz 1 ?_)))
 refine Wk 1 (by first | exact det_lenS sl42 rfl (by assumption) | exact det_lenS sl42 rfl (by first | exact SlL.sp (by assumption) | exact ClS.sp (by assumption)) | exact det_lenO sl42 rfl | exact det_lenV sl42 rfl ⟨_, _, rfl⟩) ?_
 refine Wk 1 (by first | exact det_lenS sl42 rfl (by assumption) | exact det_lenS sl42 rfl (by first | exact SlL.sp (by assumption) | exact ClS.sp (by assumption)) | exact det_lenO sl42 rfl | exact det_lenV sl42 rfl ⟨_, _, rfl⟩) ?_
 refine Wd (Qc (CS.cond rfl ?_ ?_))<;>intro hc1<;>try simp only [bq] at hc1
 ·
  refine Nz 1 ?_
  exact Wd (Qc (Cr (Qr (out1 rfl rfl (retBe (bool_f fun h => hc1 (by rw [h])))))))
 ·
  refine Ck (Qc (Cs (Nz 1 ?_)))
  refine Wd (Qc (Ce ?_))
  refine CS.loopM (σ := Int) [4, 11, 12, 13, 14, 15, 16, 17, 18, 19, 20, 21, 22, 23, 24, 25] (fun s => [(5, .int .i64 s)]) (fun _ => _) (fun s => 0 ≤ s ∧ s ≤ xs.length ∧ ∀ j : Int, 0 ≤ j → j < s → nth xs j = nth ys j) (fun s => (xs.length - s).toNat) 0 (fun _ _ => rfl) rfl rfl ⟨by omega, by omega, fun j _ _ => by omega⟩ ?_
  intro a t hs
  obtain ⟨ha1, ha2, ha3⟩ := hs
  refine Cs (Nz 2 ?_)
  refine Wk 1 (by first | exact det_lenS sl42 rfl (by assumption) | exact det_lenS sl42 rfl (by first | exact SlL.sp (by assumption) | exact ClS.sp (by assumption)) | exact det_lenO sl42 rfl | exact det_lenV sl42 rfl ⟨_, _, rfl⟩) ?_
  refine Wd (Qc (CS.cond rfl ?_ ?_))<;>intro hc2<;>try simp only [bq] at hc2
  ·
   refine Ck (Qc (Cs (Ce (Cs (Dr mixed 2 ?_)))))
   refine Dk 0 (by first | exact det_idxI sl42 rfl rfl (by assumption) (by omega) (by omega) | exact det_idxO sl42 rfl rfl (by omega) (by omega)) ?_
   refine Dk 2 (by first | exact det_ldI rfl (by assumption) (by omega) tk3 | exact det_loadb (j := 0) rfl rfl rfl tk3 | exact det_loadb (j := 1) rfl rfl rfl tk3 | exact det_loadb (j := 2) rfl rfl rfl tk3 | exact det_loadb (j := 3) rfl rfl rfl tk3 | exact det_loadw rfl (by assumption) rfl tk3) ?_
   refine Dk 0 (by first | exact det_idxI sl42 rfl rfl (by assumption) (by omega) (by omega) | exact det_idxO sl42 rfl rfl (by omega) (by omega)) ?_
   refine Dk 1 (by first | exact det_ldI rfl (by assumption) (by omega) tk3 | exact det_loadb (j := 0) rfl rfl rfl tk3 | exact det_loadb (j := 1) rfl rfl rfl tk3 | exact det_loadb (j := 2) rfl rfl rfl tk3 | exact det_loadb (j := 3) rfl rfl rfl tk3 | exact det_loadw rfl (by assumption) rfl tk3) ?_
   refine Dd (Qc (CS.cond rfl ?_ ?_))<;>intro hc3<;>try simp only [bq] at hc3
   ·
    refine Nz 1 ?_
    exact Wd (Qc (Cr (Qs (Qr (Qr (Qs (Qr (out1 rfl rfl (retBe (bool_f fun h => hc3 (by rw [h])))))))))))
   ·
    refine Ck (Qb (Qc (Ny 1 ?_)))
    refine Wk 1 Za ?_
    refine Wd ?_
    exact QS.head (a + 1) rfl rfl ⟨⟨by omega, by omega, fun j h0 h1 => by
       rcases (show j < a ∨ j = a by omega) with h | h
       ·
        exact ha3 j h0 h
       ·
        rw [h]; exact hc3⟩, by omega⟩
  ·
   refine Cv (Qe (Qe (Qx (Qc (Nz 1 ?_)))))
   exact Wd (Qc (Cr (out1 rfl rfl (retBe (bool_t (eq_nth hc2 (by omega) ha3))))))
end Go.Proofs.YtaeagngfhceceaaGreatDoor
