/- Merged texts of this proof (walks and plain laws), printed by a program of the prover. -/
import Derived.Test.YtaeagngfhceceaaGreatDoorZa
import Derived.Test.YtaeagngfhceceaaGreatDoorZc
set_option maxHeartbeats 8000000
namespace Go.Proofs.YtaeagngfhceceaaGreatDoor
open Go.RowKit Go.Proofs
set_option maxRecDepth 100000
set_option linter.unusedVariables false
set_option linter.unusedSimpArgs false
theorem within_k (n low high : Int) (w : World) : Calls Tryz.prog 77 #[.int .i64 n, .int .i64 low, .int .i64 high] w (RetB w (.bool (within n low high))) := by
 refine enter Tryz.func77 rfl rfl (Nat.le_of_ble_eq_true rfl) ?_
 refine Nz 1 ?_
 refine Wd (Qc (Nz 4 ?_))
 refine Wt 0 rfl rfl (fun hg => Fm) ?_
 refine Wt 0 rfl rfl (fun hg => Fm) ?_
 refine Wt 0 rfl rfl (fun hg => Fk) ?_
 refine Wk 1 Pa ?_
 exact Wd (Qc (Cr (out1 rfl rfl retB)))
theorem Within_k (n low high : Int) (w : World) : Calls Tryz.prog 117 #[.int .i64 n, .int .i64 low, .int .i64 high] w (RetB w (.bool (within n low high))) := by
 refine enter Tryz.func117 rfl rfl (Nat.le_of_ble_eq_true rfl) ?_
 refine Nz 1 ?_
 refine Wd (Qc (Nz 4 ?_))
 refine Wt 0 rfl rfl (fun hg => Fm) ?_
 refine Wt 0 rfl rfl (fun hg => Fm) ?_
 refine Wt 0 rfl rfl (fun hg => Fk) ?_
 refine Wk 1 Pa ?_
 exact Wd (Qc (Cr (out1 rfl rfl retB)))
theorem SameInts_k (xs ys : List Int) (v1 v2 : Value) (w : World) (h1 : SlI w v1 xs) (h2 : SlI w v2 ys) :
  Calls Tryz.prog 237 #[v1, v2] w (RetB w (.bool (decide (xs = ys)))) := by
 have hl1 := h1.le
 have hl2 := h2.le
 refine enter Tryz.func237 rfl rfl (Nat.le_of_ble_eq_true rfl) ?_
 refine Nz 1 ?_
 refine Wd (Qc (Cs (Nz 1 ?_)))
 refine Wk 1 Na ?_
 refine Wk 1 Na ?_
 refine Wd (Qc (CS.cond rfl ?_ ?_))<;>intro hc1<;>try simp only [bq] at hc1
 ·
  refine Nz 1 ?_
  exact Wd (Qc (Cr (Qr (out1 rfl rfl (retBe (bool_f fun h => by subst h; omega))))))
 ·
  refine Ck (Qc (Cs (Nz 1 ?_)))
  refine Wd (Qc (Ce ?_))
  refine CS.loopM (σ := Int) [4, 11, 12, 13, 14, 15, 16, 17, 18, 19, 20, 21, 22, 23, 24, 25] (fun s => [(5, .int .i64 s)]) (fun _ => _) (fun s => 0 ≤ s ∧ s ≤ xs.length ∧ xs.length = ys.length ∧ ∀ j : Int, 0 ≤ j → j < s → nth xs j = nth ys j) (fun s => (xs.length - s).toNat) 0 (fun _ _ => rfl) rfl rfl ⟨by omega, by omega, by omega, fun j h1 h2 => by omega⟩ ?_
  intro s t hs
  obtain ⟨hs1, hs2, hs3, hs4⟩ := hs
  refine Cs (Nz 2 ?_)
  refine Wk 1 Na ?_
  refine Wd (Qc (CS.cond rfl ?_ ?_))<;>intro hc2<;>try simp only [bq] at hc2
  ·
   refine Ck (Qc (Cs (Ce (Cs (Dr mixed 2 ?_)))))
   refine Dk 0 Xa ?_
   refine Dk 2 Ia ?_
   refine Dk 0 Xa ?_
   refine Dk 1 Ia ?_
   refine Dd (Qc (CS.cond rfl ?_ ?_))<;>intro hc3<;>try simp only [bq] at hc3
   ·
    refine Nz 1 ?_
    exact Wd (Qc (Cr (Qs (Qr (Qr (Qs (Qr (out1 rfl rfl (retBe (bool_f fun h => by subst h; omega))))))))))
   ·
    refine Ck (Qb (Qc (Ny 1 ?_)))
    refine Wk 1 Za ?_
    exact Wd (QS.head (s + 1) rfl rfl ⟨⟨by omega, by omega, hs3, fun j h1 h2 => if hj : j = s then by rw [hj]; omega else hs4 j h1 (by omega)⟩, by omega⟩)
  ·
   refine Cv (Qe (Qe (Qx (Qc (Nz 1 ?_)))))
   exact Wd (Qc (Cr (out1 rfl rfl (retBe (bool_t (nth_ext hs3 fun i h1 h2 => hs4 i h1 (by omega)))))))
theorem Check_k (lw ls : Int) (w : World) : Calls Tryz.prog 73 #[.agg #[.int .i64 lw, .int .i64 ls]] w (RetB w (.int .i64 (lockE lw ls))) := by
 refine enter Tryz.func73 rfl rfl (Nat.le_of_ble_eq_true rfl) ?_
 refine Nz 0 ?_
 refine Wb 1 rfl rfl (fun _ => rfl) (fun _ => rfl) fun b1 hb1 => ?_
 refine Wd (Qc (Cs (Nz 1 ?_)))
 refine Wk 0 (Ba 0) ?_
 refine Wk 2 (Cb rfl rfl ent77 (fun u hu => within_k _ _ _ u)) ?_
 refine Wf 0 rfl rfl (fun hg => Ff) ?_
 refine Wf 0 rfl rfl (fun hg => Ba 0) ?_
 refine Wf 0 rfl rfl (fun hg => Cb rfl (ec_ (eg_ hg rfl) (ec_ rfl (ec_ rfl en_))) ent77 (fun u hu => within_k _ _ _ u)) ?_
 refine Wf 0 rfl rfl (fun hg => Fn) ?_
 refine Wk 0 Po ?_
 refine Wd (Qc (CS.cond rfl ?_ ?_))<;>intro hc1<;>try simp only [bq] at hc1
 ·
  refine Nz 1 ?_
  exact Wd (Qc (Cr (Qr (out1 rfl rfl (retBe (by simp [lockE, lockB]; rcases hc1 with h | h <;> simp [h]))))))
 ·
  refine Ck (Qc (Nz 1 ?_))
  exact Wd (Qc (Cr (out1 rfl rfl (retBe (by simp [lockE, lockB, hc1])))))
theorem RCheck_k (lw ls : Int) (w : World) : Calls Tryz.prog 57 #[.agg #[.int .i64 lw, .int .i64 ls]] w (RetB w (.int .i64 (lockE lw ls))) := by
 refine enter Tryz.func57 rfl rfl (Nat.le_of_ble_eq_true rfl) ?_
 refine Nz 0 ?_
 refine Wb 1 rfl rfl (fun _ => rfl) (fun _ => rfl) fun b1 hb1 => ?_
 refine Wd (Qc (Cs (Nz 1 ?_)))
 refine Wk 0 (Ba 0) ?_
 refine Wk 2 (Cb rfl rfl ent117 (fun u hu => Within_k _ _ _ u)) ?_
 refine Wf 0 rfl rfl (fun hg => Ff) ?_
 refine Wf 0 rfl rfl (fun hg => Ba 0) ?_
 refine Wf 0 rfl rfl (fun hg => Cb rfl (ec_ (eg_ hg rfl) (ec_ rfl (ec_ rfl en_))) ent117 (fun u hu => Within_k _ _ _ u)) ?_
 refine Wf 0 rfl rfl (fun hg => Fn) ?_
 refine Wk 0 Po ?_
 refine Wd (Qc (CS.cond rfl ?_ ?_))<;>intro hc1<;>try simp only [bq] at hc1
 ·
  refine Nz 1 ?_
  exact Wd (Qc (Cr (Qr (out1 rfl rfl (retBe (by simp [lockE, lockB]; rcases hc1 with h | h <;> simp [h]))))))
 ·
  refine Ck (Qc (Nz 1 ?_))
  exact Wd (Qc (Cr (out1 rfl rfl (retBe (by simp [lockE, lockB, hc1])))))
theorem symbol_k (lw ls n : Int) (w : World) (hL : lockB lw ls = true) : Calls Tryz.prog 183 #[.agg #[.int .i64 lw, .int .i64 ls], .int .i64 n] w (RetB w (.bool (within n 0 (ls - 1)))) := by
 have hl := lock_of hL
 refine enter Tryz.func183 rfl rfl (Nat.le_of_ble_eq_true rfl) ?_
 refine Nz 0 ?_
 refine Wb 1 rfl rfl (fun _ => rfl) (fun _ => rfl) fun b2 hb2 => ?_
 refine Wd (Qc (Nz 2 ?_))
 refine Wk 0 (Ba 0) ?_
 refine Wk 0 Zb ?_
 refine Wk 1 (Cb rfl rfl ent77 (fun u hu => within_k _ _ _ u)) ?_
 exact Wd (Qc (Cr (out1 rfl rfl retB)))
theorem wheel_k (lw ls n : Int) (w : World) (hL : lockB lw ls = true) : Calls Tryz.prog 182 #[.agg #[.int .i64 lw, .int .i64 ls], .int .i64 n] w (RetB w (.bool (within n 0 (lw - 1)))) := by
 have hl := lock_of hL
 refine enter Tryz.func182 rfl rfl (Nat.le_of_ble_eq_true rfl) ?_
 refine Nz 0 ?_
 refine Wb 1 rfl rfl (fun _ => rfl) (fun _ => rfl) fun b2 hb2 => ?_
 refine Wd (Qc (Nz 2 ?_))
 refine Wk 0 (Ba 0) ?_
 refine Wk 0 Zb ?_
 refine Wk 1 (Cb rfl rfl ent77 (fun u hu => within_k _ _ _ u)) ?_
 exact Wd (Qc (Cr (out1 rfl rfl retB)))
theorem IndexI_k (xs : List (Int)) (v : Value) (w : World) (h1 : SlI w v xs) (g : Nat) (lb : List Value) (p : Int → Bool) (hg : Ent Tryz.prog g)
  (hp : ∀ u, Below w.heap.size w u → ∀ i : Int, 0 ≤ i → i < xs.length → Calls Tryz.prog g ([.int .i64 (nth xs i)] ++ lb : List Value).toArray u (RetB u (.bool (p (nth xs i))))) :
  Calls Tryz.prog 222 #[v, .func (.func g) #[] lb.toArray] w (RetB w (.int .i64 (idxF p xs))) := by
 have hl1 := h1.le
 refine enter Tryz.func222 rfl rfl (Nat.le_of_ble_eq_true rfl) ?_
 refine Nz 1 ?_
 refine Wd (Qc (Cs (Nz 1 ?_)))
 refine Wk 1 Na ?_
 refine Wd (Qc (Ce ?_))
 refine CS.loopM (σ := Int) [4, 5, 9, 10, 11, 12, 13, 14, 15, 16, 17, 18] (fun s => [(8, .int .i64 s)]) (fun _ => _) (fun s => 0 ≤ s ∧ s ≤ xs.length ∧ ∀ j : Int, 0 ≤ j → j < s → p (nth xs j) = false) (fun s => (xs.length - s).toNat) 0 (fun _ _ => rfl) rfl rfl ⟨by omega, by omega, fun j h1 h2 => by omega⟩ ?_
 intro s t hs
 obtain ⟨hs1, hs2, hs3⟩ := hs
 refine Nz 1 ?_
 refine Wd (Qc (Cs (CS.cond rfl ?_ ?_)))<;>intro hc1<;>try simp only [bq] at hc1
 ·
  refine Ck (Qc (Cs (Ce (Nz 2 ?_))))
  refine Wd (Qc (Nz 3 ?_))
  refine Wk 0 Xa ?_
  refine Wk 0 Ia ?_
  refine Wk 0 (Cb rfl rfl hg (fun u hu => hp u hu.below s (by omega) (by omega))) ?_
  refine Wd (Qc (CS.cond rfl ?_ ?_))<;>intro hc2<;>try simp only [bq] at hc2
  ·
   refine Nz 2 ?_
   exact Wd (Qc (Cr (Qs (Qr (Qr (Qs (Qr (out1 rfl rfl (retBe (by rw [idxF_found hs1 (by omega) hs3 hc2]))))))))))
  ·
   refine Ck (Qb (Qc (Ny 0 ?_)))
   refine Wk 1 Za ?_
   exact Wd (QS.head (s + 1) rfl rfl ⟨⟨by omega, by omega, fun j h1 h2 => if hj : j = s then by rw [hj]; exact hc2 else hs3 j h1 (by omega)⟩, by omega⟩)
 ·
  refine Cv (Qe (Qe (Qx (Qc (Nz 1 ?_)))))
  exact Wd (Qc (Cr (out1 rfl rfl (retBe (by rw [idxF_none fun j h1 h2 => hs3 j h1 (by omega)])))))
theorem ContainsI_k (xs : List (Int)) (v : Value) (w : World) (h1 : SlI w v xs) (g : Nat) (lb : List Value) (p : Int → Bool) (hg : Ent Tryz.prog g)
  (hp : ∀ u, Below w.heap.size w u → ∀ i : Int, 0 ≤ i → i < xs.length → Calls Tryz.prog g ([.int .i64 (nth xs i)] ++ lb : List Value).toArray u (RetB u (.bool (p (nth xs i))))) :
  Calls Tryz.prog 188 #[v, .func (.func g) #[] lb.toArray] w (RetB w (.bool (xs.any p))) := by
 refine enter Tryz.func188 rfl rfl (Nat.le_of_ble_eq_true rfl) ?_
 refine Nz 1 ?_
 refine Wd (Qc (Nz 2 ?_))
 refine Wk 2 (Cb rfl rfl ent222 (fun u hu => IndexI_k xs v u (h1.st hu) g lb p hg (fun u2 h2 => hp u2 (below_trans hu.below h2)))) ?_
 exact Wd (Qc (Cr (out1 rfl rfl (retBe (by rw [idxF_any])))))
theorem IndexL_k (xs : List (List Int)) (v : Value) (gs : List Value) (w : World) (h1 : SlL w v xs gs) (g : Nat) (lb : List Value) (p : List Int → Bool) (hg : Ent Tryz.prog g)
  (hp : ∀ u, Below w.heap.size w u → ∀ i : Int, 0 ≤ i → i < xs.length → Calls Tryz.prog g ([nth gs i] ++ lb : List Value).toArray u (RetB u (.bool (p (nth xs i))))) :
  Calls Tryz.prog 221 #[v, .func (.func g) #[] lb.toArray] w (RetB w (.int .i64 (idxF p xs))) := by
 have hl1 := h1.le
 refine enter Tryz.func221 rfl rfl (Nat.le_of_ble_eq_true rfl) ?_
 refine Nz 1 ?_
 refine Wd (Qc (Cs (Nz 1 ?_)))
 refine Wk 1 (det_lenS sl33 rfl (by first | exact SlL.sp (by assumption) | exact ClS.sp (by assumption))) ?_
 refine Wd (Qc (Ce ?_))
 refine CS.loopM (σ := Int) [4, 5, 9, 10, 11, 12, 13, 14, 15, 16, 17, 18] (fun s => [(8, .int .i64 s)]) (fun _ => _) (fun s => 0 ≤ s ∧ s ≤ xs.length ∧ ∀ j : Int, 0 ≤ j → j < s → p (nth xs j) = false) (fun s => (xs.length - s).toNat) 0 (fun _ _ => rfl) rfl rfl ⟨by omega, by omega, fun j h1 h2 => by omega⟩ ?_
 intro s t hs
 obtain ⟨hs1, hs2, hs3⟩ := hs
 refine Nz 1 ?_
 refine Wd (Qc (Cs (CS.cond rfl ?_ ?_)))<;>intro hc1<;>try simp only [bq] at hc1
 ·
  refine Ck (Qc (Cs (Ce (Nz 2 ?_))))
  refine Wd (Qc (Nz 3 ?_))
  refine Wk 0 (det_idxL sl33 rfl rfl (by assumption) (by omega) (by omega)) ?_
  refine Wk 0 (det_ldL rfl (by assumption) (by omega) tk42) ?_
  refine Wk 0 (Cb rfl rfl hg (fun u hu => hp u hu.below s (by omega) (by omega))) ?_
  refine Wd (Qc (CS.cond rfl ?_ ?_))<;>intro hc2<;>try simp only [bq] at hc2
  ·
   refine Nz 2 ?_
   exact Wd (Qc (Cr (Qs (Qr (Qr (Qs (Qr (out1 rfl rfl (retBe (by rw [idxF_found hs1 (by omega) hs3 hc2]))))))))))
  ·
   refine Ck (Qb (Qc (Ny 0 ?_)))
   refine Wk 1 Za ?_
   exact Wd (QS.head (s + 1) rfl rfl ⟨⟨by omega, by omega, fun j h1 h2 => if hj : j = s then by rw [hj]; exact hc2 else hs3 j h1 (by omega)⟩, by omega⟩)
 ·
  refine Cv (Qe (Qe (Qx (Qc (Nz 1 ?_)))))
  exact Wd (Qc (Cr (out1 rfl rfl (retBe (by rw [idxF_none fun j h1 h2 => hs3 j h1 (by omega)])))))
theorem ContainsL_k (xs : List (List Int)) (v : Value) (gs : List Value) (w : World) (h1 : SlL w v xs gs) (g : Nat) (lb : List Value) (p : List Int → Bool) (hg : Ent Tryz.prog g)
  (hp : ∀ u, Below w.heap.size w u → ∀ i : Int, 0 ≤ i → i < xs.length → Calls Tryz.prog g ([nth gs i] ++ lb : List Value).toArray u (RetB u (.bool (p (nth xs i))))) :
  Calls Tryz.prog 185 #[v, .func (.func g) #[] lb.toArray] w (RetB w (.bool (xs.any p))) := by
 refine enter Tryz.func185 rfl rfl (Nat.le_of_ble_eq_true rfl) ?_
 refine Nz 1 ?_
 refine Wd (Qc (Nz 2 ?_))
 refine Wk 2 (Cb rfl rfl ent221 (fun u hu => IndexL_k xs v gs u (h1.st hu) g lb p hg (fun u2 h2 => hp u2 (below_trans hu.below h2)))) ?_
 exact Wd (Qc (Cr (out1 rfl rfl (retBe (by rw [idxF_any])))))
theorem codeF_k (lw ls n : Int) (b : Nat) (e : TypeId) (w : World) (hL : lockB lw ls = true) (hb : BlkAt w b [.int .i64 lw, .int .i64 ls] e) :
  Calls Tryz.prog 220 #[.int .i64 n, .pointer (some ⟨b, 0, none⟩)] w (RetB w (.bool (!within n 0 (ls - 1)))) := by
 refine enter Tryz.func220 rfl rfl (Nat.le_of_ble_eq_true rfl) ?_
 refine Nz 1 ?_
 refine Wd (Qc (Nz 0 ?_))
 refine Wk 1 Gb ?_
 refine Wk 2 (Cb rfl rfl ent183 (fun u hu => symbol_k _ _ _ u hL)) ?_
 exact Wd (Qc (Cr (out1 rfl rfl retB)))
theorem code_k (lw ls : Int) (xs : List Int) (v : Value) (w : World) (hL : lockB lw ls = true) (h1 : SlI w v xs) :
  Calls Tryz.prog 184 #[.agg #[.int .i64 lw, .int .i64 ls], v] w (RetB w (.bool (codeB lw ls xs))) := by
 refine enter Tryz.func184 rfl rfl (Nat.le_of_ble_eq_true rfl) ?_
 refine Nz 0 ?_
 refine Wb 1 rfl rfl (fun _ => rfl) (fun _ => rfl) fun b2 hb2 => ?_
 refine Wd (Qc (Nz 1 ?_))
 refine Wk 1 Na ?_
 refine Wk 2 (Ba 0) ?_
 refine Wt 0 rfl rfl (fun hg => Fm) ?_
 refine Wt 0 rfl rfl (fun hg => det_makeFunc rfl) ?_
 refine Wt 0 rfl rfl (fun hg => Cb rfl (ec_ (eg_ hg rfl) (ec_ (eg_ hg rfl) en_)) ent188 (fun u hu => ContainsI_k xs v u (h1.st hu) _ [.pointer (some ⟨b2, 0, none⟩)] (fun x => !within x 0 (ls - 1)) ent220 (fun u2 h2 i _ _ => codeF_k _ _ _ _ _ u2 hL ((st_blk hu (j := 0) rfl).ext h2)))) ?_
 refine Wt 0 rfl rfl (fun hg => Fn) ?_
 refine Wk 1 Pa ?_
 exact Wd (Qc (Cr (out1 rfl rfl (retBe (by simp [codeB, List.all_eq_not_any_not])))))
theorem checkCodesF_k (lw ls : Int) (xs : List Int) (v : Value) (b : Nat) (e : TypeId) (w : World) (hL : lockB lw ls = true) (h1 : SlI w v xs) (hb : BlkAt w b [.int .i64 lw, .int .i64 ls] e) :
  Calls Tryz.prog 186 #[v, .pointer (some ⟨b, 0, none⟩)] w (RetB w (.bool (!codeB lw ls xs))) := by
 refine enter Tryz.func186 rfl rfl (Nat.le_of_ble_eq_true rfl) ?_
 refine Nz 1 ?_
 refine Wd (Qc (Nz 0 ?_))
 refine Wk 1 Gb ?_
 refine Wk 2 (Cb rfl rfl ent184 (fun u hu => code_k _ _ _ _ u hL (h1.st hu))) ?_
 exact Wd (Qc (Cr (out1 rfl rfl retB)))
theorem checkCodes_k (lw ls : Int) (xss : List (List Int)) (gs : List Value) (v : Value) (w : World) (h1 : SlL w v xss gs) :
  Calls Tryz.prog 129 #[.agg #[.int .i64 lw, .int .i64 ls], v] w (RetB w (.int .i64 (if lockB lw ls then if xss.all (codeB lw ls) then 0 else 12 else 10))) := by
 refine enter Tryz.func129 rfl rfl (Nat.le_of_ble_eq_true rfl) ?_
 refine Nz 0 ?_
 refine Wb 1 rfl rfl (fun _ => rfl) (fun _ => rfl) fun b2 hb2 => ?_
 refine Wd (Qc (Cs (Nz 0 ?_)))
 refine Wk 0 (Bb 0) ?_
 refine Wk 1 (Cb rfl rfl ent73 (fun u hu => Check_k _ _ u)) ?_
 refine Wd (Qc (Nz 2 ?_))
 refine Wd (Qc (CS.cond rfl ?_ ?_))<;>intro hc1<;>try simp only [bq] at hc1
 ·
  refine Nz 2 ?_
  exact Wd (Qc (Cr (Qr (out1 rfl rfl (retBe (by have : lockB lw ls = false := (by simpa [lockE] using hc1); simp [lockE, this]))))))
 ·
  have hL : lockB lw ls = true := by simpa [lockE] using hc1
  refine Ck (Qc (Cs (Nz 1 ?_)))
  refine Wk 0 (det_makeFunc rfl) ?_
  refine Wk 0 (Cb rfl rfl ent185 (fun u hu => ContainsL_k xss v gs u (h1.st hu) _ [.pointer (some ⟨b2, 0, none⟩)] (fun xs => !codeB lw ls xs) ent186 (fun u2 h2 i h3 h4 => checkCodesF_k _ _ _ _ _ _ u2 hL (((h1.st hu).ext h2).el i h3 h4) ((st_blk hu (j := 0) rfl).ext h2)))) ?_
  refine Wd (Qc (CS.cond rfl ?_ ?_))<;>intro hc2<;>try simp only [bq] at hc2
  ·
   refine Nz 1 ?_
   exact Wd (Qc (Cr (Qr (out1 rfl rfl (retBe (by simp [hL] at hc2 ⊢; simpa using hc2))))))
  ·
   refine Ck (Qc (Nz 1 ?_))
   exact Wd (Qc (Cr (out1 rfl rfl (retBe (by simp [hL] at hc2 ⊢; simpa using hc2)))))
theorem CheckCode_k (lw ls : Int) (xs : List Int) (v : Value) (w : World) (h1 : SlI w v xs) :
  Calls Tryz.prog 69 #[.agg #[.int .i64 lw, .int .i64 ls], v] w (RetB w (.int .i64 (codeE lw ls xs))) := by
 refine enter Tryz.func69 rfl rfl (Nat.le_of_ble_eq_true rfl) ?_
 refine Nz 0 ?_
 refine Wb 1 rfl rfl (fun _ => rfl) (fun _ => rfl) fun b2 hb2 => ?_
 refine Wd (Qc (Nz 0 ?_))
 refine Wk 1 (Bb 0) ?_
 refine WS.buildSlice1 sl33 zv42 (vs := [v]) rfl rfl (by decide) (by intro y hy; obtain ⟨_, p, cap, rfl, _⟩ := h1; simp at hy; subst hy; rfl) (fun _ => rfl) ?_; intro v12
 refine Wk 1 (Cb rfl rfl ent129 (fun u hu => checkCodes_k _ _ [xs] _ _ u (SlL.one (osl_SlC hu (j := 0) rfl) (h1.st hu)))) ?_
 exact Wd (Qc (Cr (out1 rfl rfl (retBe (by simp [codeE])))))
theorem isCode_k (lw ls : Int) (xs : List Int) (v : Value) (w : World) (hL : lockB lw ls = true) (h1 : SlI w v xs) :
  Calls Tryz.prog 118 #[.agg #[.int .i64 lw, .int .i64 ls], v] w (RetB w (.bool (codeB lw ls xs))) := by
 have hl1 := h1.le
 have hl := lock_of hL
 refine enter Tryz.func118 rfl rfl (Nat.le_of_ble_eq_true rfl) ?_
 refine Nz 0 ?_
 refine Wb 1 rfl rfl (fun _ => rfl) (fun _ => rfl) fun b2 hb2 => ?_
 refine Wd (Qc (Cs (Nz 1 ?_)))
 refine Wk 1 Na ?_
 refine Wk 1 (Ba 0) ?_
 refine Wd (Qc (CS.cond rfl ?_ ?_))<;>intro hc1<;>try simp only [bq] at hc1
 ·
  refine Nz 1 ?_
  exact Wd (Qc (Cr (Qr (out1 rfl rfl (retBe (by rw [codeB_len hc1]))))))
 ·
  refine Ck (Qc (Cs (Nz 1 ?_)))
  refine Wd (Qc (Ce ?_))
  refine CS.loopM (σ := Int) [4, 11, 12, 13, 14, 15, 16, 17, 18, 19, 20, 21, 22, 23, 24, 25] (fun s => [(5, .int .i64 s)]) (fun _ => _) (fun s => 0 ≤ s ∧ s ≤ xs.length ∧ ∀ j : Int, 0 ≤ j → j < s → within (nth xs j) 0 (ls - 1) = true) (fun s => (xs.length - s).toNat) 0 (fun _ _ => rfl) rfl rfl ⟨by omega, by omega, fun j h1 h2 => by omega⟩ ?_
  intro s t hs
  obtain ⟨hs1, hs2, hs3⟩ := hs
  refine Cs (Nz 2 ?_)
  refine Wk 1 Na ?_
  refine Wd (Qc (CS.cond rfl ?_ ?_))<;>intro hc2<;>try simp only [bq] at hc2
  ·
   refine Ck (Qc (Cs (Ce (Cs (Dr mixed 2 ?_)))))
   refine Dk 0 Xa ?_
   refine Dk 1 Ia ?_
   refine Dk 0 (Ba 0) ?_
   refine Dk 0 Zb ?_
   refine Dk 1 (Cb rfl rfl ent117 (fun u hu => Within_k _ _ _ u)) ?_
   refine Dd (Qc (CS.cond rfl ?_ ?_))<;>intro hc3<;>try simp only [bq] at hc3
   ·
    refine Nz 1 ?_
    exact Wd (Qc (Cr (Qs (Qr (Qr (Qs (Qr (out1 rfl rfl (retBe (by rw [codeB_bad hs1 (by omega) hc3]))))))))))
   ·
    refine Ck (Qb (Qc (Ny 1 ?_)))
    refine Wk 1 Za ?_
    exact Wd (QS.head (s + 1) rfl rfl ⟨⟨by omega, by omega, fun j h1 h2 => if hj : j = s then by rw [hj]; exact hc3 else hs3 j h1 (by omega)⟩, by omega⟩)
  ·
   refine Cv (Qe (Qe (Qx (Qc (Nz 1 ?_)))))
   exact Wd (Qc (Cr (out1 rfl rfl (retBe (by rw [codeB_all (by omega) fun j h1 h2 => hs3 j h1 (by omega)])))))
theorem RCheckCode_k (lw ls : Int) (xs : List Int) (v : Value) (w : World) (h1 : SlI w v xs) :
  Calls Tryz.prog 58 #[.agg #[.int .i64 lw, .int .i64 ls], v] w (RetB w (.int .i64 (codeE lw ls xs))) := by
 refine enter Tryz.func58 rfl rfl (Nat.le_of_ble_eq_true rfl) ?_
 refine Nz 0 ?_
 refine Wb 1 rfl rfl (fun _ => rfl) (fun _ => rfl) fun b2 hb2 => ?_
 refine Wd (Qc (Cs (Nz 0 ?_)))
 refine Wk 0 (Bb 0) ?_
 refine Wk 1 (Cb rfl rfl ent57 (fun u hu => RCheck_k _ _ u)) ?_
 refine Wd (Qc (Nz 2 ?_))
 refine Wd (Qc (CS.cond rfl ?_ ?_))<;>intro hc1<;>try simp only [bq] at hc1
 ·
  refine Nz 2 ?_
  exact Wd (Qc (Cr (Qr (out1 rfl rfl (retBe (by have : lockB lw ls = false := (by simpa [lockE] using hc1); simp [codeE, lockE, this]))))))
 ·
  have hL : lockB lw ls = true := by simpa [lockE] using hc1
  refine Ck (Qc (Cs (Nz 0 ?_)))
  refine Wk 1 (Bb 0) ?_
  refine Wk 1 (Cb rfl rfl ent118 (fun u hu => isCode_k _ _ _ _ u hL (h1.st hu))) ?_
  refine Wd (Qc (CS.cond rfl ?_ ?_))<;>intro hc2<;>try simp only [bq] at hc2
  ·
   refine Nz 1 ?_
   exact Wd (Qc (Cr (Qr (out1 rfl rfl (retBe (by simp [codeE, hL, hc2]))))))
  ·
   refine Ck (Qc (Nz 1 ?_))
   exact Wd (Qc (Cr (out1 rfl rfl (retBe (by simp [codeE, hL, hc2])))))
theorem shown_k (xs : List Int) (v : Value) (y : Int) (w : World) (h1 : SlI w v xs) :
  Calls Tryz.prog 180 #[v, .int .i64 y] w (RetB w (.int .i64 (cnt xs y))) := by
 have hl1 := h1.le
 refine enter Tryz.func180 rfl rfl (Nat.le_of_ble_eq_true rfl) ?_
 refine Nz 1 ?_
 refine Wd (Qc (Nz 1 ?_))
 refine Wd (Qc (Cs (Nz 1 ?_)))
 refine Wd (Qc (Ce ?_))
 refine CS.loopM (σ := Int × Int) [7, 8, 9, 10, 11, 12, 13, 14, 15, 16, 17, 18, 19, 20] (fun s => [(5, .int .i64 s.2), (6, .int .i64 s.1)]) (fun _ => _) (fun s => 0 ≤ s.1 ∧ s.1 ≤ xs.length ∧ s.2 = cnt (xs.take s.1.toNat) y) (fun s => (xs.length - s.1).toNat) (0, 0) (fun _ _ => rfl) rfl rfl ⟨by simp, by simp, rfl⟩ ?_
 intro s t hs
 obtain ⟨hs1, hs2, hs3⟩ := hs
 have hbd := cnt_le (xs.take s.1.toNat) y
 have hlt := List.length_take_le s.1.toNat xs
 refine Cs (Nz 2 ?_)
 refine Wk 1 Na ?_
 refine Wd (Qc (CS.cond rfl ?_ ?_))<;>intro hc1<;>try simp only [bq] at hc1
 ·
  refine Ck (Qc (Cs (Ce (Nz 2 ?_))))
  refine Wk 0 Xa ?_
  refine Wk 2 Ia ?_
  refine Wd (Qc (CS.cond rfl ?_ ?_))<;>intro hc2<;>try simp only [bq] at hc2
  ·
   refine Ny 1 ?_
   refine Wk 1 Za ?_
   refine Wd (Qb (Qc (Ny 1 ?_)))
   refine Wk 1 Za ?_
   exact Wd (QS.head ((s.1 + 1, s.2 + 1)) rfl rfl ⟨⟨by simp; omega, by simp; omega, by simp only; rw [take_snocI xs hs1 (by omega), cnt_snoc, hs3]; simp [hc2]⟩, by simp; omega⟩)
  ·
   refine Ck (Qb (Qc (Ny 1 ?_)))
   refine Wk 1 Za ?_
   exact Wd (QS.head ((s.1 + 1, s.2)) rfl rfl ⟨⟨by simp; omega, by simp; omega, by simp only; rw [take_snocI xs hs1 (by omega), cnt_snoc, hs3]; simp [hc2]⟩, by simp; omega⟩)
 ·
  refine Cv (Qe (Qe (Qx (Qc (Nz 2 ?_)))))
  exact Wd (Qc (Cr (out1 rfl rfl (retBe (by rw [hs3, take_all xs (by omega)])))))
end Go.Proofs.YtaeagngfhceceaaGreatDoor
set_option maxHeartbeats 8000000
namespace Go.Proofs.YtaeagngfhceceaaGreatDoor
open Go.RowKit Go.Proofs
set_option maxRecDepth 100000
set_option linter.unusedVariables false
set_option linter.unusedSimpArgs false
theorem Ranswer_k (xs ys : List Int) (v1 v2 : Value) (w : World) (h1 : SlI w v1 xs) (h2 : SlI w v2 ys) (hl : xs.length = ys.length) (hm : xs.length ≤ 4) :
  Calls Tryz.prog 181 #[v1, v2] w (RetB w (.tuple #[.int .i64 (rightN xs ys), .int .i64 (commonN xs ys 10 - rightN xs ys)])) := by
 refine enter Tryz.func181 rfl rfl (Nat.le_of_ble_eq_true rfl) ?_
 refine Nz 2 ?_
 refine Wd (Qc (Nz 2 ?_))
 refine Wd (Qc (Cs (Nz 1 ?_)))
 refine Wd (Qc (Ce ?_))
 refine CS.loopM (σ := Int × Int) [10, 11, 12, 13, 14, 15, 16, 17, 18, 19, 20, 21, 22, 23, 24, 25, 26] (fun s => [(6, .int .i64 s.2), (8, .int .i64 s.1)]) (fun _ => _) (fun s => 0 ≤ s.1 ∧ s.1 ≤ xs.length ∧ s.2 = rightN (xs.take s.1.toNat) (ys.take s.1.toNat)) (fun s => (xs.length - s.1).toNat) (0, 0) (fun _ _ => rfl) rfl rfl ⟨by simp, by simp, by simp [rightN]⟩ ?_
 intro s t hs
 obtain ⟨hs1, hs2, hs3⟩ := hs
 have hbd := rightN_le (xs.take s.1.toNat) (ys.take s.1.toNat)
 have hlt := List.length_take_le s.1.toNat xs
 refine Cs (Nz 2 ?_)
 refine Wk 1 Na ?_
 refine Wd (Qc (CS.cond rfl ?_ ?_))<;>intro hc1<;>try simp only [bq] at hc1
 ·
  refine Ck (Qc (Cs (Ce (Cs (Dr mixed 2 ?_)))))
  refine Dk 0 Xa ?_
  refine Dk 2 Ia ?_
  refine Dk 0 Xa ?_
  refine Dk 1 Ia ?_
  refine Dd (Qc (CS.cond rfl ?_ ?_))<;>intro hc2<;>try simp only [bq] at hc2
  ·
   refine Ny 1 ?_
   refine Wk 1 Za ?_
   refine Wd (Qb (Qc (Ny 1 ?_)))
   refine Wk 1 Za ?_
   exact Wd (QS.head ((s.1 + 1, s.2 + 1)) rfl rfl ⟨⟨by simp; omega, by simp; omega, by simp only; rw [rightN_take xs ys hl hs1 (by omega), hs3]; simp [hc2]⟩, by simp; omega⟩)
  ·
   refine Ck (Qb (Qc (Ny 1 ?_)))
   refine Wk 1 Za ?_
   exact Wd (QS.head ((s.1 + 1, s.2)) rfl rfl ⟨⟨by simp; omega, by simp; omega, by simp only; rw [rightN_take xs ys hl hs1 (by omega), hs3]; simp [hc2]⟩, by simp; omega⟩)
 ·
  have e1 := take_all xs (i := s.1) (by omega)
  have e2 := take_all ys (i := s.1) (by omega)
  rw [e1, e2] at hs3
  have hb3 := rightN_le xs ys
  have hb4 := commonN_bd xs ys 10
  refine Cv (Qe (Qe (Qx (Qc (Cs (Nz 1 ?_))))))
  refine Wd (Qc (Ce ?_))
  refine CS.loopM (σ := Int × Int) [27, 28, 29, 30, 31, 32, 33, 34, 35, 36, 37, 38, 39] (fun s => [(7, .int .i64 s.2), (9, .int .i64 s.1)]) (fun _ => _) (fun s => 0 ≤ s.1 ∧ s.1 ≤ 10 ∧ s.2 = commonN xs ys s.1.toNat) (fun s => (10 - s.1).toNat) (0, 0) (fun _ _ => rfl) rfl rfl ⟨by simp, by simp, by simp [commonN]⟩ ?_
  intro r t hs
  obtain ⟨ks1, ks2, ks3⟩ := hs
  have kbd := commonN_bd xs ys r.1.toNat
  have kb2 : ((r.1.toNat : Nat) : Int) * (xs.length : Int) ≤ 10 * 4 := Int.mul_le_mul (by omega) (by omega) (by omega) (by omega)
  have kc1 := cnt_le xs r.1
  have kc2 := cnt_le ys r.1
  refine Cs (Nz 2 ?_)
  refine Wd (Qc (CS.cond rfl ?_ ?_))<;>intro hc3<;>try simp only [bq] at hc3
  ·
   refine Ck (Qc (Cs (Ce (Ny 3 ?_))))
   refine Wk 2 (Cb rfl rfl ent180 (fun u hu => shown_k _ _ _ u (h1.st hu))) ?_
   refine Wk 0 (Cb rfl rfl ent180 (fun u hu => shown_k _ _ _ u (h2.st hu))) ?_
   refine Wk 0 (det_min rfl rfl) ?_
   refine Wk 1 Za ?_
   refine Wd (Qb (Qc (Ny 1 ?_)))
   refine Wk 1 Za ?_
   exact Wd (QS.head ((r.1 + 1, r.2 + min (cnt xs r.1) (cnt ys r.1))) rfl rfl ⟨⟨by simp; omega, by simp; omega, by have e : (r.1 + 1).toNat = r.1.toNat + 1 := (by omega); have e2 : ((r.1.toNat : Nat) : Int) = r.1 := (by omega); simp only [e, commonN, e2, ks3]⟩, by simp; omega⟩)
  ·
   have e3 : r.1 = 10 := by omega
   rw [e3] at ks3
   have ks4 : r.2 = commonN xs ys 10 := ks3
   refine Cv (Qe (Qe (Qx (Qc (Nz 3 ?_)))))
   refine Wk 2 Zb ?_
   exact Wd (Qc (Cr (out2 rfl rfl rfl (retBe (by rw [ks4, hs3])))))
theorem answer_k (xs ys : List Int) (v1 v2 : Value) (w : World) (h1 : SlI w v1 xs) (h2 : SlI w v2 ys) (hl : xs.length = ys.length) (hm : xs.length ≤ 4)
  (hx : ∀ x ∈ xs, 0 ≤ x ∧ x < 10) (hy : ∀ x ∈ ys, 0 ≤ x ∧ x < 10) :
  Calls Tryz.prog 187 #[v1, v2] w (RetB w (.tuple #[.int .i64 (rightN xs ys), .int .i64 (commonN xs ys 10 - rightN xs ys)])) := by
 refine enter Tryz.func187 rfl rfl (Nat.le_of_ble_eq_true rfl) ?_
 refine Nz 2 ?_
 refine Wd (Qc (Nz 0 ?_))
 refine Wl 0 zv241 (fun _ => rfl) (fun _ => rfl) fun b6 hb6 => ?_
 refine Wl 0 zv241 (fun _ => rfl) (fun _ => rfl) fun b7 hb7 => ?_
 refine Wd (Qc (Cs (Nz 1 ?_)))
 refine Wk 1 Na ?_
 refine Wd (Qc (Ce ?_))
 refine CS.loopM (σ := Int × Int) [8, 9, 14, 15, 16, 17, 18, 19, 20, 21, 22, 23, 24, 25, 26, 27, 28, 29, 30, 31, 32, 33, 34, 35, 36, 37, 38, 39] (fun s => [(4, .int .i64 s.2), (13, .int .i64 s.1)]) (fun s => [blk b7 (tally (ys.take s.1.toNat)) 241, blk b6 (tally (xs.take s.1.toNat)) 241]) (fun s => 0 ≤ s.1 ∧ s.1 ≤ xs.length ∧ s.2 = rightN (xs.take s.1.toNat) (ys.take s.1.toNat)) (fun s => (xs.length - s.1).toNat) (0, 0) (fun _ _ => rfl) rfl rfl ⟨by simp, by simp, by simp [rightN]⟩ ?_
 intro s t hs
 obtain ⟨hs1, hs2, hs3⟩ := hs
 have hbd := rightN_le (xs.take s.1.toNat) (ys.take s.1.toNat)
 have hlt := List.length_take_le s.1.toNat xs
 have hlt2 := List.length_take_le s.1.toNat ys
 refine Nz 1 ?_
 refine Wd (Qc (Cs (CS.cond rfl ?_ ?_)))<;>intro hc1<;>try simp only [bq] at hc1
 ·
  have hlx : s.1 < xs.length := by omega
  have hly : s.1 < ys.length := by omega
  have hnx := hx _ (nth_mem hs1 hlx)
  have hny := hy _ (nth_mem hs1 hly)
  have ct1 := cnt_le (xs.take s.1.toNat) (nth xs s.1)
  have ct2 := cnt_le (ys.take s.1.toNat) (nth ys s.1)
  refine Ck (Qc (Cs (Ce (Nz 1 ?_))))
  refine Wk 0 Xa ?_
  refine Wk 2 Ia ?_
  refine Wd (Qc (Cs (Nz 3 ?_)))
  refine Wk 0 Xa ?_
  refine Wk 1 Ia ?_
  refine Wd (Qc (CS.cond rfl ?_ ?_))<;>intro hc2<;>try simp only [bq] at hc2
  ·
   refine Ny 1 ?_
   refine Wk 1 Za ?_
   refine Wd (Qc (Nz 1 ?_))
   refine Wk 0 (det_indexA arr241 rfl rfl (by omega) (by omega)) ?_
   refine Wk 0 (det_loadb (j := 1) rfl rfl (tally_at hnx.1 hnx.2) tk3) ?_
   refine Wk 0 Za ?_
   refine Wk 0 (det_indexA arr241 rfl rfl (by omega) (by omega)) ?_
   refine WS.store (j := 1) rfl rfl (by simp [tally_len]; omega) rfl rfl tk3 (lset_eq _ _ _) rfl ?_
   refine Wd (Qc (Ny 2 ?_))
   refine Wk 0 Xa ?_
   refine Wk 0 Ia ?_
   refine Wk 0 (det_indexA arr241 rfl rfl (by omega) (by omega)) ?_
   refine Wk 0 (det_loadb (j := 0) rfl rfl (tally_at hny.1 hny.2) tk3) ?_
   refine Wk 0 Za ?_
   refine Wk 0 (det_indexA arr241 rfl rfl (by omega) (by omega)) ?_
   refine WS.store (j := 0) rfl rfl (by simp [tally_len]; omega) rfl rfl tk3 (lset_eq _ _ _) rfl ?_
   refine Wd (Qb (Qc (Ny 0 ?_)))
   refine Wk 1 Za ?_
   exact Wd (QS.head ((s.1 + 1, s.2 + 1)) rfl (by simp only [tally_set hnx.1 hnx.2, tally_set hny.1 hny.2, take_snocI xs hs1 hlx, take_snocI ys hs1 hly]) ⟨⟨by simp; omega, by simp; omega, by simp only; rw [rightN_take xs ys hl hs1 (by omega), hs3]; simp [hc2]⟩, by simp; omega⟩)
  ·
   refine Ck (Qc (Nz 1 ?_))
   refine Wk 0 (det_indexA arr241 rfl rfl (by omega) (by omega)) ?_
   refine Wk 0 (det_loadb (j := 1) rfl rfl (tally_at hnx.1 hnx.2) tk3) ?_
   refine Wk 0 Za ?_
   refine Wk 0 (det_indexA arr241 rfl rfl (by omega) (by omega)) ?_
   refine WS.store (j := 1) rfl rfl (by simp [tally_len]; omega) rfl rfl tk3 (lset_eq _ _ _) rfl ?_
   refine Wd (Qc (Ny 2 ?_))
   refine Wk 0 Xa ?_
   refine Wk 0 Ia ?_
   refine Wk 0 (det_indexA arr241 rfl rfl (by omega) (by omega)) ?_
   refine Wk 0 (det_loadb (j := 0) rfl rfl (tally_at hny.1 hny.2) tk3) ?_
   refine Wk 0 Za ?_
   refine Wk 0 (det_indexA arr241 rfl rfl (by omega) (by omega)) ?_
   refine WS.store (j := 0) rfl rfl (by simp [tally_len]; omega) rfl rfl tk3 (lset_eq _ _ _) rfl ?_
   refine Wd (Qb (Qc (Ny 0 ?_)))
   refine Wk 1 Za ?_
   exact Wd (QS.head ((s.1 + 1, s.2)) rfl (by simp only [tally_set hnx.1 hnx.2, tally_set hny.1 hny.2, take_snocI xs hs1 hlx, take_snocI ys hs1 hly]) ⟨⟨by simp; omega, by simp; omega, by simp only; rw [rightN_take xs ys hl hs1 (by omega), hs3]; simp [hc2]⟩, by simp; omega⟩)
 ·
  have e1 := take_all xs (i := s.1) (by omega)
  have e2 := take_all ys (i := s.1) (by omega)
  rw [e1, e2] at hs3
  have hb3 := rightN_le xs ys
  have hb4 := commonN_bd xs ys 10
  refine Cv (Qe (Qe (Qx (Qc (Cs (Nz 1 ?_))))))
  refine Wd (Qc (Ce ?_))
  refine CS.loopM (σ := Int × Int) [10, 41, 42, 43, 44, 45, 46, 47, 48, 49, 50, 51, 52] (fun s => [(5, .int .i64 s.2), (40, .int .i64 s.1)]) (fun s => [blk b7 (tally ys) 241, blk b6 (tally xs) 241]) (fun s => 0 ≤ s.1 ∧ s.1 ≤ 10 ∧ s.2 = commonN xs ys s.1.toNat) (fun s => (10 - s.1).toNat) (0, 0) (fun _ _ => rfl) rfl (by rw [e1, e2]) ⟨by simp, by simp, by simp [commonN]⟩ ?_
  intro r t hs
  obtain ⟨ks1, ks2, ks3⟩ := hs
  have kbd := commonN_bd xs ys r.1.toNat
  have kb2 : ((r.1.toNat : Nat) : Int) * (xs.length : Int) ≤ 10 * 4 := Int.mul_le_mul (by omega) (by omega) (by omega) (by omega)
  have kc1 := cnt_le xs r.1
  have kc2 := cnt_le ys r.1
  refine Nz 1 ?_
  refine Wd (Qc (Cs (CS.cond rfl ?_ ?_)))<;>intro hc3<;>try simp only [bq] at hc3
  ·
   refine Ck (Qc (Cs (Ce (Nz 2 ?_))))
   refine Wd (Qc (Dr mixed 2 ?_))
   refine Dk 0 (det_indexA arr241 rfl rfl (by omega) (by omega)) ?_
   refine Dk 1 (det_loadb (j := 1) rfl rfl (tally_at (by omega) (by omega)) tk3) ?_
   refine Dk 0 (det_indexA arr241 rfl rfl (by omega) (by omega)) ?_
   refine Dk 0 (det_loadb (j := 0) rfl rfl (tally_at (by omega) (by omega)) tk3) ?_
   refine Dk 0 (det_min rfl rfl) ?_
   refine Dk 1 Za ?_
   refine Dd (Qb (Qc (Ny 0 ?_)))
   refine Wk 1 Za ?_
   exact Wd (QS.head ((r.1 + 1, r.2 + min (cnt xs r.1) (cnt ys r.1))) rfl rfl ⟨⟨by simp; omega, by simp; omega, by have e : (r.1 + 1).toNat = r.1.toNat + 1 := (by omega); have e2 : ((r.1.toNat : Nat) : Int) = r.1 := (by omega); simp only [e, commonN, e2, ks3]⟩, by simp; omega⟩)
  ·
   have e3 : r.1 = 10 := by omega
   rw [e3] at ks3
   have ks4 : r.2 = commonN xs ys 10 := ks3
   refine Cv (Qe (Qe (Qx (Qc (Nz 3 ?_)))))
   refine Wk 2 Zb ?_
   exact Wd (Qc (Cr (out2 rfl rfl rfl (retBe (by rw [ks4, hs3])))))
end Go.Proofs.YtaeagngfhceceaaGreatDoor
set_option maxHeartbeats 8000000
namespace Go.Proofs.YtaeagngfhceceaaGreatDoor
open Go.RowKit Go.Proofs
set_option maxRecDepth 100000
set_option linter.unusedVariables false
set_option linter.unusedSimpArgs false
theorem SameClue_k (c d : Clue) (gv hv : Value) (w : World) (h1 : SlI w gv c.g) (h2 : SlI w hv d.g) :
  Calls Tryz.prog 219 #[.agg #[.int .i64 c.k, .int .i64 c.a, .int .i64 c.b, .int .i64 c.n, .int .i64 c.m, gv, .bool c.nt], .agg #[.int .i64 d.k, .int .i64 d.a, .int .i64 d.b, .int .i64 d.n, .int .i64 d.m, hv, .bool d.nt]] w (RetB w (.bool (decide (c = d)))) := by
 refine enter Tryz.func219 rfl rfl (Nat.le_of_ble_eq_true rfl) ?_
 refine Nz 0 ?_
 refine Wb 0 rfl rfl (fun _ => rfl) (fun _ => rfl) fun b2 hb2 => ?_
 refine Wb 1 rfl rfl (fun _ => rfl) (fun _ => rfl) fun b3 hb3 => ?_
 refine Wd (Qc (Nz 1 ?_))
 refine Wk 1 (Ba 1) ?_
 refine Wk 2 (Ba 0) ?_
 refine Wt 0 rfl rfl (fun hg => Ff) ?_
 refine Wt 0 rfl rfl (fun hg => Ba 1) ?_
 refine Wt 0 rfl rfl (fun hg => Ff) ?_
 refine Wt 0 rfl rfl (fun hg => Ba 0) ?_
 refine Wt 0 rfl rfl (fun hg => Fq) ?_
 refine Wk 1 Pa ?_
 refine Wt 0 rfl rfl (fun hg => Ff) ?_
 refine Wt 0 rfl rfl (fun hg => Ba 1) ?_
 refine Wt 0 rfl rfl (fun hg => Ff) ?_
 refine Wt 0 rfl rfl (fun hg => Ba 0) ?_
 refine Wt 0 rfl rfl (fun hg => Fq) ?_
 refine Wk 1 Pa ?_
 refine Wt 0 rfl rfl (fun hg => Ff) ?_
 refine Wt 0 rfl rfl (fun hg => Ba 1) ?_
 refine Wt 0 rfl rfl (fun hg => Ff) ?_
 refine Wt 0 rfl rfl (fun hg => Ba 0) ?_
 refine Wt 0 rfl rfl (fun hg => Fq) ?_
 refine Wk 1 Pa ?_
 refine Wt 0 rfl rfl (fun hg => Ff) ?_
 refine Wt 0 rfl rfl (fun hg => Ba 1) ?_
 refine Wt 0 rfl rfl (fun hg => Ff) ?_
 refine Wt 0 rfl rfl (fun hg => Ba 0) ?_
 refine Wt 0 rfl rfl (fun hg => Fq) ?_
 refine Wk 1 Pa ?_
 refine Wt 0 rfl rfl (fun hg => Ff) ?_
 refine Wt 0 rfl rfl (fun hg => Ba 1) ?_
 refine Wt 0 rfl rfl (fun hg => Ff) ?_
 refine Wt 0 rfl rfl (fun hg => Ba 0) ?_
 refine Wt 0 rfl rfl (fun hg => det_eqb (eg_ hg rfl) (eg_ hg rfl) Tryz.underlying4) ?_
 refine Wk 1 Pa ?_
 refine Wt 0 rfl rfl (fun hg => Ff) ?_
 refine Wt 0 rfl rfl (fun hg => Ba 1) ?_
 refine Wt 0 rfl rfl (fun hg => Ff) ?_
 refine Wt 0 rfl rfl (fun hg => Ba 0) ?_
 refine Wt 0 rfl rfl (fun hg => Cb rfl (ec_ (eg_ hg rfl) (ec_ (eg_ hg rfl) en_)) ent237 (fun u hu => SameInts_k _ _ _ _ u (h1.st hu) (h2.st hu))) ?_
 refine Wk 1 Pa ?_
 exact Wd (Qc (Cr (out1 rfl rfl (retBe (by cases c; cases d; simp [Clue.mk.injEq, Bool.and_assoc, and_assoc]; grind)))))
theorem clue_k (lw ls : Int) (c : Clue) (gv : Value) (w : World) (hL : lockB lw ls = true) (h1 : SlI w gv c.g) :
  Calls Tryz.prog 128 #[.agg #[.int .i64 lw, .int .i64 ls], .agg #[.int .i64 c.k, .int .i64 c.a, .int .i64 c.b, .int .i64 c.n, .int .i64 c.m, gv, .bool c.nt]] w (RetB w (.bool (clueB lw ls c))) := by
 have hl := lock_of hL
 obtain ⟨hgn, p, cap, rfl, hcap, hp⟩ := h1
 have h1 : SlI w (.slice p c.g.length cap) c.g := ⟨hgn, p, cap, rfl, hcap, hp⟩
 clear hgn hcap hp
 refine enter Tryz.func128 rfl rfl (Nat.le_of_ble_eq_true rfl) ?_
 refine Nz 0 ?_
 refine Wb 0 rfl rfl (fun _ => rfl) (fun _ => rfl) fun b2 hb2 => ?_
 refine Wb 1 rfl rfl (fun _ => rfl) (fun _ => rfl) fun b3 hb3 => ?_
 refine Wd (Qc (Nz 1 ?_))
 refine Wk 1 (Ba 0) ?_
 refine Wk 0 (Ba 0) ?_
 refine Wk 0 (Db plc48 zv48) ?_
 refine Wl 0 zv48 (fun _ => rfl) (fun _ => rfl) fun b5 hb5 => ?_
 refine Wv 0 0 ?_
 refine Wd (Qc (Nz 1 ?_))
 refine Wd (Qc ?_)
 refine CS.cut (σ := Used) [12, 13, 14, 15, 16, 17, 18, 19, 20, 21, 22, 23, 24, 25, 26, 27, 28, 29, 30, 31, 32, 33, 34, 35, 36, 37, 38, 39, 40, 41, 42, 43, 44, 45, 46, 47, 48, 49, 50, 51, 52, 53, 54, 55, 56, 57, 58, 59, 60, 61, 62, 63, 64, 65, 66, 67, 68, 69, 70, 71, 72, 73, 74, 75, 76, 77, 78, 79, 80, 81, 82, 83, 84, 85, 86, 87, 88, 89, 90, 91, 92, 93, 94, 95, 96, 97, 98, 99, 100, 101, 102, 103, 104, 105, 106, 107, 108, 109, 110, 111, 112, 113, 114, 115, 116, 117, 118, 119, 120, 121, 122, 123, 124, 125, 126, 127, 128, 129, 130, 131, 132, 133, 134, 135, 136, 137, 138, 139, 140, 141, 142, 143, 144, 145, 146, 147, 148, 149, 150, 151, 152, 153, 154, 155, 156, 157, 158, 159, 160, 161, 162, 163, 164, 165, 166] (fun s => [(6, .bool s.is)]) (fun s => [blk b5 [.int .i64 c.k, .int .i64 s.a, .int .i64 s.b, .int .i64 s.n, .int .i64 s.m, .slice s.q s.l s.cap, .bool c.nt] 48, blk b3 [.int .i64 c.k, .int .i64 c.a, .int .i64 c.b, .int .i64 c.n, .int .i64 c.m, .slice p c.g.length cap, .bool c.nt] 48, blk b2 [.int .i64 lw, .int .i64 ls] 116]) (fun s => usedB c s = clueB lw ls c) (fun _ _ => rfl) ?_ ?_
 ·
  refine Nz 1 ?_
  refine Wk 0 (Ba 1) ?_
  refine Wd (Qc (Ce (Nz 2 ?_)))
  refine Wd (Qc (CS.cond rfl ?_ ?_))<;>intro hc1<;>try simp only [bq] at hc1
  ·
   refine Cs ?_
   refine CS.drawnBut 0 (k := 8) mixed rfl rfl rfl ?_
   refine Ar [0] ?_
   refine Ak 1 [2] rfl (Ba 0) ?_
   refine Ak 3 [4] rfl (Ba 0) ?_
   refine Ao 5 rfl ?_
   refine Ws 0 0 ?_
   refine Wd (Qa ?_)
   refine Ar [6] ?_
   refine Ao 7 rfl ?_
   refine Ws 0 0 ?_
   refine Wd (Qa ?_)
   refine Ae ?_
   refine Qc (Ny 0 ?_)
   refine Wk 1 (Bb 2) ?_
   refine Wk 0 (Ba 1) ?_
   refine Wk 1 (Cb rfl rfl ent182 (fun u hu => wheel_k _ _ _ u hL)) ?_
   refine Wt 0 rfl rfl (fun hg => Bb 2) ?_
   refine Wt 0 rfl rfl (fun hg => Ff) ?_
   refine Wt 0 rfl rfl (fun hg => Ba 1) ?_
   refine Wt 0 rfl rfl (fun hg => Cb rfl (ec_ (eg_ hg rfl) (ec_ (eg_ hg rfl) en_)) ent183 (fun u hu => symbol_k _ _ _ u hL)) ?_
   refine Wk 1 Pa ?_
   exact Wd (Qb (QS.head (⟨within c.a 0 (lw - 1) && within c.n 0 (ls - 1), c.a, 0, c.n, 0, none, 0, 0⟩) rfl rfl (clueB_1 hc1 none 0)))
  ·
   refine Nz 2 ?_
   refine Wd (Qc (CS.cond rfl ?_ ?_))<;>intro hc2<;>try simp only [bq] at hc2
   ·
    refine Cs ?_
    refine CS.drawnBut 0 (k := 12) mixed rfl rfl rfl ?_
    refine Ar [0] ?_
    refine Ak 1 [2] rfl (Ba 0) ?_
    refine Ak 3 [4] rfl (Ba 0) ?_
    refine Ak 5 [6] rfl (Ba 0) ?_
    refine Ao 7 rfl ?_
    refine Ws 0 0 ?_
    refine Wd (Qa ?_)
    refine Ar [8] ?_
    refine Ao 9 rfl ?_
    refine Ws 0 0 ?_
    refine Wd (Qa ?_)
    refine Ar [10] ?_
    refine Ao 11 rfl ?_
    refine Ws 0 0 ?_
    refine Wd (Qa ?_)
    refine Ae ?_
    refine Qc (Ny 0 ?_)
    refine Wk 1 (Bb 2) ?_
    refine Wk 0 (Ba 1) ?_
    refine Wk 1 (Cb rfl rfl ent182 (fun u hu => wheel_k _ _ _ u hL)) ?_
    refine Wt 0 rfl rfl (fun hg => Bb 2) ?_
    refine Wt 0 rfl rfl (fun hg => Ff) ?_
    refine Wt 0 rfl rfl (fun hg => Ba 1) ?_
    refine Wt 0 rfl rfl (fun hg => Cb rfl (ec_ (eg_ hg rfl) (ec_ (eg_ hg rfl) en_)) ent182 (fun u hu => wheel_k _ _ _ u hL)) ?_
    refine Wk 1 Pa ?_
    refine Wt 0 rfl rfl (fun hg => Ff) ?_
    refine Wt 0 rfl rfl (fun hg => Ba 1) ?_
    refine Wt 0 rfl rfl (fun hg => Ff) ?_
    refine Wt 0 rfl rfl (fun hg => Ba 1) ?_
    refine Wt 0 rfl rfl (fun hg => Fk) ?_
    refine Wk 1 Pa ?_
    refine Wt 0 rfl rfl (fun hg => Ff) ?_
    refine Wt 0 rfl rfl (fun hg => Ba 1) ?_
    refine Wt 0 rfl rfl (fun hg => Cb rfl (ec_ (eg_ hg rfl) (ec_ rfl (ec_ rfl en_))) ent77 (fun u hu => within_k _ _ _ u)) ?_
    refine Wk 1 Pa ?_
    exact Wd (Qb (QS.head (⟨((within c.a 0 (lw - 1) && within c.b 0 (lw - 1)) && decide (c.a ≤ c.b)) && within c.n 0 100, c.a, c.b, c.n, 0, none, 0, 0⟩) rfl rfl (clueB_2 hc2 none 0)))
   ·
    refine Cs (Nz 2 ?_)
    refine Wd (Qc (CS.cond rfl ?_ ?_))<;>intro hc3<;>try simp only [bq] at hc3
    ·
     refine Ck (Qc (CS.cond rfl ?_ ?_))<;>intro hc4<;>try simp only [bq] at hc4
     ·
      refine Cs ?_
      refine CS.drawnBut 0 (k := 8) mixed rfl rfl rfl ?_
      refine Ar [0] ?_
      refine Ak 1 [2] rfl (Ba 0) ?_
      refine Ak 3 [4] rfl (Ba 0) ?_
      refine Ao 5 rfl ?_
      refine Ws 0 0 ?_
      refine Wd (Qa ?_)
      refine Ar [6] ?_
      refine Ao 7 rfl ?_
      refine Ws 0 0 ?_
      refine Wd (Qa ?_)
      refine Ae ?_
      refine Qc (Ny 0 ?_)
      refine Wk 1 (Bb 2) ?_
      refine Wk 0 (Ba 1) ?_
      refine Wk 1 (Cb rfl rfl ent182 (fun u hu => wheel_k _ _ _ u hL)) ?_
      refine Wt 0 rfl rfl (fun hg => Bb 2) ?_
      refine Wt 0 rfl rfl (fun hg => Ff) ?_
      refine Wt 0 rfl rfl (fun hg => Ba 1) ?_
      refine Wt 0 rfl rfl (fun hg => Cb rfl (ec_ (eg_ hg rfl) (ec_ (eg_ hg rfl) en_)) ent182 (fun u hu => wheel_k _ _ _ u hL)) ?_
      refine Wk 1 Pa ?_
      refine Wt 0 rfl rfl (fun hg => Ff) ?_
      refine Wt 0 rfl rfl (fun hg => Ba 1) ?_
      refine Wt 0 rfl rfl (fun hg => Ff) ?_
      refine Wt 0 rfl rfl (fun hg => Ba 1) ?_
      refine Wt 0 rfl rfl (fun hg => Fr) ?_
      refine Wk 1 Pa ?_
      exact Wd (Qb (QS.head (⟨(within c.a 0 (lw - 1) && within c.b 0 (lw - 1)) && decide (c.a ≠ c.b), c.a, c.b, 0, 0, none, 0, 0⟩) rfl rfl (clueB_3 hc3 none 0)))
     ·
      exact absurd hc3 hc4
    ·
     refine Ny 2 ?_
     refine Wd (Qc (CS.cond rfl ?_ ?_))<;>intro hc5<;>try simp only [bq] at hc5
     ·
      refine Cs ?_
      refine CS.drawnBut 0 (k := 8) mixed rfl rfl rfl ?_
      refine Ar [0] ?_
      refine Ak 1 [2] rfl (Ba 0) ?_
      refine Ak 3 [4] rfl (Ba 0) ?_
      refine Ao 5 rfl ?_
      refine Ws 0 0 ?_
      refine Wd (Qa ?_)
      refine Ar [6] ?_
      refine Ao 7 rfl ?_
      refine Ws 0 0 ?_
      refine Wd (Qa ?_)
      refine Ae ?_
      refine Qc (Ny 0 ?_)
      refine Wk 1 (Bb 2) ?_
      refine Wk 0 (Ba 1) ?_
      refine Wk 1 (Cb rfl rfl ent182 (fun u hu => wheel_k _ _ _ u hL)) ?_
      refine Wt 0 rfl rfl (fun hg => Bb 2) ?_
      refine Wt 0 rfl rfl (fun hg => Ff) ?_
      refine Wt 0 rfl rfl (fun hg => Ba 1) ?_
      refine Wt 0 rfl rfl (fun hg => Cb rfl (ec_ (eg_ hg rfl) (ec_ (eg_ hg rfl) en_)) ent182 (fun u hu => wheel_k _ _ _ u hL)) ?_
      refine Wk 1 Pa ?_
      refine Wt 0 rfl rfl (fun hg => Ff) ?_
      refine Wt 0 rfl rfl (fun hg => Ba 1) ?_
      refine Wt 0 rfl rfl (fun hg => Ff) ?_
      refine Wt 0 rfl rfl (fun hg => Ba 1) ?_
      refine Wt 0 rfl rfl (fun hg => Fr) ?_
      refine Wk 1 Pa ?_
      exact Wd (Qb (QS.head (⟨(within c.a 0 (lw - 1) && within c.b 0 (lw - 1)) && decide (c.a ≠ c.b), c.a, c.b, 0, 0, none, 0, 0⟩) rfl rfl (clueB_4 hc5 none 0)))
     ·
      refine Nz 2 ?_
      refine Wd (Qc (CS.cond rfl ?_ ?_))<;>intro hc6<;>try simp only [bq] at hc6
      ·
       refine Cs ?_
       refine CS.drawnBut 0 (k := 8) mixed rfl rfl rfl ?_
       refine Ar [0] ?_
       refine Ak 1 [2] rfl (Ba 0) ?_
       refine Ak 3 [4] rfl (Ba 0) ?_
       refine Ao 5 rfl ?_
       refine Ws 0 0 ?_
       refine Wd (Qa ?_)
       refine Ar [6] ?_
       refine Ao 7 rfl ?_
       refine Ws 0 0 ?_
       refine Wd (Qa ?_)
       refine Ae ?_
       refine Qc (Ny 0 ?_)
       refine Wk 1 (Bb 2) ?_
       refine Wk 0 (Ba 1) ?_
       refine Wk 1 (Cb rfl rfl ent183 (fun u hu => symbol_k _ _ _ u hL)) ?_
       refine Wt 0 rfl rfl (fun hg => Ff) ?_
       refine Wt 0 rfl rfl (fun hg => Ba 1) ?_
       refine Wt 0 rfl rfl (fun hg => Ff) ?_
       refine Wt 0 rfl rfl (fun hg => Ba 2) ?_
       refine Wt 0 rfl rfl (fun hg => Cb rfl (ec_ (eg_ hg rfl) (ec_ rfl (ec_ (eg_ hg rfl) en_))) ent77 (fun u hu => within_k _ _ _ u)) ?_
       refine Wk 1 Pa ?_
       exact Wd (Qb (QS.head (⟨within c.n 0 (ls - 1) && within c.m 0 lw, 0, 0, c.n, c.m, none, 0, 0⟩) rfl rfl (clueB_5 hc6 none 0)))
      ·
       refine Nz 2 ?_
       refine Wd (Qc (CS.cond rfl ?_ ?_))<;>intro hc7<;>try simp only [bq] at hc7
       ·
        refine Cs ?_
        refine CS.drawnBut 0 (k := 12) mixed rfl rfl rfl ?_
        refine Ar [0] ?_
        refine Ak 1 [2] rfl (Ba 0) ?_
        refine Ak 3 [4] rfl (Ba 0) ?_
        refine Ak 5 [6] rfl (Ba 0) ?_
        refine Ao 7 rfl ?_
        refine Ws 0 0 ?_
        refine Wd (Qa ?_)
        refine Ar [8] ?_
        refine Ao 9 rfl ?_
        refine Ws 0 0 ?_
        refine Wd (Qa ?_)
        refine Ar [10] ?_
        refine Ao 11 rfl ?_
        refine Ws 0 0 ?_
        refine Wd (Qa ?_)
        refine Ae ?_
        refine Qc (Ny 1 ?_)
        refine Wk 1 (Ba 1) ?_
        refine Wk 0 (Ba 2) ?_
        refine Wk 1 (Cb rfl rfl ent77 (fun u hu => within_k _ _ _ u)) ?_
        refine Wt 0 rfl rfl (fun hg => Ff) ?_
        refine Wt 0 rfl rfl (fun hg => Ba 1) ?_
        refine Wt 0 rfl rfl (fun hg => Ff) ?_
        refine Wt 0 rfl rfl (fun hg => Ba 2) ?_
        refine Wt 0 rfl rfl (fun hg => Cb rfl (ec_ (eg_ hg rfl) (ec_ rfl (ec_ (eg_ hg rfl) en_))) ent77 (fun u hu => within_k _ _ _ u)) ?_
        refine Wk 1 Pa ?_
        refine Wt 0 rfl rfl (fun hg => Bb 2) ?_
        refine Wt 0 rfl rfl (fun hg => Ff) ?_
        refine Wt 0 rfl rfl (fun hg => Ba 1) ?_
        refine Wt 0 rfl rfl (fun hg => Cb rfl (ec_ (eg_ hg rfl) (ec_ (eg_ hg rfl) en_)) ent184 (fun u hu => code_k _ _ _ _ u hL (h1.st hu))) ?_
        refine Wk 1 Pa ?_
        exact Wd (Qb (QS.head (⟨(within c.n 0 lw && within c.m 0 lw) && codeB lw ls c.g, 0, 0, c.n, c.m, p, c.g.length, cap⟩) rfl rfl (clueB_6 hc7 p cap)))
       ·
        refine Nz 2 ?_
        refine Wd (Qc (CS.cond rfl ?_ ?_))<;>intro hc8<;>try simp only [bq] at hc8
        ·
         refine Cs ?_
         refine CS.drawnBut 0 (k := 12) mixed rfl rfl rfl ?_
         refine Ar [0] ?_
         refine Ak 1 [2] rfl (Ba 0) ?_
         refine Ak 3 [4] rfl (Ba 0) ?_
         refine Ak 5 [6] rfl (Ba 0) ?_
         refine Ao 7 rfl ?_
         refine Ws 0 0 ?_
         refine Wd (Qa ?_)
         refine Ar [8] ?_
         refine Ao 9 rfl ?_
         refine Ws 0 0 ?_
         refine Wd (Qa ?_)
         refine Ar [10] ?_
         refine Ao 11 rfl ?_
         refine Ws 0 0 ?_
         refine Wd (Qa ?_)
         refine Ae ?_
         refine Qc (Ny 0 ?_)
         refine Wk 1 (Bb 2) ?_
         refine Wk 0 (Ba 1) ?_
         refine Wk 1 (Cb rfl rfl ent182 (fun u hu => wheel_k _ _ _ u hL)) ?_
         refine Wt 0 rfl rfl (fun hg => Ff) ?_
         refine Wt 0 rfl rfl (fun hg => Ba 1) ?_
         refine Wt 0 rfl rfl (fun hg => Cb rfl (ec_ (eg_ hg rfl) (ec_ rfl (ec_ rfl en_))) ent77 (fun u hu => within_k _ _ _ u)) ?_
         refine Wk 1 Pa ?_
         refine Wt 0 rfl rfl (fun hg => Ff) ?_
         refine Wt 0 rfl rfl (fun hg => Ba 1) ?_
         refine Wt 0 rfl rfl (fun hg => Ff) ?_
         refine Wt 0 rfl rfl (fun hg => Ba 1) ?_
         refine Wt 0 rfl rfl (fun hg => det_sub (eg_ hg rfl) rfl (by simp [within] at hg; omega)) ?_
         refine Wt 0 rfl rfl (fun hg => Cb rfl (ec_ (eg_ hg rfl) (ec_ rfl (ec_ (eg_ hg rfl) en_))) ent77 (fun u hu => within_k _ _ _ u)) ?_
         refine Wk 1 Pa ?_
         exact Wd (Qb (QS.head (⟨(within c.a 0 (lw - 1) && within c.n 2 10) && within c.m 0 (c.n - 1), c.a, 0, c.n, c.m, none, 0, 0⟩) rfl rfl (clueB_7 hc8 none 0)))
        ·
         exact Ck (Qb (QS.head (⟨false, 0, 0, 0, 0, none, 0, 0⟩) rfl rfl (clueB_no hc1 hc2 hc3 hc5 hc6 hc7 hc8 _ _ _ _ _ _ _)))
 ·
  intro s t hs
  refine Nz 2 ?_
  refine Wt 0 rfl rfl (fun hg => Ff) ?_
  refine Wt 0 rfl rfl (fun hg => Ba 1) ?_
  refine Wt 0 rfl rfl (fun hg => Ff) ?_
  refine Wt 0 rfl rfl (fun hg => Ba 0) ?_
  refine Wt 0 rfl rfl (fun hg => Fq) ?_
  refine Wk 1 Pa ?_
  refine Wt 0 rfl rfl (fun hg => Ff) ?_
  refine Wt 0 rfl rfl (fun hg => Ba 1) ?_
  refine Wt 0 rfl rfl (fun hg => Ff) ?_
  refine Wt 0 rfl rfl (fun hg => Ba 0) ?_
  refine Wt 0 rfl rfl (fun hg => Fq) ?_
  refine Wk 1 Pa ?_
  refine Wt 0 rfl rfl (fun hg => Ff) ?_
  refine Wt 0 rfl rfl (fun hg => Ba 1) ?_
  refine Wt 0 rfl rfl (fun hg => Ff) ?_
  refine Wt 0 rfl rfl (fun hg => Ba 0) ?_
  refine Wt 0 rfl rfl (fun hg => Fq) ?_
  refine Wk 1 Pa ?_
  refine Wt 0 rfl rfl (fun hg => Ff) ?_
  refine Wt 0 rfl rfl (fun hg => Ba 1) ?_
  refine Wt 0 rfl rfl (fun hg => Ff) ?_
  refine Wt 0 rfl rfl (fun hg => Ba 0) ?_
  refine Wt 0 rfl rfl (fun hg => Fq) ?_
  refine Wk 1 Pa ?_
  refine Wt 0 rfl rfl (fun hg => Ff) ?_
  refine Wt 0 rfl rfl (fun hg => Ba 1) ?_
  refine Wt 0 rfl rfl (fun hg => Na (eg_ hg rfl)) ?_
  refine Wt 0 rfl rfl (fun hg => Ff) ?_
  refine Wt 0 rfl rfl (fun hg => Ba 0) ?_
  refine Wt 0 rfl rfl (fun hg => det_lenV sl42 (eg_ hg rfl) ⟨_, _, rfl⟩) ?_
  refine Wt 0 rfl rfl (fun hg => Fq) ?_
  refine Wk 1 Pa ?_
  exact Wd (Qc (Cr (out1 rfl rfl (retBe (by rw [← hs]; rfl)))))
end Go.Proofs.YtaeagngfhceceaaGreatDoor
set_option maxHeartbeats 8000000
namespace Go.Proofs.YtaeagngfhceceaaGreatDoor
open Go.RowKit Go.Proofs
set_option maxRecDepth 100000
set_option linter.unusedVariables false
set_option linter.unusedSimpArgs false
theorem isClue_k (lw ls : Int) (c : Clue) (gv : Value) (w : World) (hL : lockB lw ls = true) (h1 : SlI w gv c.g) :
  Calls Tryz.prog 179 #[.agg #[.int .i64 lw, .int .i64 ls], .agg #[.int .i64 c.k, .int .i64 c.a, .int .i64 c.b, .int .i64 c.n, .int .i64 c.m, gv, .bool c.nt]] w (RetB w (.bool (clueB lw ls c))) := by
 have hl := lock_of hL
 obtain ⟨hgn, p, cap, rfl, hcap, hp⟩ := h1
 have h1 : SlI w (.slice p c.g.length cap) c.g := ⟨hgn, p, cap, rfl, hcap, hp⟩
 clear hgn hcap hp
 refine enter Tryz.func179 rfl rfl (Nat.le_of_ble_eq_true rfl) ?_
 refine Nz 0 ?_
 refine Wb 0 rfl rfl (fun _ => rfl) (fun _ => rfl) fun b2 hb2 => ?_
 refine Wb 1 rfl rfl (fun _ => rfl) (fun _ => rfl) fun b3 hb3 => ?_
 refine Wd (Qc (Cs (Dr mixed 1 ?_)))
 refine Dk 1 (Ba 0) ?_
 refine Dk 0 (Ba 1) ?_
 refine Dk 0 Zb ?_
 refine Dk 1 (Cb rfl rfl ent117 (fun u hu => Within_k _ _ _ u)) ?_
 refine Dk 1 (Ba 0) ?_
 refine Dk 0 (Ba 1) ?_
 refine Dk 0 Zb ?_
 refine Dk 2 (Cb rfl rfl ent117 (fun u hu => Within_k _ _ _ u)) ?_
 refine Dd (Qc (Nz 1 ?_))
 refine Wk 1 (Ba 0) ?_
 refine Wk 0 (Ba 0) ?_
 refine Wk 0 (Db plc48 zv48) ?_
 refine Wl 0 zv48 (fun _ => rfl) (fun _ => rfl) fun b7 hb7 => ?_
 refine Wv 0 0 ?_
 refine Wd (Qc (Nz 1 ?_))
 refine Wd (Qc ?_)
 refine CS.cut (σ := Used) [26, 27, 28, 29, 30, 31, 32, 33, 34, 35, 36, 37, 38, 39, 40, 41, 42, 43, 44, 45, 46, 47, 48, 49, 50, 51, 52, 53, 54, 55, 56, 57, 58, 59, 60, 61, 62, 63, 64, 65, 66, 67, 68, 69, 70, 71, 72, 73, 74, 75, 76, 77, 78, 79, 80, 81, 82, 83, 84, 85, 86, 87, 88, 89, 90, 91, 92, 93, 94, 95, 96, 97, 98, 99, 100, 101, 102, 103, 104, 105, 106, 107, 108, 109, 110, 111, 112, 113, 114, 115, 116, 117, 118, 119, 120, 121, 122, 123, 124, 125, 126, 127, 128, 129, 130, 131, 132, 133, 134, 135, 136, 137, 138, 139, 140, 141, 142, 143, 144, 145, 146, 147, 148, 149, 150, 151, 152, 153, 154, 155, 156, 157, 158, 159, 160, 161, 162, 163, 164, 165, 166] (fun s => [(8, .bool s.is)]) (fun s => [blk b7 [.int .i64 c.k, .int .i64 s.a, .int .i64 s.b, .int .i64 s.n, .int .i64 s.m, .slice s.q s.l s.cap, .bool c.nt] 48, blk b3 [.int .i64 c.k, .int .i64 c.a, .int .i64 c.b, .int .i64 c.n, .int .i64 c.m, .slice p c.g.length cap, .bool c.nt] 48, blk b2 [.int .i64 lw, .int .i64 ls] 54]) (fun s => RU w lw ls c s) (fun _ _ => rfl) ?_ ?_
 ·
  refine Nz 1 ?_
  refine Wk 0 (Ba 1) ?_
  refine Wd (Qc (Ce (Nz 2 ?_)))
  refine Wd (Qc (CS.cond rfl ?_ ?_))<;>intro hc1<;>try simp only [bq] at hc1
  ·
   refine Nz 2 ?_
   refine Wt 0 rfl rfl (fun hg => Ff) ?_
   refine Wt 0 rfl rfl (fun hg => Ba 1) ?_
   refine Wt 0 rfl rfl (fun hg => Ff) ?_
   refine Wt 0 rfl rfl (fun hg => Ba 2) ?_
   refine Wt 0 rfl rfl (fun hg => Zb) ?_
   refine Wt 0 rfl rfl (fun hg => Cb rfl (ec_ (eg_ hg rfl) (ec_ rfl (ec_ (eg_ hg rfl) en_))) ent117 (fun u hu => Within_k _ _ _ u)) ?_
   refine Wk 1 Pa ?_
   refine Wd (Qc (Nz 1 ?_))
   refine Wk 1 (Ba 1) ?_
   refine Ws 0 0 ?_
   refine Wd (Qc (Ny 1 ?_))
   refine Wk 1 (Ba 1) ?_
   refine Ws 0 0 ?_
   exact Wd (Qb (QS.head (⟨within c.a 0 (lw - 1) && within c.n 0 (ls - 1), c.a, 0, c.n, 0, none, 0, 0⟩) rfl rfl (clueR_1 hc1)))
  ·
   refine Nz 2 ?_
   refine Wd (Qc (CS.cond rfl ?_ ?_))<;>intro hc2<;>try simp only [bq] at hc2
   ·
    refine Nz 2 ?_
    refine Wt 0 rfl rfl (fun hg => Fm) ?_
    refine Wk 1 Pa ?_
    refine Wt 0 rfl rfl (fun hg => Ff) ?_
    refine Wt 0 rfl rfl (fun hg => Ba 1) ?_
    refine Wt 0 rfl rfl (fun hg => Ff) ?_
    refine Wt 0 rfl rfl (fun hg => Ba 1) ?_
    refine Wt 0 rfl rfl (fun hg => Fk) ?_
    refine Wk 1 Pa ?_
    refine Wt 0 rfl rfl (fun hg => Ff) ?_
    refine Wt 0 rfl rfl (fun hg => Ba 1) ?_
    refine Wt 0 rfl rfl (fun hg => Cb rfl (ec_ (eg_ hg rfl) (ec_ rfl (ec_ rfl en_))) ent117 (fun u hu => Within_k _ _ _ u)) ?_
    refine Wk 1 Pa ?_
    refine Wd (Qc (Nz 1 ?_))
    refine Wk 1 (Ba 1) ?_
    refine Ws 0 0 ?_
    refine Wd (Qc (Nz 1 ?_))
    refine Wk 1 (Ba 1) ?_
    refine Ws 0 0 ?_
    refine Wd (Qc (Ny 1 ?_))
    refine Wk 1 (Ba 1) ?_
    refine Ws 0 0 ?_
    exact Wd (Qb (QS.head (⟨((within c.a 0 (lw - 1) && within c.b 0 (lw - 1)) && decide (c.a ≤ c.b)) && within c.n 0 100, c.a, c.b, c.n, 0, none, 0, 0⟩) rfl rfl (clueR_2 hc2)))
   ·
    refine Cs (Nz 2 ?_)
    refine Wd (Qc (CS.cond rfl ?_ ?_))<;>intro hc3<;>try simp only [bq] at hc3
    ·
     refine Ck (Qc (CS.cond rfl ?_ ?_))<;>intro hc4<;>try simp only [bq] at hc4
     ·
      refine Nz 2 ?_
      refine Wt 0 rfl rfl (fun hg => Fm) ?_
      refine Wk 1 Pa ?_
      refine Wt 0 rfl rfl (fun hg => Ff) ?_
      refine Wt 0 rfl rfl (fun hg => Ba 1) ?_
      refine Wt 0 rfl rfl (fun hg => Ff) ?_
      refine Wt 0 rfl rfl (fun hg => Ba 1) ?_
      refine Wt 0 rfl rfl (fun hg => Fr) ?_
      refine Wk 1 Pa ?_
      refine Wd (Qc (Nz 1 ?_))
      refine Wk 1 (Ba 1) ?_
      refine Ws 0 0 ?_
      refine Wd (Qc (Ny 1 ?_))
      refine Wk 1 (Ba 1) ?_
      refine Ws 0 0 ?_
      exact Wd (Qb (QS.head (⟨(within c.a 0 (lw - 1) && within c.b 0 (lw - 1)) && decide (c.a ≠ c.b), c.a, c.b, 0, 0, none, 0, 0⟩) rfl rfl (clueR_3 hc3)))
     ·
      exact absurd hc3 hc4
    ·
     refine Ny 2 ?_
     refine Wd (Qc (CS.cond rfl ?_ ?_))<;>intro hc5<;>try simp only [bq] at hc5
     ·
      refine Nz 2 ?_
      refine Wt 0 rfl rfl (fun hg => Fm) ?_
      refine Wk 1 Pa ?_
      refine Wt 0 rfl rfl (fun hg => Ff) ?_
      refine Wt 0 rfl rfl (fun hg => Ba 1) ?_
      refine Wt 0 rfl rfl (fun hg => Ff) ?_
      refine Wt 0 rfl rfl (fun hg => Ba 1) ?_
      refine Wt 0 rfl rfl (fun hg => Fr) ?_
      refine Wk 1 Pa ?_
      refine Wd (Qc (Nz 1 ?_))
      refine Wk 1 (Ba 1) ?_
      refine Ws 0 0 ?_
      refine Wd (Qc (Ny 1 ?_))
      refine Wk 1 (Ba 1) ?_
      refine Ws 0 0 ?_
      exact Wd (Qb (QS.head (⟨(within c.a 0 (lw - 1) && within c.b 0 (lw - 1)) && decide (c.a ≠ c.b), c.a, c.b, 0, 0, none, 0, 0⟩) rfl rfl (clueR_4 hc5)))
     ·
      refine Nz 2 ?_
      refine Wd (Qc (CS.cond rfl ?_ ?_))<;>intro hc6<;>try simp only [bq] at hc6
      ·
       refine Nz 1 ?_
       refine Wk 1 (Ba 1) ?_
       refine Wk 0 (Ba 2) ?_
       refine Wk 0 Zb ?_
       refine Wk 1 (Cb rfl rfl ent117 (fun u hu => Within_k _ _ _ u)) ?_
       refine Wt 0 rfl rfl (fun hg => Ff) ?_
       refine Wt 0 rfl rfl (fun hg => Ba 1) ?_
       refine Wt 0 rfl rfl (fun hg => Ff) ?_
       refine Wt 0 rfl rfl (fun hg => Ba 2) ?_
       refine Wt 0 rfl rfl (fun hg => Cb rfl (ec_ (eg_ hg rfl) (ec_ rfl (ec_ (eg_ hg rfl) en_))) ent117 (fun u hu => Within_k _ _ _ u)) ?_
       refine Wk 1 Pa ?_
       refine Wd (Qc (Nz 1 ?_))
       refine Wk 1 (Ba 1) ?_
       refine Ws 0 0 ?_
       refine Wd (Qc (Ny 1 ?_))
       refine Wk 1 (Ba 1) ?_
       refine Ws 0 0 ?_
       exact Wd (Qb (QS.head (⟨within c.n 0 (ls - 1) && within c.m 0 lw, 0, 0, c.n, c.m, none, 0, 0⟩) rfl rfl (clueR_5 hc6)))
      ·
       refine Nz 2 ?_
       refine Wd (Qc (CS.cond rfl ?_ ?_))<;>intro hc7<;>try simp only [bq] at hc7
       ·
        refine Nz 0 ?_
        refine Wk 1 (Bb 2) ?_
        refine Wk 0 (Ba 1) ?_
        refine Wk 1 (Cb rfl rfl ent118 (fun u hu => isCode_k _ _ _ _ u hL (h1.st hu))) ?_
        refine Wt 0 rfl rfl (fun hg => Ff) ?_
        refine Wt 0 rfl rfl (fun hg => Ba 1) ?_
        refine Wt 0 rfl rfl (fun hg => Ff) ?_
        refine Wt 0 rfl rfl (fun hg => Ba 2) ?_
        refine Wt 0 rfl rfl (fun hg => Cb rfl (ec_ (eg_ hg rfl) (ec_ rfl (ec_ (eg_ hg rfl) en_))) ent117 (fun u hu => Within_k _ _ _ u)) ?_
        refine Wk 1 Pa ?_
        refine Wt 0 rfl rfl (fun hg => Ff) ?_
        refine Wt 0 rfl rfl (fun hg => Ba 1) ?_
        refine Wt 0 rfl rfl (fun hg => Ff) ?_
        refine Wt 0 rfl rfl (fun hg => Ba 2) ?_
        refine Wt 0 rfl rfl (fun hg => Cb rfl (ec_ (eg_ hg rfl) (ec_ rfl (ec_ (eg_ hg rfl) en_))) ent117 (fun u hu => Within_k _ _ _ u)) ?_
        refine Wk 1 Pa ?_
        refine Wd (Qc (Nz 1 ?_))
        refine Wk 1 (Ba 1) ?_
        refine Ws 0 0 ?_
        refine Wd (Qc (Nz 1 ?_))
        refine Wk 1 (Ba 1) ?_
        refine Ws 0 0 ?_
        refine Wd (Qc (Ny 1 ?_))
        refine Wk 1 (Ba 1) ?_
        refine Ws 0 0 ?_
        exact Wd (Qb (QS.head (⟨(codeB lw ls c.g && within c.n 0 lw) && within c.m 0 lw, 0, 0, c.n, c.m, p, c.g.length, cap⟩) rfl rfl (clueR_6 hc7 h1)))
       ·
        refine Nz 2 ?_
        refine Wd (Qc (CS.cond rfl ?_ ?_))<;>intro hc8<;>try simp only [bq] at hc8
        ·
         refine Nz 2 ?_
         refine Wt 0 rfl rfl (fun hg => Ff) ?_
         refine Wt 0 rfl rfl (fun hg => Ba 1) ?_
         refine Wt 0 rfl rfl (fun hg => Cb rfl (ec_ (eg_ hg rfl) (ec_ rfl (ec_ rfl en_))) ent117 (fun u hu => Within_k _ _ _ u)) ?_
         refine Wk 1 Pa ?_
         refine Wt 0 rfl rfl (fun hg => Ff) ?_
         refine Wt 0 rfl rfl (fun hg => Ba 1) ?_
         refine Wt 0 rfl rfl (fun hg => Ff) ?_
         refine Wt 0 rfl rfl (fun hg => Ba 1) ?_
         refine Wt 0 rfl rfl (fun hg => det_sub (eg_ hg rfl) rfl (by simp [within] at hg; omega)) ?_
         refine Wt 0 rfl rfl (fun hg => Cb rfl (ec_ (eg_ hg rfl) (ec_ rfl (ec_ (eg_ hg rfl) en_))) ent117 (fun u hu => Within_k _ _ _ u)) ?_
         refine Wk 1 Pa ?_
         refine Wd (Qc (Nz 1 ?_))
         refine Wk 1 (Ba 1) ?_
         refine Ws 0 0 ?_
         refine Wd (Qc (Nz 1 ?_))
         refine Wk 1 (Ba 1) ?_
         refine Ws 0 0 ?_
         refine Wd (Qc (Ny 1 ?_))
         refine Wk 1 (Ba 1) ?_
         refine Ws 0 0 ?_
         exact Wd (Qb (QS.head (⟨(within c.a 0 (lw - 1) && within c.n 2 10) && within c.m 0 (c.n - 1), c.a, 0, c.n, c.m, none, 0, 0⟩) rfl rfl (clueR_7 hc8)))
        ·
         exact Ck (Qb (QS.head (⟨false, 0, 0, 0, 0, none, 0, 0⟩) rfl rfl (clueR_no hc1 hc2 hc3 hc5 hc6 hc7 hc8)))
 ·
  intro s t hs
  obtain ⟨g, h2, hs⟩ := hs
  refine Nz 2 ?_
  refine Wt 0 rfl rfl (fun hg => Bb 1) ?_
  refine Wt 0 rfl rfl (fun hg => Bb 0) ?_
  refine Wt 0 rfl rfl (fun hg => Cb rfl (ec_ (eg_ hg rfl) (ec_ (eg_ hg rfl) en_)) ent219 (fun u hu => SameClue_k c (clueR c s.a s.b s.n s.m g) _ _ u (h1.st hu) (h2.st hu))) ?_
  refine Wk 1 Pa ?_
  exact Wd (Qc (Cr (out1 rfl rfl (retBe (by rw [← hs])))))
end Go.Proofs.YtaeagngfhceceaaGreatDoor
set_option maxHeartbeats 8000000
namespace Go.Proofs.YtaeagngfhceceaaGreatDoor
open Go.RowKit Go.Proofs
set_option maxRecDepth 100000
set_option linter.unusedVariables false
set_option linter.unusedSimpArgs false
theorem plain_k (lw ls : Int) (c : Clue) (gv : Value) (xs : List Int) (v : Value) (w : World) (hU : Use lw ls c xs) (hg1 : SlI w gv c.g) (h1 : SlI w v xs) :
  Calls Tryz.prog 133 #[.agg #[.int .i64 c.k, .int .i64 c.a, .int .i64 c.b, .int .i64 c.n, .int .i64 c.m, gv, .bool c.nt], v] w (RetB w (.bool (plainT c xs))) := by
 have hl1 := h1.le
 have hln := hU.len
 obtain ⟨f1, f2, f3, f7, fk1, fk2, fn⟩ := hU.facts
 obtain ⟨hgn, p, cap, rfl, hcap, hp⟩ := hg1
 have hg1 : SlI w (.slice p c.g.length cap) c.g := ⟨hgn, p, cap, rfl, hcap, hp⟩
 clear hgn hcap hp
 refine enter Tryz.func133 rfl rfl (Nat.le_of_ble_eq_true rfl) ?_
 refine Nz 0 ?_
 refine Wb 1 rfl rfl (fun _ => rfl) (fun _ => rfl) fun b2 hb2 => ?_
 refine Wd (Qc (Cs (Nz 1 ?_)))
 refine Wk 0 (Ba 0) ?_
 refine Wd (Qc (Ce (Nz 2 ?_)))
 refine Wd (Qc (CS.cond rfl ?_ ?_))<;>intro hc1<;>try simp only [bq] at hc1
 ·
  refine Cs (Dr mixed 2 ?_)
  refine Dk 0 (Ba 0) ?_
  refine Dk 0 Xa ?_
  refine Dk 1 Ia ?_
  refine Dk 2 (Ba 0) ?_
  exact Dd (Qc (Cr (Qs (Qr (out1 rfl rfl (retBe (by simp [plainT, hc1])))))))
 ·
  refine Nz 2 ?_
  refine Wd (Qc (CS.cond rfl ?_ ?_))<;>intro hc2<;>try simp only [bq] at hc2
  ·
   have fk := f2 hc2
   have h2 := h1.sub (lo := c.a.toNat) (hi := (c.b + 1).toNat) (by omega) (by omega)
   have hpl := part_len fk.1 fk.2.1 fk.2.2
   change SlI w _ (part xs c.a c.b) at h2
   refine Nz 1 ?_
   refine Wd (Qc (Cs (Nz 2 ?_)))
   refine Wk 1 (Ba 0) ?_
   refine Wk 0 (Ba 0) ?_
   refine Wk 0 Za ?_
   refine Wk 0 (det_subs sl42 rfl rfl rfl h1 (by omega) (by omega) (by omega)) ?_
   refine Wk 1 Na ?_
   refine Wd (Qc (Ce ?_))
   refine CS.loopM (σ := Int × Int) [7, 36, 37, 38, 39, 40, 41, 42] (fun s => [(5, .int .i64 s.2), (35, .int .i64 s.1)]) (fun _ => _) (fun s => 0 ≤ s.1 ∧ s.1 ≤ (part xs c.a c.b).length ∧ s.2 = lsum ((part xs c.a c.b).take s.1.toNat)) (fun s => ((part xs c.a c.b).length - s.1).toNat) (0, 0) (fun _ _ => rfl) rfl rfl ⟨by simp, by simp, rfl⟩ ?_
   intro s t hs
   obtain ⟨hs1, hs2, hs3⟩ := hs
   refine Nz 1 ?_
   refine Wd (Qc (Cs (CS.cond rfl ?_ ?_)))<;>intro hc3<;>try simp only [bq] at hc3
   ·
    have hb1 := hU.psum s.1.toNat
    have hb2 := hU.nth (i := c.a + s.1) (by omega) (by omega)
    have hb3 := part_nth fk.1 (i := c.a + s.1) (by omega) (b := c.b) (by omega) fk.2.2
    have e3 : c.a + s.1 - c.a = s.1 := by omega
    rw [e3] at hb3
    refine Ck (Qc (Cs (Ce (Nz 0 ?_))))
    refine Wk 0 Xa ?_
    refine Wk 1 Ia ?_
    refine Wd (Qc (Ny 2 ?_))
    refine Wk 1 Za ?_
    refine Wd (Qb (Qc (Ny 0 ?_)))
    refine Wk 1 Za ?_
    exact Wd (QS.head ((s.1 + 1, s.2 + nth (part xs c.a c.b) s.1)) rfl rfl ⟨⟨by simp; omega, by simp; omega, by simp only; rw [take_snocI _ hs1 (by omega), lsum_snoc, hs3]⟩, by simp; omega⟩)
   ·
    refine Cv (Qe (Qe (Qx (Qc (Nz 2 ?_)))))
    refine Wk 2 (Ba 0) ?_
    exact Wd (Qc (Cr (Qs (Qr (out1 rfl rfl (retBe (by rw [hs3, lsum_all _ (by omega)]; simp [plainT, hc2])))))))
  ·
   refine Nz 2 ?_
   refine Wd (Qc (CS.cond rfl ?_ ?_))<;>intro hc4<;>try simp only [bq] at hc4
   ·
    refine Cs (Dr mixed 2 ?_)
    refine Dk 0 (Ba 0) ?_
    refine Dk 0 Xa ?_
    refine Dk 2 Ia ?_
    refine Dk 0 (Ba 0) ?_
    refine Dk 0 Xa ?_
    refine Dk 2 Ia ?_
    exact Dd (Qc (Cr (Qs (Qr (out1 rfl rfl (retBe (by simp [plainT, hc4])))))))
   ·
    refine Nz 2 ?_
    refine Wd (Qc (CS.cond rfl ?_ ?_))<;>intro hc5<;>try simp only [bq] at hc5
    ·
     refine Cs (Dr mixed 2 ?_)
     refine Dk 0 (Ba 0) ?_
     refine Dk 0 Xa ?_
     refine Dk 2 Ia ?_
     refine Dk 0 (Ba 0) ?_
     refine Dk 0 Xa ?_
     refine Dk 2 Ia ?_
     exact Dd (Qc (Cr (Qs (Qr (out1 rfl rfl (retBe (by simp [plainT, hc5])))))))
    ·
     refine Nz 2 ?_
     refine Wd (Qc (CS.cond rfl ?_ ?_))<;>intro hc6<;>try simp only [bq] at hc6
     ·
      refine Nz 1 ?_
      refine Wd (Qc (Cs (Nz 1 ?_)))
      refine Wk 1 Na ?_
      refine Wd (Qc (Ce ?_))
      refine CS.loopM (σ := Int × Int) [10, 78, 79, 80, 81, 82, 83, 84, 85, 86, 87] (fun s => [(8, .int .i64 s.2), (77, .int .i64 s.1)]) (fun _ => _) (fun s => 0 ≤ s.1 ∧ s.1 ≤ xs.length ∧ s.2 = cnt (xs.take s.1.toNat) c.n) (fun s => (xs.length - s.1).toNat) (0, 0) (fun _ _ => rfl) rfl rfl ⟨by simp, by simp, rfl⟩ ?_
      intro s t hs
      obtain ⟨hs1, hs2, hs3⟩ := hs
      have hbd := cnt_le (xs.take s.1.toNat) c.n
      have hlt := List.length_take_le s.1.toNat xs
      refine Nz 1 ?_
      refine Wd (Qc (Cs (CS.cond rfl ?_ ?_)))<;>intro hc7<;>try simp only [bq] at hc7
      ·
       refine Ck (Qc (Cs (Ce (Nz 0 ?_))))
       refine Wk 0 Xa ?_
       refine Wk 1 Ia ?_
       refine Wd (Qc (Nz 2 ?_))
       refine Wk 1 (Ba 0) ?_
       refine Wd (Qc (CS.cond rfl ?_ ?_))<;>intro hc8<;>try simp only [bq] at hc8
       ·
        refine Ny 1 ?_
        refine Wk 1 Za ?_
        refine Wd (Qb (Qc (Ny 0 ?_)))
        refine Wk 1 Za ?_
        exact Wd (QS.head ((s.1 + 1, s.2 + 1)) rfl rfl ⟨⟨by simp; omega, by simp; omega, by simp only; rw [take_snocI xs hs1 (by omega), cnt_snoc, hs3]; simp [hc8]⟩, by simp; omega⟩)
       ·
        refine Ck (Qb (Qc (Ny 0 ?_)))
        refine Wk 1 Za ?_
        exact Wd (QS.head ((s.1 + 1, s.2)) rfl rfl ⟨⟨by simp; omega, by simp; omega, by simp only; rw [take_snocI xs hs1 (by omega), cnt_snoc, hs3]; simp [hc8]⟩, by simp; omega⟩)
      ·
       refine Cv (Qe (Qe (Qx (Qc (Nz 2 ?_)))))
       refine Wk 2 (Ba 0) ?_
       exact Wd (Qc (Cr (Qs (Qr (out1 rfl rfl (retBe (by rw [hs3, take_all xs (by omega)]; simp [plainT, hc6])))))))
     ·
      refine Nz 2 ?_
      refine Wd (Qc (CS.cond rfl ?_ ?_))<;>intro hc9<;>try simp only [bq] at hc9
      ·
       refine Nz 2 ?_
       refine Wk 0 (Ba 0) ?_
       refine Wk 5 (Cb rfl rfl ent187 (fun u hu => answer_k _ _ _ _ u (h1.st hu) (hg1.st hu) (hU.guess hc9).1 (by omega) (code_ten hU.lk hU.cd).2 (code_ten hU.lk (hU.guess hc9).2).2)) ?_
       refine Wd (Qc (Nz 2 ?_))
       refine Wk 2 (Ba 0) ?_
       refine Wt 0 rfl rfl (fun hg => Fm) ?_
       refine Wt 0 rfl rfl (fun hg => Ff) ?_
       refine Wt 0 rfl rfl (fun hg => Ba 0) ?_
       refine Wt 0 rfl rfl (fun hg => Fq) ?_
       refine Wk 1 Pa ?_
       exact Wd (Qc (Cr (Qs (Qr (out1 rfl rfl (retBe (by simp [plainT, hc9])))))))
      ·
       refine Ck (Qb (Qc (Cs (Dr mixed 2 ?_))))
       refine Dk 0 (Ba 0) ?_
       refine Dk 0 Xa ?_
       refine Dk 1 Ia ?_
       refine Dk 0 (Ba 0) ?_
       refine Dk 1 (det_rem rfl rfl (by omega) (by omega)) ?_
       refine Dk 2 (Ba 0) ?_
       exact Dd (Qc (Cr (out1 rfl rfl (retBe (by have e7 : c.k = 7 := (by omega); simp [plainT, e7])))))
theorem True_k (lw ls : Int) (c : Clue) (gv : Value) (xs : List Int) (v : Value) (w : World) (hU : Use lw ls c xs) (hg1 : SlI w gv c.g) (h1 : SlI w v xs) :
  Calls Tryz.prog 121 #[.agg #[.int .i64 c.k, .int .i64 c.a, .int .i64 c.b, .int .i64 c.n, .int .i64 c.m, gv, .bool c.nt], v] w (RetB w (.bool (holdsT c xs))) := by
 have hl1 := h1.le
 have hln := hU.len
 obtain ⟨f1, f2, f3, f7, fk1, fk2, fn⟩ := hU.facts
 obtain ⟨hgn, p, cap, rfl, hcap, hp⟩ := hg1
 have hg1 : SlI w (.slice p c.g.length cap) c.g := ⟨hgn, p, cap, rfl, hcap, hp⟩
 clear hgn hcap hp
 refine enter Tryz.func121 rfl rfl (Nat.le_of_ble_eq_true rfl) ?_
 refine Nz 0 ?_
 refine Wb 1 rfl rfl (fun _ => rfl) (fun _ => rfl) fun b2 hb2 => ?_
 refine Wd (Qc (Nz 1 ?_))
 refine Wd (Qc ?_)
 refine CS.cut (σ := Bool) [6, 7, 8, 9, 10, 11, 12, 13, 14, 15, 16, 17, 18, 19, 20, 21, 22, 23, 24, 25, 26, 27, 28, 29, 30, 31, 32, 33, 34, 35, 36, 37, 38, 39, 40, 41, 42, 43, 44, 45, 46, 47, 48, 49, 50, 51, 52, 53, 54, 55, 56, 57, 58, 59, 60, 61, 62, 63, 64, 65, 66, 67, 68, 69, 70, 71, 72, 73, 74, 75, 76, 77, 78, 79, 80, 81, 82, 83, 84, 85, 86, 87, 88, 89, 90, 91, 92, 93, 94, 95, 96, 97, 98, 99, 100, 101, 102, 103, 104, 105, 106, 107, 108] (fun s => [(5, .bool s)]) (fun s => [blk b2 [.int .i64 c.k, .int .i64 c.a, .int .i64 c.b, .int .i64 c.n, .int .i64 c.m, .slice p c.g.length cap, .bool c.nt] 48]) (fun s => s = plainT c xs) (fun _ _ => rfl) ?_ ?_
 ·
  refine Nz 1 ?_
  refine Wk 0 (Ba 0) ?_
  refine Wd (Qc (Ce (Nz 2 ?_)))
  refine Wd (Qc (CS.cond rfl ?_ ?_))<;>intro hc1<;>try simp only [bq] at hc1
  ·
   refine Dr mixed 2 ?_
   refine Dk 0 (Ba 0) ?_
   refine Dk 0 Xa ?_
   refine Dk 1 Ia ?_
   refine Dk 2 (Ba 0) ?_
   exact Dd (Qb (QS.head (decide (nth xs c.a = c.n)) rfl rfl (by simp [plainT, hc1])))
  ·
   refine Nz 2 ?_
   refine Wd (Qc (CS.cond rfl ?_ ?_))<;>intro hc2<;>try simp only [bq] at hc2
   ·
    have fk := f2 hc2
    have hpl := part_len fk.1 fk.2.1 fk.2.2
    refine Nz 1 ?_
    refine Wd (Qc (Cs (Nz 1 ?_)))
    refine Wk 1 (Ba 0) ?_
    refine Wd (Qc (Ce ?_))
    refine CS.loopM (σ := Int × Int) [26, 27, 28, 29, 30, 31, 32, 33, 34, 35, 36, 37] (fun s => [(6, .int .i64 s.2), (7, .int .i64 s.1)]) (fun _ => _) (fun s => c.a ≤ s.1 ∧ s.1 ≤ c.b + 1 ∧ s.2 = lsum ((part xs c.a c.b).take (s.1 - c.a).toNat)) (fun s => (c.b + 1 - s.1).toNat) (c.a, 0) (fun _ _ => rfl) rfl rfl ⟨by simp, by simp; omega, by simp [lsum]⟩ ?_
    intro s t hs
    obtain ⟨hs1, hs2, hs3⟩ := hs
    refine Cs (Nz 2 ?_)
    refine Wk 1 (Ba 0) ?_
    refine Wd (Qc (CS.cond rfl ?_ ?_))<;>intro hc3<;>try simp only [bq] at hc3
    ·
     have hb1 := hU.psum (s.1 - c.a).toNat
     have hb2 := hU.nth (i := s.1) (by omega) (by omega)
     have hb3 := part_nth fk.1 (i := s.1) (by omega) (b := c.b) (by omega) fk.2.2
     have e3 : s.1 + 1 - c.a = s.1 - c.a + 1 := by omega
     refine Ck (Qc (Cs (Ce (Ny 3 ?_))))
     refine Wk 0 Xa ?_
     refine Wk 0 Ia ?_
     refine Wk 1 Za ?_
     refine Wd (Qb (Qc (Ny 1 ?_)))
     refine Wk 1 Za ?_
     exact Wd (QS.head ((s.1 + 1, s.2 + nth xs s.1)) rfl rfl ⟨⟨by simp; omega, by simp; omega, by simp only; rw [e3, take_snocI _ (by omega) (by omega), lsum_snoc, hs3, hb3]⟩, by simp; omega⟩)
    ·
     refine Cv (Qe (Qe (Qx (Qc (Ny 2 ?_)))))
     refine Wk 2 (Ba 0) ?_
     exact Wd (Qb (QS.head (decide (s.2 = c.n)) rfl rfl (by rw [hs3, lsum_all _ (by omega)]; simp [plainT, hc2])))
   ·
    refine Nz 2 ?_
    refine Wd (Qc (CS.cond rfl ?_ ?_))<;>intro hc4<;>try simp only [bq] at hc4
    ·
     refine Dr mixed 2 ?_
     refine Dk 0 (Ba 0) ?_
     refine Dk 0 Xa ?_
     refine Dk 2 Ia ?_
     refine Dk 0 (Ba 0) ?_
     refine Dk 0 Xa ?_
     refine Dk 2 Ia ?_
     exact Dd (Qb (QS.head (decide (nth xs c.a < nth xs c.b)) rfl rfl (by simp [plainT, hc4])))
    ·
     refine Nz 2 ?_
     refine Wd (Qc (CS.cond rfl ?_ ?_))<;>intro hc5<;>try simp only [bq] at hc5
     ·
      refine Dr mixed 2 ?_
      refine Dk 0 (Ba 0) ?_
      refine Dk 0 Xa ?_
      refine Dk 2 Ia ?_
      refine Dk 0 (Ba 0) ?_
      refine Dk 0 Xa ?_
      refine Dk 2 Ia ?_
      exact Dd (Qb (QS.head (decide (nth xs c.a = nth xs c.b)) rfl rfl (by simp [plainT, hc5])))
     ·
      refine Nz 2 ?_
      refine Wd (Qc (CS.cond rfl ?_ ?_))<;>intro hc6<;>try simp only [bq] at hc6
      ·
       refine Dr mixed 2 ?_
       refine Dk 0 (Ba 0) ?_
       refine Dk 1 (Cb rfl rfl ent180 (fun u hu => shown_k _ _ _ u (h1.st hu))) ?_
       refine Dk 2 (Ba 0) ?_
       exact Dd (Qb (QS.head (decide (cnt xs c.n = c.m)) rfl rfl (by simp [plainT, hc6])))
      ·
       refine Nz 2 ?_
       refine Wd (Qc (CS.cond rfl ?_ ?_))<;>intro hc7<;>try simp only [bq] at hc7
       ·
        refine Nz 2 ?_
        refine Wk 0 (Ba 0) ?_
        refine Wk 5 (Cb rfl rfl ent181 (fun u hu => Ranswer_k _ _ _ _ u (h1.st hu) (hg1.st hu) (hU.guess hc7).1 (by omega))) ?_
        refine Wd (Qc (Ny 2 ?_))
        refine Wk 2 (Ba 0) ?_
        refine Wt 0 rfl rfl (fun hg => Fm) ?_
        refine Wt 0 rfl rfl (fun hg => Ff) ?_
        refine Wt 0 rfl rfl (fun hg => Ba 0) ?_
        refine Wt 0 rfl rfl (fun hg => Fq) ?_
        refine Wk 1 Pa ?_
        exact Wd (Qb (QS.head (decide (rightN xs c.g = c.n) && decide (commonN xs c.g 10 - rightN xs c.g = c.m)) rfl rfl (by simp [plainT, hc7])))
       ·
        refine Nz 2 ?_
        refine Wd (Qc (CS.cond rfl ?_ ?_))<;>intro hc8<;>try simp only [bq] at hc8
        ·
         refine Dr mixed 2 ?_
         refine Dk 0 (Ba 0) ?_
         refine Dk 0 Xa ?_
         refine Dk 1 Ia ?_
         refine Dk 0 (Ba 0) ?_
         refine Dk 1 (det_rem rfl rfl (by omega) (by omega)) ?_
         refine Dk 2 (Ba 0) ?_
         exact Dd (Qb (QS.head (decide (nth xs c.a % c.n = c.m)) rfl rfl (by simp [plainT, hc8])))
        ·
         omega
 ·
  intro s t hs
  refine Nz 2 ?_
  refine Wk 0 (Ba 0) ?_
  refine Wk 1 (det_neb rfl rfl Tryz.underlying4) ?_
  exact Wd (Qc (Cr (out1 rfl rfl (retBe (by rw [hs]; rfl)))))
end Go.Proofs.YtaeagngfhceceaaGreatDoor
set_option maxHeartbeats 8000000
namespace Go.Proofs.YtaeagngfhceceaaGreatDoor
open Go.RowKit Go.Proofs
set_option maxRecDepth 100000
set_option linter.unusedVariables false
set_option linter.unusedSimpArgs false
theorem IndexC_k (xs : List (Clue)) (v : Value) (gs : List Value) (w : World) (h1 : ClS w v xs gs) (g : Nat) (lb : List Value) (p : Clue → Bool) (hg : Ent Tryz.prog g)
  (hp : ∀ u, Below w.heap.size w u → ∀ i : Int, 0 ≤ i → i < xs.length → Calls Tryz.prog g ([.agg #[.int .i64 (nth xs i).k, .int .i64 (nth xs i).a, .int .i64 (nth xs i).b, .int .i64 (nth xs i).n, .int .i64 (nth xs i).m, nth gs i, .bool (nth xs i).nt]] ++ lb : List Value).toArray u (RetB u (.bool (p (nth xs i))))) :
  Calls Tryz.prog 130 #[v, .func (.func g) #[] lb.toArray] w (RetB w (.int .i64 (idxF p xs))) := by
 have hl1 := h1.le
 refine enter Tryz.func130 rfl rfl (Nat.le_of_ble_eq_true rfl) ?_
 refine Nz 1 ?_
 refine Wd (Qc (Cs (Nz 1 ?_)))
 refine Wk 1 (det_lenS sl46 rfl (by first | exact SlL.sp (by assumption) | exact ClS.sp (by assumption))) ?_
 refine Wd (Qc (Ce ?_))
 refine CS.loopM (σ := Int) [4, 5, 9, 10, 11, 12, 13, 14, 15, 16, 17, 18] (fun s => [(8, .int .i64 s)]) (fun _ => _) (fun s => 0 ≤ s ∧ s ≤ xs.length ∧ ∀ j : Int, 0 ≤ j → j < s → p (nth xs j) = false) (fun s => (xs.length - s).toNat) 0 (fun _ _ => rfl) rfl rfl ⟨by omega, by omega, fun j h1 h2 => by omega⟩ ?_
 intro s t hs
 obtain ⟨hs1, hs2, hs3⟩ := hs
 refine Nz 1 ?_
 refine Wd (Qc (Cs (CS.cond rfl ?_ ?_)))<;>intro hc1<;>try simp only [bq] at hc1
 ·
  refine Ck (Qc (Cs (Ce (Nz 2 ?_))))
  refine Wd (Qc (Nz 3 ?_))
  refine Wk 0 (det_idxCl sl46 rfl rfl (by assumption) (by omega) (by omega)) ?_
  refine Wk 0 (det_ldCl rfl (by assumption) (by omega) tk48) ?_
  refine Wk 0 (Cb rfl rfl hg (fun u hu => hp u hu.below s (by omega) (by omega))) ?_
  refine Wd (Qc (CS.cond rfl ?_ ?_))<;>intro hc2<;>try simp only [bq] at hc2
  ·
   refine Nz 2 ?_
   exact Wd (Qc (Cr (Qs (Qr (Qr (Qs (Qr (out1 rfl rfl (retBe (by rw [idxF_found hs1 (by omega) hs3 hc2]))))))))))
  ·
   refine Ck (Qb (Qc (Ny 0 ?_)))
   refine Wk 1 Za ?_
   exact Wd (QS.head (s + 1) rfl rfl ⟨⟨by omega, by omega, fun j h1 h2 => if hj : j = s then by rw [hj]; exact hc2 else hs3 j h1 (by omega)⟩, by omega⟩)
 ·
  refine Cv (Qe (Qe (Qx (Qc (Nz 1 ?_)))))
  exact Wd (Qc (Cr (out1 rfl rfl (retBe (by rw [idxF_none fun j h1 h2 => hs3 j h1 (by omega)])))))
theorem ContainsC_k (xs : List (Clue)) (v : Value) (gs : List Value) (w : World) (h1 : ClS w v xs gs) (g : Nat) (lb : List Value) (p : Clue → Bool) (hg : Ent Tryz.prog g)
  (hp : ∀ u, Below w.heap.size w u → ∀ i : Int, 0 ≤ i → i < xs.length → Calls Tryz.prog g ([.agg #[.int .i64 (nth xs i).k, .int .i64 (nth xs i).a, .int .i64 (nth xs i).b, .int .i64 (nth xs i).n, .int .i64 (nth xs i).m, nth gs i, .bool (nth xs i).nt]] ++ lb : List Value).toArray u (RetB u (.bool (p (nth xs i))))) :
  Calls Tryz.prog 126 #[v, .func (.func g) #[] lb.toArray] w (RetB w (.bool (xs.any p))) := by
 refine enter Tryz.func126 rfl rfl (Nat.le_of_ble_eq_true rfl) ?_
 refine Nz 1 ?_
 refine Wd (Qc (Nz 2 ?_))
 refine Wk 2 (Cb rfl rfl ent130 (fun u hu => IndexC_k xs v gs u (h1.st hu) g lb p hg (fun u2 h2 => hp u2 (below_trans hu.below h2)))) ?_
 exact Wd (Qc (Cr (out1 rfl rfl (retBe (by rw [idxF_any])))))
theorem holds_k (lw ls : Int) (c : Clue) (gv : Value) (xs : List Int) (v : Value) (w : World) (hU : Use lw ls c xs) (hg1 : SlI w gv c.g) (h1 : SlI w v xs) :
  Calls Tryz.prog 75 #[.agg #[.int .i64 c.k, .int .i64 c.a, .int .i64 c.b, .int .i64 c.n, .int .i64 c.m, gv, .bool c.nt], v] w (RetB w (.bool (holdsT c xs))) := by
 refine enter Tryz.func75 rfl rfl (Nat.le_of_ble_eq_true rfl) ?_
 refine Nz 0 ?_
 refine Wb 1 rfl rfl (fun _ => rfl) (fun _ => rfl) fun b2 hb2 => ?_
 refine Wd (Qc (Cs (Dr mixed 0 ?_)))
 refine Dk 1 (Bb 0) ?_
 refine Dk 1 (Cb rfl rfl ent133 (fun u hu => plain_k _ _ _ _ _ _ u hU (hg1.st hu) (h1.st hu))) ?_
 refine Dk 0 (Ba 0) ?_
 refine Dk 1 (det_neb rfl rfl Tryz.underlying4) ?_
 exact Dd (Qc (Cr (out1 rfl rfl (retBe rfl))))
theorem CheckClue_k (lw ls : Int) (c : Clue) (gv : Value) (w : World) (hg1 : SlI w gv c.g) :
  Calls Tryz.prog 216 #[.agg #[.int .i64 lw, .int .i64 ls], .agg #[.int .i64 c.k, .int .i64 c.a, .int .i64 c.b, .int .i64 c.n, .int .i64 c.m, gv, .bool c.nt]] w (RetB w (.int .i64 (clueE lw ls c))) := by
 have h1 := hg1
 refine enter Tryz.func216 rfl rfl (Nat.le_of_ble_eq_true rfl) ?_
 refine Nz 0 ?_
 refine Wb 0 rfl rfl (fun _ => rfl) (fun _ => rfl) fun b2 hb2 => ?_
 refine Wb 1 rfl rfl (fun _ => rfl) (fun _ => rfl) fun b3 hb3 => ?_
 refine Wd (Qc (Cs (Nz 0 ?_)))
 refine Wk 0 (Bb 1) ?_
 refine Wk 1 (Cb rfl rfl ent73 (fun u hu => Check_k _ _ u)) ?_
 refine Wd (Qc (Nz 2 ?_))
 refine Wd (Qc (CS.cond rfl ?_ ?_))<;>intro hc1<;>try simp only [bq] at hc1
 ·
  refine Nz 2 ?_
  exact Wd (Qc (Cr (Qr (out1 rfl rfl (retBe (by have : lockB lw ls = false := (by simpa [lockE] using hc1); simp [clueE, lockE, this]))))))
 ·
  have hL : lockB lw ls = true := by simpa [lockE] using hc1
  refine Ck (Qc (Cs (Nz 0 ?_)))
  refine Wk 0 (Bb 1) ?_
  refine Wk 0 (Bb 0) ?_
  refine Wk 1 (Cb rfl rfl ent128 (fun u hu => clue_k _ _ _ _ u hL (h1.st hu))) ?_
  refine Wd (Qc (CS.cond rfl ?_ ?_))<;>intro hc2<;>try simp only [bq] at hc2
  ·
   refine Nz 1 ?_
   exact Wd (Qc (Cr (Qr (out1 rfl rfl (retBe (by simp [clueE, hL, hc2]))))))
  ·
   refine Ck (Qc (Nz 1 ?_))
   exact Wd (Qc (Cr (out1 rfl rfl (retBe (by simp [clueE, hL, hc2])))))
theorem RCheckClue_k (lw ls : Int) (c : Clue) (gv : Value) (w : World) (hg1 : SlI w gv c.g) :
  Calls Tryz.prog 120 #[.agg #[.int .i64 lw, .int .i64 ls], .agg #[.int .i64 c.k, .int .i64 c.a, .int .i64 c.b, .int .i64 c.n, .int .i64 c.m, gv, .bool c.nt]] w (RetB w (.int .i64 (clueE lw ls c))) := by
 have h1 := hg1
 refine enter Tryz.func120 rfl rfl (Nat.le_of_ble_eq_true rfl) ?_
 refine Nz 0 ?_
 refine Wb 0 rfl rfl (fun _ => rfl) (fun _ => rfl) fun b2 hb2 => ?_
 refine Wb 1 rfl rfl (fun _ => rfl) (fun _ => rfl) fun b3 hb3 => ?_
 refine Wd (Qc (Cs (Nz 0 ?_)))
 refine Wk 0 (Bb 1) ?_
 refine Wk 1 (Cb rfl rfl ent57 (fun u hu => RCheck_k _ _ u)) ?_
 refine Wd (Qc (Nz 2 ?_))
 refine Wd (Qc (CS.cond rfl ?_ ?_))<;>intro hc1<;>try simp only [bq] at hc1
 ·
  refine Nz 2 ?_
  exact Wd (Qc (Cr (Qr (out1 rfl rfl (retBe (by have : lockB lw ls = false := (by simpa [lockE] using hc1); simp [clueE, lockE, this]))))))
 ·
  have hL : lockB lw ls = true := by simpa [lockE] using hc1
  refine Ck (Qc (Cs (Nz 0 ?_)))
  refine Wk 0 (Bb 1) ?_
  refine Wk 0 (Bb 0) ?_
  refine Wk 1 (Cb rfl rfl ent179 (fun u hu => isClue_k _ _ _ _ u hL (h1.st hu))) ?_
  refine Wd (Qc (CS.cond rfl ?_ ?_))<;>intro hc2<;>try simp only [bq] at hc2
  ·
   refine Nz 1 ?_
   exact Wd (Qc (Cr (Qr (out1 rfl rfl (retBe (by simp [clueE, hL, hc2]))))))
  ·
   refine Ck (Qc (Nz 1 ?_))
   exact Wd (Qc (Cr (out1 rfl rfl (retBe (by simp [clueE, hL, hc2])))))
theorem checkCluesF_k (lw ls : Int) (c : Clue) (gv : Value) (b : Nat) (e : TypeId) (w : World) (hL : lockB lw ls = true) (hg1 : SlI w gv c.g) (hb : BlkAt w b [.int .i64 lw, .int .i64 ls] e) :
  Calls Tryz.prog 127 #[.agg #[.int .i64 c.k, .int .i64 c.a, .int .i64 c.b, .int .i64 c.n, .int .i64 c.m, gv, .bool c.nt], .pointer (some ⟨b, 0, none⟩)] w (RetB w (.bool (!clueB lw ls c))) := by
 have h1 := hg1
 refine enter Tryz.func127 rfl rfl (Nat.le_of_ble_eq_true rfl) ?_
 refine Nz 0 ?_
 refine Wb 1 rfl rfl (fun _ => rfl) (fun _ => rfl) fun b2 hb2 => ?_
 refine Wd (Qc (Nz 0 ?_))
 refine Wk 0 Gb ?_
 refine Wk 0 (Bb 0) ?_
 refine Wk 2 (Cb rfl rfl ent128 (fun u hu => clue_k _ _ _ _ u hL (h1.st hu))) ?_
 exact Wd (Qc (Cr (out1 rfl rfl retB)))
theorem checkClues_k (lw ls : Int) (cs : List Clue) (gs : List Value) (v : Value) (w : World) (h1 : ClS w v cs gs) :
  Calls Tryz.prog 68 #[.agg #[.int .i64 lw, .int .i64 ls], v] w (RetB w (.int .i64 (cluesE lw ls cs))) := by
 have hl1 := h1.le
 refine enter Tryz.func68 rfl rfl (Nat.le_of_ble_eq_true rfl) ?_
 refine Nz 0 ?_
 refine Wb 1 rfl rfl (fun _ => rfl) (fun _ => rfl) fun b2 hb2 => ?_
 refine Wd (Qc (Cs (Nz 0 ?_)))
 refine Wk 0 (Bb 0) ?_
 refine Wk 1 (Cb rfl rfl ent73 (fun u hu => Check_k _ _ u)) ?_
 refine Wd (Qc (Nz 2 ?_))
 refine Wd (Qc (CS.cond rfl ?_ ?_))<;>intro hc1<;>try simp only [bq] at hc1
 ·
  refine Nz 2 ?_
  exact Wd (Qc (Cr (Qr (out1 rfl rfl (retBe (by have : lockB lw ls = false := (by simpa [lockE] using hc1); simp [cluesE, lockE, this]))))))
 ·
  have hL : lockB lw ls = true := by simpa [lockE] using hc1
  refine Ck (Qc (Cs (Nz 1 ?_)))
  refine Wk 1 (det_lenS sl46 rfl (by first | exact SlL.sp (by assumption) | exact ClS.sp (by assumption))) ?_
  refine Wd (Qc (CS.cond rfl ?_ ?_))<;>intro hc2<;>try simp only [bq] at hc2
  ·
   refine Nz 1 ?_
   exact Wd (Qc (Cr (Qr (out1 rfl rfl (retBe (by have : 20 < (cs.length : Int) := (by omega); simp [cluesE, hL, this]))))))
  ·
   refine Ck (Qc (Cs (Nz 1 ?_)))
   refine Wk 0 (det_makeFunc rfl) ?_
   refine Wk 0 (Cb rfl rfl ent126 (fun u hu => ContainsC_k cs v gs u (h1.st hu) _ [.pointer (some ⟨b2, 0, none⟩)] (fun c => !clueB lw ls c) ent127 (fun u2 h2 i h3 h4 => checkCluesF_k _ _ _ _ _ _ u2 hL (((h1.st hu).ext h2).el i h3 h4) ((st_blk hu (j := 0) rfl).ext h2)))) ?_
   refine Wd (Qc (CS.cond rfl ?_ ?_))<;>intro hc3<;>try simp only [bq] at hc3
   ·
    refine Nz 1 ?_
    exact Wd (Qc (Cr (Qr (out1 rfl rfl (retBe (by have h20 : ¬ 20 < (cs.length : Int) := (by omega); have h3 : cs.all (clueB lw ls) = false := (by simpa using hc3); simp [cluesE, hL, h20, h3]))))))
   ·
    refine Ck (Qc (Nz 1 ?_))
    exact Wd (Qc (Cr (out1 rfl rfl (retBe (by have h20 : ¬ 20 < (cs.length : Int) := (by omega); have h3 : cs.all (clueB lw ls) = true := (by simpa using hc3); simp only [cluesE, hL, h20, h3, if_true, if_false])))))
theorem failsF_k (lw ls : Int) (c : Clue) (gv : Value) (xs : List Int) (v : Value) (b : Nat) (e : TypeId) (w : World) (hU : Use lw ls c xs) (hg1 : SlI w gv c.g) (h1 : SlI w v xs) (hb : BlkAt w b [v] e) :
  Calls Tryz.prog 131 #[.agg #[.int .i64 c.k, .int .i64 c.a, .int .i64 c.b, .int .i64 c.n, .int .i64 c.m, gv, .bool c.nt], .pointer (some ⟨b, 0, none⟩)] w (RetB w (.bool (!holdsT c xs))) := by
 refine enter Tryz.func131 rfl rfl (Nat.le_of_ble_eq_true rfl) ?_
 refine Nz 0 ?_
 refine Wb 1 rfl rfl (fun _ => rfl) (fun _ => rfl) fun b2 hb2 => ?_
 refine Wd (Qc (Nz 0 ?_))
 refine Wk 0 (Bb 0) ?_
 refine Wk 0 Ga ?_
 refine Wk 2 (Cb rfl rfl ent75 (fun u hu => holds_k _ _ _ _ _ _ u hU (hg1.st hu) (h1.st hu))) ?_
 exact Wd (Qc (Cr (out1 rfl rfl retB)))
theorem fails_k (lw ls : Int) (cs : List Clue) (gs : List Value) (v : Value) (xs : List Int) (xv : Value) (w : World) (hU : ∀ c ∈ cs, Use lw ls c xs) (hk : ClS w v cs gs) (h1 : SlI w xv xs) :
  Calls Tryz.prog 70 #[v, xv] w (RetB w (.int .i64 (failsT cs xs))) := by
 obtain ⟨p, cap, rfl⟩ := h1.shape
 refine enter Tryz.func70 rfl rfl (Nat.le_of_ble_eq_true rfl) ?_
 refine Nz 0 ?_
 refine Wb 1 rfl rfl (fun _ => rfl) (fun _ => rfl) fun b3 hb3 => ?_
 refine Wd (Qc (Nz 1 ?_))
 refine Wk 0 (det_makeFunc rfl) ?_
 refine Wk 1 (Cb rfl rfl ent130 (fun u hu => IndexC_k cs v gs u (hk.st hu) _ [.pointer (some ⟨b3, 0, none⟩)] (fun c => !holdsT c xs) ent131 (fun u2 h2 i h3 h4 => failsF_k _ _ _ _ _ _ _ _ u2 (hU _ (nth_mem h3 h4)) (((hk.st hu).ext h2).el i h3 h4) ((h1.st hu).ext h2) ((st_blk hu (j := 0) rfl).ext h2)))) ?_
 exact Wd (Qc (Cr (out1 rfl rfl (retBe rfl))))
theorem Fits_k (lw ls : Int) (cs : List Clue) (gs : List Value) (v : Value) (xs : List Int) (xv : Value) (w : World) (hk : ClS w v cs gs) (h1 : SlI w xv xs) :
  Calls Tryz.prog 20 #[.agg #[.int .i64 lw, .int .i64 ls], v, xv] w (RetB w (.tuple #[.int .i64 (if fitsE lw ls cs xs = 0 then failsT cs xs else 0), .bool (if fitsE lw ls cs xs = 0 then decide (failsT cs xs < 0) else false), .int .i64 (fitsE lw ls cs xs)])) := by
 refine enter Tryz.func20 rfl rfl (Nat.le_of_ble_eq_true rfl) ?_
 refine Nz 0 ?_
 refine Wb 3 rfl rfl (fun _ => rfl) (fun _ => rfl) fun b3 hb3 => ?_
 refine Wd (Qc (Cs (Nz 0 ?_)))
 refine Wk 1 (Bb 0) ?_
 refine Wk 1 (Cb rfl rfl ent68 (fun u hu => checkClues_k _ _ _ _ _ u (hk.st hu))) ?_
 refine Wd (Qc (Nz 2 ?_))
 refine Wd (Qc (CS.cond rfl ?_ ?_))<;>intro hc1<;>try simp only [bq] at hc1
 ·
  refine Nz 4 ?_
  exact Wd (Qc (Cr (Qr (out3 rfl rfl rfl rfl (retBe (by simp [fitsE, hc1]))))))
 ·
  refine Ck (Qc (Cs (Nz 0 ?_)))
  refine Wk 1 (Bb 0) ?_
  refine Wk 1 (Cb rfl rfl ent69 (fun u hu => CheckCode_k _ _ _ _ u (h1.st hu))) ?_
  refine Wd (Qc (Nz 2 ?_))
  refine Wd (Qc (CS.cond rfl ?_ ?_))<;>intro hc2<;>try simp only [bq] at hc2
  ·
   refine Nz 4 ?_
   exact Wd (Qc (Cr (Qr (out3 rfl rfl rfl rfl (retBe (by simp [fitsE, hc1, hc2]))))))
  ·
   have hU := use_all hc1 hc2
   have hae : fitsE lw ls cs xs = 0 := by simp [fitsE, hc1, hc2]
   refine Ck (Qc (Nz 2 ?_))
   refine Wk 1 (Cb rfl rfl ent70 (fun u hu => fails_k _ _ _ _ _ _ _ u hU (hk.st hu) (h1.st hu))) ?_
   refine Wd (Qc (Nz 6 ?_))
   exact Wd (Qc (Cr (out3 rfl rfl rfl rfl (retBe (by simp [hae])))))
theorem Holds_k (lw ls : Int) (c : Clue) (gv : Value) (xs : List Int) (v : Value) (w : World) (hg1 : SlI w gv c.g) (h1 : SlI w v xs) :
  Calls Tryz.prog 168 #[.agg #[.int .i64 lw, .int .i64 ls], .agg #[.int .i64 c.k, .int .i64 c.a, .int .i64 c.b, .int .i64 c.n, .int .i64 c.m, gv, .bool c.nt], v] w (RetB w (.tuple #[.bool (if holdsE lw ls c xs = 0 then holdsT c xs else false), .int .i64 (holdsE lw ls c xs)])) := by
 refine enter Tryz.func168 rfl rfl (Nat.le_of_ble_eq_true rfl) ?_
 refine Nz 0 ?_
 refine Wb 0 rfl rfl (fun _ => rfl) (fun _ => rfl) fun b3 hb3 => ?_
 refine Wb 2 rfl rfl (fun _ => rfl) (fun _ => rfl) fun b4 hb4 => ?_
 refine Wd (Qc (Cs (Nz 0 ?_)))
 refine Wk 0 (Bb 1) ?_
 refine Wk 0 (Bb 0) ?_
 refine Wk 1 (Cb rfl rfl ent216 (fun u hu => CheckClue_k _ _ _ _ u (hg1.st hu))) ?_
 refine Wd (Qc (Nz 2 ?_))
 refine Wd (Qc (CS.cond rfl ?_ ?_))<;>intro hc1<;>try simp only [bq] at hc1
 ·
  refine Nz 3 ?_
  exact Wd (Qc (Cr (Qr (out2 rfl rfl rfl (retBe (by simp [holdsE, hc1]))))))
 ·
  refine Ck (Qc (Cs (Nz 0 ?_)))
  refine Wk 1 (Bb 1) ?_
  refine Wk 1 (Cb rfl rfl ent69 (fun u hu => CheckCode_k _ _ _ _ u (h1.st hu))) ?_
  refine Wd (Qc (Nz 2 ?_))
  refine Wd (Qc (CS.cond rfl ?_ ?_))<;>intro hc2<;>try simp only [bq] at hc2
  ·
   refine Nz 3 ?_
   exact Wd (Qc (Cr (Qr (out2 rfl rfl rfl (retBe (by simp [holdsE, hc1, hc2]))))))
  ·
   have hU := use_one hc1 hc2
   have hae : holdsE lw ls c xs = 0 := by simp [holdsE, hc1, hc2]
   refine Ck (Qc (Nz 0 ?_))
   refine Wk 1 (Bb 0) ?_
   refine Wk 2 (Cb rfl rfl ent75 (fun u hu => holds_k _ _ _ _ _ _ u hU (hg1.st hu) (h1.st hu))) ?_
   exact Wd (Qc (Cr (out2 rfl rfl rfl (retBe (by simp [hae])))))
end Go.Proofs.YtaeagngfhceceaaGreatDoor
