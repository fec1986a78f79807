/- Contracts of functions, printed by a program of the prover (gen.py). -/
import Derived.Test.YtldagbcceefcdaaL11
import Derived.Test.YtldagbcceefcdaaFew
import Derived.Test.YtldagbcceefcdaaFactsC
namespace Go.Proofs.Ytldagbcceefcdaa
open Go.RowKit Go.Proofs
set_option maxRecDepth 100000
set_option linter.unusedVariables false
set_option linter.unusedSimpArgs false

theorem alone_c (lw ls : Int) (cs : List Clue) (gs : List Value) (cv : Value) (zs : List Int) (zv : Value) (xs : List Int) (xv : Value) (w : World) (hk : ClS w cv cs gs) (h1 : SlI w zv zs) (h2 : SlI w xv xs) (hm : zs.length ≤ 1000) :
    Calls Try.prog 53 #[.agg #[.int .i64 lw, .int .i64 ls], cv, zv, xv] w (RetB w (.bool (aloneB lw ls cs zs xs))) := by
  have hgl := hk.len
  have hkl := hk.le
  have hzl := h1.le
  refine enter Try.func53 rfl rfl (Nat.le_of_ble_eq_true rfl) ?_
  refine CS.seq ?_
  refine CS.region ?_
  refine WS.box rfl rfl (fun _ => rfl) ?_; intro b4 hb4 -- r0.0 outright.go:183
  refine WS.det rfl rfl rfl (det_assign rfl) rfl ?_ -- r0.1 outright.go:183
  refine WS.done ?_
  refine QS.then_code ?_
  refine CS.seq ?_
  refine CS.region ?_
  refine WS.det rfl rfl rfl (det_assign rfl) rfl ?_ -- r1.0 outright.go:184
  refine WS.done ?_
  refine QS.then_code ?_
  refine CS.seq ?_
  refine CS.seq ?_
  refine CS.region ?_
  refine WS.det rfl rfl rfl (det_assign rfl) rfl ?_ -- r2.0 outright.go:185
  refine WS.done ?_
  refine QS.then_code ?_
  refine CS.block ?_
  refine CS.weak (fun _ hu => hu.osl0 (e := 36) (size := 7)) ?_
  refine CS.loopM (σ := Int × Value) [8, 16, 17, 18, 19, 20, 21, 22, 23, 24, 25, 26, 27, 28, 29, 30, 31, 32, 33, 34, 35, 36, 37, 38, 39, 40, 41, 42, 43, 44, 45] (fun s => [(9, s.2), (10, .int .i64 s.1)]) (fun s => [osl 36 7 s.2 (pickI cs (zs.take s.1.toNat)).length (clFlat (pickI cs (zs.take s.1.toNat)) (pickG gs (zs.take s.1.toNat))), blk b4 [.int .i64 lw, .int .i64 ls] 23]) (fun s => 0 ≤ s.1 ∧ s.1 ≤ zs.length ∧ inRange cs (zs.take s.1.toNat) = true) (fun s => (zs.length - s.1).toNat) (0, .slice none 0 0) (fun _ _ => rfl) rfl rfl ⟨by simp, by simp, by simp [inRange]⟩ ?_
  intro s t hs
  obtain ⟨hs1, hs2, hs4⟩ := hs
  have htl := List.length_take_le s.1.toNat zs
  refine CS.seq ?_
  refine CS.seq ?_
  refine CS.region ?_
  refine WS.det rfl rfl rfl (det_move rfl) rfl ?_ -- r3.0 outright.go:185
  refine WS.det rfl rfl rfl (det_move rfl) rfl ?_ -- r3.1 outright.go:185
  refine WS.det rfl rfl rfl ((by first | exact det_lenS sl24 rfl (by assumption) | exact det_lenS sl24 rfl (by first | exact SlL.sp (by assumption) | exact ClS.sp (by assumption)) | exact det_lenO sl24 rfl | exact det_lenV sl24 rfl ⟨_, _, rfl⟩)) rfl ?_ -- r3.2 outright.go:185
  refine WS.det rfl rfl rfl (det_lt rfl rfl) rfl ?_ -- r3.3 outright.go:185
  refine WS.done ?_
  refine QS.then_code ?_
  refine CS.cond rfl (fun hc1 => ?_) (fun hc1 => ?_) <;> (try simp only [decide_eq_true_eq, decide_eq_false_iff_not, Bool.and_eq_true, Bool.or_eq_true, Bool.and_eq_false_iff, Bool.or_eq_false_iff, Bool.not_eq_true', Bool.not_eq_false', ne_eq, Decidable.not_not, Bool.not_true, Bool.not_false, bne_iff_ne, bne_eq_false_iff_eq, beq_iff_eq, beq_eq_false_iff_ne] at hc1)
  · skip
    refine CS.skip ?_
    refine QS.then_code ?_
    refine CS.seq ?_
    refine CS.block ?_
    refine CS.seq ?_
    refine CS.seq ?_
    refine CS.region ?_
    refine WS.det rfl rfl rfl (det_move rfl) rfl ?_ -- r5.0 outright.go:186
    refine WS.det rfl rfl rfl (det_move rfl) rfl ?_ -- r5.1 outright.go:186
    refine WS.det rfl rfl rfl ((by first | exact det_idxI sl24 rfl rfl (by assumption) (by omega) (by omega) | exact det_idxO sl24 rfl rfl (by omega) (by omega))) rfl ?_ -- r5.2 outright.go:186
    refine WS.det rfl rfl rfl ((by first | exact det_ldI rfl (by assumption) (by omega) tk3 | exact det_loadb (j := 0) rfl rfl rfl tk3 | exact det_loadb (j := 1) rfl rfl rfl tk3 | exact det_loadb (j := 2) rfl rfl rfl tk3 | exact det_loadb (j := 3) rfl rfl rfl tk3 | exact det_loadw rfl (by assumption) rfl tk3)) rfl ?_ -- r5.3 outright.go:186
    refine WS.det rfl rfl rfl (det_lt rfl rfl) rfl ?_ -- r5.4 outright.go:186
    refine WS.det rfl rfl rfl (det_move rfl) rfl ?_ -- r5.5 outright.go:186
    refine WS.guardF rfl rfl rfl rfl (fun hg => det_move rfl) rfl ?_ -- r5.6 outright.go:186
    refine WS.guardF rfl rfl rfl rfl (fun hg => det_move rfl) rfl ?_ -- r5.7 outright.go:186
    refine WS.guardF rfl rfl rfl rfl (fun hg => (by first | exact det_idxI sl24 (ev_cond hg rfl) (ev_cond hg rfl) (by assumption) (by (try simp only [decide_eq_true_eq, decide_eq_false_iff_not, Bool.and_eq_true, Bool.or_eq_true, Bool.and_eq_false_iff, Bool.or_eq_false_iff, Bool.not_eq_true', Bool.not_eq_false', ne_eq, Decidable.not_not, Bool.not_true, Bool.not_false, bne_iff_ne, bne_eq_false_iff_eq, beq_iff_eq, beq_eq_false_iff_ne] at hg); omega) (by (try simp only [decide_eq_true_eq, decide_eq_false_iff_not, Bool.and_eq_true, Bool.or_eq_true, Bool.and_eq_false_iff, Bool.or_eq_false_iff, Bool.not_eq_true', Bool.not_eq_false', ne_eq, Decidable.not_not, Bool.not_true, Bool.not_false, bne_iff_ne, bne_eq_false_iff_eq, beq_iff_eq, beq_eq_false_iff_ne] at hg); omega) | exact det_idxO sl24 (ev_cond hg rfl) (ev_cond hg rfl) (by (try simp only [decide_eq_true_eq, decide_eq_false_iff_not, Bool.and_eq_true, Bool.or_eq_true, Bool.and_eq_false_iff, Bool.or_eq_false_iff, Bool.not_eq_true', Bool.not_eq_false', ne_eq, Decidable.not_not, Bool.not_true, Bool.not_false, bne_iff_ne, bne_eq_false_iff_eq, beq_iff_eq, beq_eq_false_iff_ne] at hg); omega) (by (try simp only [decide_eq_true_eq, decide_eq_false_iff_not, Bool.and_eq_true, Bool.or_eq_true, Bool.and_eq_false_iff, Bool.or_eq_false_iff, Bool.not_eq_true', Bool.not_eq_false', ne_eq, Decidable.not_not, Bool.not_true, Bool.not_false, bne_iff_ne, bne_eq_false_iff_eq, beq_iff_eq, beq_eq_false_iff_ne] at hg); omega))) rfl ?_ -- r5.8 outright.go:186
    refine WS.guardF rfl rfl rfl rfl (fun hg => (by first | exact det_ldI (ev_cond hg rfl) (by assumption) (by (try simp only [decide_eq_true_eq, decide_eq_false_iff_not, Bool.and_eq_true, Bool.or_eq_true, Bool.and_eq_false_iff, Bool.or_eq_false_iff, Bool.not_eq_true', Bool.not_eq_false', ne_eq, Decidable.not_not, Bool.not_true, Bool.not_false, bne_iff_ne, bne_eq_false_iff_eq, beq_iff_eq, beq_eq_false_iff_ne] at hg); omega) tk3 | exact det_loadb (j := 0) (ev_cond hg rfl) rfl rfl tk3 | exact det_loadb (j := 1) (ev_cond hg rfl) rfl rfl tk3 | exact det_loadb (j := 2) (ev_cond hg rfl) rfl rfl tk3 | exact det_loadb (j := 3) (ev_cond hg rfl) rfl rfl tk3 | exact det_loadw (ev_cond hg rfl) (by assumption) rfl tk3)) rfl ?_ -- r5.9 outright.go:186
    refine WS.guardF rfl rfl rfl rfl (fun hg => det_move rfl) rfl ?_ -- r5.10 outright.go:186
    refine WS.guardF rfl rfl rfl rfl (fun hg => (by first | exact det_lenS sl31 (ev_cond hg rfl) (by assumption) | exact det_lenS sl31 (ev_cond hg rfl) (by first | exact SlL.sp (by assumption) | exact ClS.sp (by assumption)) | exact det_lenO sl31 (ev_cond hg rfl) | exact det_lenV sl31 (ev_cond hg rfl) ⟨_, _, rfl⟩)) rfl ?_ -- r5.11 outright.go:186
    refine WS.guardF rfl rfl rfl rfl (fun hg => det_ge (ev_cond hg rfl) (ev_cond hg rfl)) rfl ?_ -- r5.12 outright.go:186
    refine WS.det rfl rfl rfl (det_pick_or rfl rfl rfl) rfl ?_ -- r5.13 outright.go:186
    refine WS.done ?_
    refine QS.then_code ?_
    refine CS.cond rfl (fun hc2 => ?_) (fun hc2 => ?_) <;> (try simp only [decide_eq_true_eq, decide_eq_false_iff_not, Bool.and_eq_true, Bool.or_eq_true, Bool.and_eq_false_iff, Bool.or_eq_false_iff, Bool.not_eq_true', Bool.not_eq_false', ne_eq, Decidable.not_not, Bool.not_true, Bool.not_false, bne_iff_ne, bne_eq_false_iff_eq, beq_iff_eq, beq_eq_false_iff_ne] at hc2)
    · skip
      have hnr : inRange cs zs = false := inRange_no (i := s.1) hs1 (by omega) (by omega)
      refine CS.seq ?_
      refine CS.region ?_
      refine WS.det rfl rfl rfl (det_assign rfl) rfl ?_ -- r6.0 outright.go:187
      refine WS.done ?_
      refine QS.then_code ?_
      refine CS.ret ?_
      refine QS.then_ret ?_
      refine QS.block_ret ?_
      refine QS.then_ret ?_
      refine QS.then_ret ?_
      refine QS.block_ret ?_
      refine QS.then_ret ?_
      exact out1 rfl rfl (retBe (by rw [aloneB_no hnr])) -- ret 1
    · skip
      have hs3 : s.1 < zs.length := by omega
      have hin : 0 ≤ nth zs s.1 ∧ nth zs s.1 < cs.length := by omega
      have hg1 : (nth gs (nth zs s.1)).oneCell' = true := hk.one _ (nth_mem (by omega) (by omega))
      refine CS.skip ?_
      refine QS.then_code ?_
      refine CS.region ?_
      refine WS.det rfl rfl rfl (det_move rfl) rfl ?_ -- r7.0 outright.go:189
      refine WS.det rfl rfl rfl (det_move rfl) rfl ?_ -- r7.1 outright.go:189
      refine WS.det rfl rfl rfl (det_move rfl) rfl ?_ -- r7.2 outright.go:189
      refine WS.det rfl rfl rfl (det_move rfl) rfl ?_ -- r7.3 outright.go:189
      refine WS.det rfl rfl rfl ((by first | exact det_idxI sl24 rfl rfl (by assumption) (by omega) (by omega) | exact det_idxO sl24 rfl rfl (by omega) (by omega))) rfl ?_ -- r7.4 outright.go:189
      refine WS.det rfl rfl rfl ((by first | exact det_ldI rfl (by assumption) (by omega) tk3 | exact det_loadb (j := 0) rfl rfl rfl tk3 | exact det_loadb (j := 1) rfl rfl rfl tk3 | exact det_loadb (j := 2) rfl rfl rfl tk3 | exact det_loadb (j := 3) rfl rfl rfl tk3 | exact det_loadw rfl (by assumption) rfl tk3)) rfl ?_ -- r7.5 outright.go:189
      refine WS.det rfl rfl rfl (det_idxCl sl31 rfl rfl (by assumption) (by omega) (by omega)) rfl ?_ -- r7.6 outright.go:189
      refine WS.det rfl rfl rfl ((by first | exact det_ldCl rfl (by assumption) (by omega) tk36 | exact det_loadb0 (j := 0) rfl rfl tk36 | exact det_loadb0 (j := 1) rfl rfl tk36 | exact det_loadb0 (j := 2) rfl rfl tk36 | exact det_loadb0 (j := 3) rfl rfl tk36 | exact det_loadbN (j := 0) rfl rfl (by rfl) tk36 | exact det_loadbN (j := 1) rfl rfl (by rfl) tk36 | exact det_loadbN (j := 2) rfl rfl (by rfl) tk36 | exact det_loadbN (j := 3) rfl rfl (by rfl) tk36 | exact det_loadwN rfl (by assumption) (by rfl) tk36 | exact det_loadbK (n := 7) (j := 0) rfl rfl rfl rfl tk36 | exact det_loadbK (n := 7) (j := 1) rfl rfl rfl rfl tk36 | exact det_loadbK (n := 7) (j := 2) rfl rfl rfl rfl tk36 | exact det_loadbK (n := 7) (j := 3) rfl rfl rfl rfl tk36)) rfl ?_ -- r7.7 outright.go:189
      refine WS.buildC1 sl31 zv36 (c := nth cs (nth zs s.1)) (gv := nth gs (nth zs s.1)) rfl (fun _ => rfl) ?_; intro v44 -- r7.8 outright.go:189
      refine WS.appendCl (j := 1) (jz := 0) sl31 zv36 rfl rfl rfl (by rw [pickI_len, pickG_len]) rfl rfl hg1 (by rw [pickI_len]; omega) (by rw [pickI_len]; omega) (fun _ => rfl) (fun _ => rfl) ?_; intro v45 hv45 -- r7.9 outright.go:189
      refine WS.det rfl rfl rfl (det_assign rfl) rfl ?_ -- r7.10 outright.go:189
      refine WS.done ?_
      refine QS.block_normal ?_
      refine QS.then_code ?_
      refine CS.region ?_
      refine WS.det rfl rfl rfl (det_move rfl) rfl ?_ -- r4.0 outright.go:185
      refine WS.det rfl rfl rfl (det_add rfl rfl (by omega)) rfl ?_ -- r4.1 outright.go:185
      refine WS.det rfl rfl rfl (det_assign rfl) rfl ?_ -- r4.2 outright.go:185
      refine WS.done ?_
      refine QS.sel [1, 1] rfl ?_
      exact QS.head ((s.1 + 1, v45)) rfl (by simp only [pickI_snoc cs zs hs1 hs3, pickG_snoc gs zs hs1 hs3]) ⟨⟨by simp; omega, by simp; omega, inRange_snoc hs1 hs3 hs4 hin⟩, by simp; omega⟩
  · skip
    have hta : zs.take s.1.toNat = zs := List.take_of_length_le (by omega)
    rw [hta] at hs4 ⊢
    have hlt := (inRange_nat hs4).2
    refine CS.leave ?_
    refine QS.then_exit ?_
    refine QS.then_exit ?_
    refine QS.block_exit ?_
    refine QS.then_code ?_
    refine CS.seq ?_
    refine CS.region ?_
    refine WS.det rfl rfl rfl ((by first | exact det_loadb0 (j := 1) rfl rfl tk23 | exact det_loadbN (j := 1) rfl rfl (by rfl) tk23 | exact det_loadwN rfl (by assumption) (by rfl) tk23 | exact det_loadbK (n := 2) (j := 1) rfl rfl rfl rfl tk23)) rfl ?_ -- r8.0 outright.go:191
    refine WS.det rfl rfl rfl (det_move rfl) rfl ?_ -- r8.1 outright.go:191
    refine WS.det rfl rfl rfl (det_callB rfl rfl ent34 (fun u hu => Count_c lw ls (pickI cs zs) (pickG gs zs) _ u ((hk.st hu).pick hlt (osl_SlC hu (j := 0) rfl)))) rfl ?_ -- r8.2 outright.go:191
    refine WS.det rfl rfl rfl (det_move rfl) rfl ?_ -- r8.3 outright.go:191
    refine WS.det rfl rfl rfl (det_extract rfl rfl) rfl ?_ -- r8.4 outright.go:191
    refine WS.det rfl rfl rfl (det_extract rfl rfl) rfl ?_ -- r8.5 outright.go:191
    refine WS.det rfl rfl rfl (det_assign rfl) rfl ?_ -- r8.6 outright.go:191
    refine WS.det rfl rfl rfl (det_assign rfl) rfl ?_ -- r8.7 outright.go:191
    refine WS.done ?_
    refine QS.then_code ?_
    refine CS.seq ?_
    refine CS.region ?_
    refine WS.det rfl rfl rfl ((by first | exact det_loadb0 (j := 1) rfl rfl tk23 | exact det_loadbN (j := 1) rfl rfl (by rfl) tk23 | exact det_loadwN rfl (by assumption) (by rfl) tk23 | exact det_loadbK (n := 2) (j := 1) rfl rfl rfl rfl tk23)) rfl ?_ -- r9.0 outright.go:192
    refine WS.det rfl rfl rfl (det_move rfl) rfl ?_ -- r9.1 outright.go:192
    refine WS.det rfl rfl rfl (det_move rfl) rfl ?_ -- r9.2 outright.go:192
    refine WS.det rfl rfl rfl (det_callB rfl rfl ent21 (fun u hu => Fits_c lw ls (pickI cs zs) (pickG gs zs) _ xs _ u ((hk.st hu).pick hlt (osl_SlC hu (j := 0) rfl)) (h2.st hu))) rfl ?_ -- r9.3 outright.go:192
    refine WS.det rfl rfl rfl (det_move rfl) rfl ?_ -- r9.4 outright.go:192
    refine WS.det rfl rfl rfl (det_extract rfl rfl) rfl ?_ -- r9.5 outright.go:192
    refine WS.det rfl rfl rfl (det_extract rfl rfl) rfl ?_ -- r9.6 outright.go:192
    refine WS.det rfl rfl rfl (det_extract rfl rfl) rfl ?_ -- r9.7 outright.go:192
    refine WS.det rfl rfl rfl (det_assign rfl) rfl ?_ -- r9.8 outright.go:192
    refine WS.det rfl rfl rfl (det_assign rfl) rfl ?_ -- r9.9 outright.go:192
    refine WS.det rfl rfl rfl (det_assign rfl) rfl ?_ -- r9.10 outright.go:192
    refine WS.done ?_
    refine QS.then_code ?_
    refine CS.seq ?_
    refine CS.region ?_
    refine WS.det rfl rfl rfl (det_move rfl) rfl ?_ -- r10.0 outright.go:193
    refine WS.det rfl rfl rfl (det_eq rfl rfl) rfl ?_ -- r10.1 outright.go:193
    refine WS.det rfl rfl rfl (det_move rfl) rfl ?_ -- r10.2 outright.go:193
    refine WS.guardT rfl rfl rfl rfl (fun hg => det_move rfl) rfl ?_ -- r10.3 outright.go:193
    refine WS.guardT rfl rfl rfl rfl (fun hg => det_eq (ev_cond hg rfl) rfl) rfl ?_ -- r10.4 outright.go:193
    refine WS.det rfl rfl rfl (det_pick_and rfl rfl rfl) rfl ?_ -- r10.5 outright.go:193
    refine WS.det rfl rfl rfl (det_move rfl) rfl ?_ -- r10.6 outright.go:193
    refine WS.guardT rfl rfl rfl rfl (fun hg => det_move rfl) rfl ?_ -- r10.7 outright.go:193
    refine WS.guardT rfl rfl rfl rfl (fun hg => det_eq (ev_cond hg rfl) rfl) rfl ?_ -- r10.8 outright.go:193
    refine WS.det rfl rfl rfl (det_pick_and rfl rfl rfl) rfl ?_ -- r10.9 outright.go:193
    refine WS.det rfl rfl rfl (det_move rfl) rfl ?_ -- r10.10 outright.go:193
    refine WS.guardT rfl rfl rfl rfl (fun hg => det_move rfl) rfl ?_ -- r10.11 outright.go:193
    refine WS.det rfl rfl rfl (det_pick_and rfl rfl rfl) rfl ?_ -- r10.12 outright.go:193
    refine WS.det rfl rfl rfl (det_assign rfl) rfl ?_ -- r10.13 outright.go:193
    refine WS.done ?_
    refine QS.then_code ?_
    refine CS.ret ?_
    exact out1 rfl rfl (retBe (by rw [aloneB_in hs4])) -- ret 2

set_option maxHeartbeats 1000000 in
theorem CodesFewest_c (lw ls : Int) (cs : List Clue) (gs : List Value) (cv : Value) (xs zs : List Int) (xv zv : Value) (w : World) (hk : ClS w cv cs gs) (h2 : SlI w xv xs) (h1 : SlI w zv zs) :
    Calls Try.prog 15 #[.agg #[.int .i64 lw, .int .i64 ls], cv, .agg #[xv, zv]] w (RetB w (.bool true)) := by
  have hkl := hk.le
  have hzl := h1.le
  refine enter Try.func15 rfl rfl (Nat.le_of_ble_eq_true rfl) ?_
  refine CS.seq ?_
  refine CS.region ?_
  refine WS.box rfl rfl (fun _ => rfl) ?_; intro b3 hb3 -- r0.0 outright.go:160
  refine WS.box rfl rfl (fun _ => rfl) ?_; intro b5 hb5 -- r0.1 outright.go:160
  refine WS.det rfl rfl rfl (det_assign rfl) rfl ?_ -- r0.2 outright.go:160
  refine WS.done ?_
  refine QS.then_code ?_
  refine CS.seq ?_
  refine CS.seq ?_
  refine CS.region ?_
  refine WS.det rfl rfl rfl (det_move rfl) rfl ?_ -- r1.0 outright.go:161
  refine WS.det rfl rfl rfl ((by first | exact det_lenS sl31 rfl (by assumption) | exact det_lenS sl31 rfl (by first | exact SlL.sp (by assumption) | exact ClS.sp (by assumption)) | exact det_lenO sl31 rfl | exact det_lenV sl31 rfl ⟨_, _, rfl⟩)) rfl ?_ -- r1.1 outright.go:161
  refine WS.det rfl rfl rfl (det_gt rfl rfl) rfl ?_ -- r1.2 outright.go:161
  refine WS.det rfl rfl rfl (det_move rfl) rfl ?_ -- r1.3 outright.go:161
  refine WS.guardF rfl rfl rfl rfl (fun hg => (by first | exact det_loadb0 (j := 1) rfl rfl tk23 | exact det_loadbN (j := 1) rfl rfl (by rfl) tk23 | exact det_loadwN rfl (by assumption) (by rfl) tk23 | exact det_loadbK (n := 2) (j := 1) rfl rfl rfl rfl tk23)) rfl ?_ -- r1.4 outright.go:161
  refine WS.guardF rfl rfl rfl rfl (fun hg => det_callB rfl (evs_cons (ev_cond hg rfl) (evs_cons rfl evs_nil)) ent50 (fun u hu => vast_c _ _ _ u)) rfl ?_ -- r1.5 outright.go:161
  refine WS.det rfl rfl rfl (det_pick_or rfl rfl rfl) rfl ?_ -- r1.6 outright.go:161
  refine WS.det rfl rfl rfl (det_move rfl) rfl ?_ -- r1.7 outright.go:161
  refine WS.guardF rfl rfl rfl rfl (fun hg => (by first | exact det_fieldAddr rfl fo68_1 | exact det_fieldAddrS rfl fo68_1)) rfl ?_ -- r1.8 outright.go:161
  refine WS.guardF rfl rfl rfl rfl (fun hg => (by first | exact det_loadb (j := 0) (ev_cond hg rfl) rfl rfl tk24 | exact det_loadw (ev_cond hg rfl) (by assumption) rfl tk24)) rfl ?_ -- r1.9 outright.go:161
  refine WS.guardF rfl rfl rfl rfl (fun hg => (by first | exact det_lenS sl24 (ev_cond hg rfl) (by assumption) | exact det_lenS sl24 (ev_cond hg rfl) (by first | exact SlL.sp (by assumption) | exact ClS.sp (by assumption)) | exact det_lenO sl24 (ev_cond hg rfl) | exact det_lenV sl24 (ev_cond hg rfl) ⟨_, _, rfl⟩)) rfl ?_ -- r1.10 outright.go:161
  refine WS.guardF rfl rfl rfl rfl (fun hg => det_gt (ev_cond hg rfl) rfl) rfl ?_ -- r1.11 outright.go:161
  refine WS.det rfl rfl rfl (det_pick_or rfl rfl rfl) rfl ?_ -- r1.12 outright.go:161
  refine WS.done ?_
  refine QS.then_code ?_
  refine CS.cond rfl (fun hc1 => ?_) (fun hc1 => ?_) <;> (try simp only [decide_eq_true_eq, decide_eq_false_iff_not, Bool.and_eq_true, Bool.or_eq_true, Bool.and_eq_false_iff, Bool.or_eq_false_iff, Bool.not_eq_true', Bool.not_eq_false', ne_eq, Decidable.not_not, Bool.not_true, Bool.not_false, bne_iff_ne, bne_eq_false_iff_eq, beq_iff_eq, beq_eq_false_iff_ne] at hc1)
  · skip
    refine CS.seq ?_
    refine CS.region ?_
    refine WS.det rfl rfl rfl (det_callB rfl rfl ent19 (fun u hu => works_c u)) rfl ?_ -- r2.0 outright.go:162
    refine WS.det rfl rfl rfl (det_assign rfl) rfl ?_ -- r2.1 outright.go:162
    refine WS.done ?_
    refine QS.then_code ?_
    refine CS.ret ?_
    refine QS.then_ret ?_
    exact out1 rfl rfl (retBe rfl) -- ret 1
  · skip
    refine CS.skip ?_
    refine QS.then_code ?_
    refine CS.seq ?_
    refine CS.region ?_
    refine WS.det rfl rfl rfl ((by first | exact det_loadb0 (j := 1) rfl rfl tk23 | exact det_loadbN (j := 1) rfl rfl (by rfl) tk23 | exact det_loadwN rfl (by assumption) (by rfl) tk23 | exact det_loadbK (n := 2) (j := 1) rfl rfl rfl rfl tk23)) rfl ?_ -- r3.0 outright.go:164
    refine WS.det rfl rfl rfl (det_move rfl) rfl ?_ -- r3.1 outright.go:164
    refine WS.det rfl rfl rfl ((by first | exact det_fieldAddr rfl fo68_0 | exact det_fieldAddrS rfl fo68_0)) rfl ?_ -- r3.2 outright.go:164
    refine WS.det rfl rfl rfl ((by first | exact det_loadb (j := 0) rfl rfl rfl tk24 | exact det_loadw rfl (by assumption) rfl tk24)) rfl ?_ -- r3.3 outright.go:164
    refine WS.callF rfl rfl ent51 (fun u hu => Choose_c _ _ _ _ _ _ _ u (hk.st hu) (h2.st hu)) (fun _ => rfl) ?_; rintro vo ⟨uo, hvo⟩ -- r3.4 outright.go:164
    refine WS.det rfl rfl rfl (det_move rfl) rfl ?_ -- r3.5 outright.go:164
    refine WS.det rfl rfl rfl (det_extract rfl rfl) rfl ?_ -- r3.6 outright.go:164
    refine WS.det rfl rfl rfl (det_extract rfl rfl) rfl ?_ -- r3.7 outright.go:164
    refine WS.det rfl rfl rfl (det_assign rfl) rfl ?_ -- r3.8 outright.go:164
    refine WS.det rfl rfl rfl (det_assign rfl) rfl ?_ -- r3.9 outright.go:164
    refine WS.done ?_
    refine QS.then_code ?_
    refine CS.seq ?_
    refine CS.seq ?_
    refine CS.region ?_
    refine WS.det rfl rfl rfl (det_move rfl) rfl ?_ -- r4.0 outright.go:165
    refine WS.det rfl rfl rfl (det_ne rfl rfl) rfl ?_ -- r4.1 outright.go:165
    refine WS.det rfl rfl rfl (det_move rfl) rfl ?_ -- r4.2 outright.go:165
    refine WS.guardT rfl rfl rfl rfl (fun hg => det_move rfl) rfl ?_ -- r4.3 outright.go:165
    refine WS.guardT rfl rfl rfl rfl (fun hg => det_ne (ev_cond hg rfl) rfl) rfl ?_ -- r4.4 outright.go:165
    refine WS.det rfl rfl rfl (det_pick_and rfl rfl rfl) rfl ?_ -- r4.5 outright.go:165
    refine WS.done ?_
    refine QS.then_code ?_
    refine CS.cond rfl (fun hc2 => ?_) (fun hc2 => ?_) <;> (try simp only [decide_eq_true_eq, decide_eq_false_iff_not, Bool.and_eq_true, Bool.or_eq_true, Bool.and_eq_false_iff, Bool.or_eq_false_iff, Bool.not_eq_true', Bool.not_eq_false', ne_eq, Decidable.not_not, Bool.not_true, Bool.not_false, bne_iff_ne, bne_eq_false_iff_eq, beq_iff_eq, beq_eq_false_iff_ne] at hc2)
    · skip
      refine CS.seq ?_
      refine CS.region ?_
      refine WS.det rfl rfl rfl (det_callB rfl rfl ent19 (fun u hu => works_c u)) rfl ?_ -- r5.0 outright.go:166
      refine WS.det rfl rfl rfl (det_assign rfl) rfl ?_ -- r5.1 outright.go:166
      refine WS.done ?_
      refine QS.then_code ?_
      refine CS.ret ?_
      refine QS.then_ret ?_
      exact out1 rfl rfl (retBe rfl) -- ret 2
    · skip
      have hch : chE lw ls cs xs = 0 ∨ chE lw ls cs xs = 3 := by omega
      obtain ⟨hce, hx⟩ := chE_use hch
      have hcv := chE_val hce hx (by omega)
      have hXl : (if chE lw ls cs xs = 0 then ((chooseX lw ls cs xs).getD []).map Int.ofNat else []).length ≤ cs.length := by
        split
        · rw [List.length_map]
          cases hcx : chooseX lw ls cs xs with
          | none => simp
          | some r => exact (choose_sound hcx).2.2.2
        · simp
      refine CS.skip ?_
      refine QS.then_code ?_
      refine CS.seq ?_
      refine CS.seq ?_
      refine CS.region ?_
      refine WS.det rfl rfl rfl (det_move rfl) rfl ?_ -- r6.0 outright.go:168
      refine WS.det rfl rfl rfl (det_eq rfl rfl) rfl ?_ -- r6.1 outright.go:168
      refine WS.det rfl rfl rfl (det_move rfl) rfl ?_ -- r6.2 outright.go:168
      refine WS.guardT rfl rfl rfl rfl (fun hg => (by first | exact det_loadb0 (j := 2) rfl rfl tk23 | exact det_loadbN (j := 2) rfl rfl (by rfl) tk23 | exact det_loadwN rfl (by assumption) (by rfl) tk23 | exact det_loadbK (n := 2) (j := 2) rfl rfl rfl rfl tk23)) rfl ?_ -- r6.3 outright.go:168
      refine WS.guardT rfl rfl rfl rfl (fun hg => det_move rfl) rfl ?_ -- r6.4 outright.go:168
      refine WS.guardT rfl rfl rfl rfl (fun hg => det_move rfl) rfl ?_ -- r6.5 outright.go:168
      refine WS.guardT rfl rfl rfl rfl (fun hg => (by first | exact det_fieldAddr rfl fo68_0 | exact det_fieldAddrS rfl fo68_0)) rfl ?_ -- r6.6 outright.go:168
      refine WS.guardT rfl rfl rfl rfl (fun hg => (by first | exact det_loadb (j := 1) (ev_cond hg rfl) rfl rfl tk24 | exact det_loadw (ev_cond hg rfl) (by assumption) rfl tk24)) rfl ?_ -- r6.7 outright.go:168
      refine WS.guardT rfl rfl rfl rfl (fun hg => det_callB rfl (evs_cons (ev_cond hg rfl) (evs_cons (ev_cond hg rfl) (evs_cons (ev_cond hg rfl) (evs_cons (ev_cond hg rfl) evs_nil)))) ent53 (fun u hu => alone_c lw ls cs gs _ (if chE lw ls cs xs = 0 then ((chooseX lw ls cs xs).getD []).map Int.ofNat else []) vo xs _ u (hk.st hu) (hu.roI (j := 0) rfl) (h2.st hu) (by omega))) rfl ?_ -- r6.8 outright.go:168
      refine WS.guardT rfl rfl rfl rfl (fun hg => det_not (ev_cond hg rfl)) rfl ?_ -- r6.9 outright.go:168
      refine WS.det rfl rfl rfl (det_pick_and rfl rfl rfl) rfl ?_ -- r6.10 outright.go:168
      refine WS.done ?_
      refine QS.then_code ?_
      refine CS.cond rfl (fun hc3 => ?_) (fun hc3 => ?_) <;> (try simp only [decide_eq_true_eq, decide_eq_false_iff_not, Bool.and_eq_true, Bool.or_eq_true, Bool.and_eq_false_iff, Bool.or_eq_false_iff, Bool.not_eq_true', Bool.not_eq_false', ne_eq, Decidable.not_not, Bool.not_true, Bool.not_false, bne_iff_ne, bne_eq_false_iff_eq, beq_iff_eq, beq_eq_false_iff_ne] at hc3)
      · skip
        exfalso
        obtain ⟨h9, h8⟩ := hc3
        rw [h9] at hcv
        cases hcx : chooseX lw ls cs xs with
        | none => rw [hcx] at hcv; simp at hcv
        | some r => rw [if_pos h9, hcx] at h8; exact absurd ((few_alone hce hx (by omega) hcx).symm.trans h8) (by simp)
      · skip
        refine CS.skip ?_
        refine QS.then_code ?_
        refine CS.seq ?_
        refine CS.seq ?_
        refine CS.region ?_
        refine WS.det rfl rfl rfl (det_assign rfl) rfl ?_ -- r8.0 outright.go:171
        refine WS.done ?_
        refine QS.then_code ?_
        refine CS.block ?_
        refine CS.loopM (σ := Int) [6, 50, 51, 52, 53, 54, 55, 56, 57, 58, 59, 60, 61, 62, 63, 64, 65, 66, 67, 68, 69, 70, 71, 72, 73, 74, 75, 76, 77, 78, 79, 80, 81, 82, 83, 84, 85, 86, 87, 88, 89, 90, 91] (fun s => [(9, .int .i64 s)]) (fun _ => _) (fun s => 0 ≤ s ∧ s ≤ zs.length ∧ (∀ i : Int, 0 ≤ i → i < s → 0 ≤ nth zs i ∧ nth zs i < cs.length) ∧ (∀ i : Int, 0 < i → i < s → nth zs (i - 1) < nth zs i)) (fun s => (zs.length - s).toNat) 0 (fun _ _ => rfl) rfl rfl ⟨by omega, by omega, fun i _ _ => by omega, fun i _ _ => by omega⟩ ?_
        intro s t hs
        obtain ⟨hs1, hs2, hs4, hs5⟩ := hs
        refine CS.seq ?_
        refine CS.seq ?_
        refine CS.region ?_
        refine WS.det rfl rfl rfl (det_move rfl) rfl ?_ -- r9.0 outright.go:171
        refine WS.det rfl rfl rfl ((by first | exact det_fieldAddr rfl fo68_1 | exact det_fieldAddrS rfl fo68_1)) rfl ?_ -- r9.1 outright.go:171
        refine WS.det rfl rfl rfl ((by first | exact det_loadb (j := 1) rfl rfl rfl tk24 | exact det_loadw rfl (by assumption) rfl tk24)) rfl ?_ -- r9.2 outright.go:171
        refine WS.det rfl rfl rfl ((by first | exact det_lenS sl24 rfl (by assumption) | exact det_lenS sl24 rfl (by first | exact SlL.sp (by assumption) | exact ClS.sp (by assumption)) | exact det_lenO sl24 rfl | exact det_lenV sl24 rfl ⟨_, _, rfl⟩)) rfl ?_ -- r9.3 outright.go:171
        refine WS.det rfl rfl rfl (det_lt rfl rfl) rfl ?_ -- r9.4 outright.go:171
        refine WS.done ?_
        refine QS.then_code ?_
        refine CS.cond rfl (fun hc4 => ?_) (fun hc4 => ?_) <;> (try simp only [decide_eq_true_eq, decide_eq_false_iff_not, Bool.and_eq_true, Bool.or_eq_true, Bool.and_eq_false_iff, Bool.or_eq_false_iff, Bool.not_eq_true', Bool.not_eq_false', ne_eq, Decidable.not_not, Bool.not_true, Bool.not_false, bne_iff_ne, bne_eq_false_iff_eq, beq_iff_eq, beq_eq_false_iff_ne] at hc4)
        · skip
          refine CS.skip ?_
          refine QS.then_code ?_
          refine CS.seq ?_
          refine CS.block ?_
          refine CS.seq ?_
          refine CS.draw mixed (by kernel_rfl) (by kernel_rfl) ?_
          refine DS.det rfl rfl ((by first | exact det_fieldAddr rfl fo68_1 | exact det_fieldAddrS rfl fo68_1)) rfl ?_ -- r11.0 outright.go:172
          refine DS.det rfl rfl ((by first | exact det_loadb (j := 1) rfl rfl rfl tk24 | exact det_loadw rfl (by assumption) rfl tk24)) rfl ?_ -- r11.1 outright.go:172
          refine DS.det rfl rfl (det_move rfl) rfl ?_ -- r11.2 outright.go:172
          refine DS.det rfl rfl ((by first | exact det_idxI sl24 rfl rfl (by assumption) (by omega) (by omega) | exact det_idxO sl24 rfl rfl (by omega) (by omega))) rfl ?_ -- r11.3 outright.go:172
          refine DS.det rfl rfl ((by first | exact det_ldI rfl (by assumption) (by omega) tk3 | exact det_loadb (j := 0) rfl rfl rfl tk3 | exact det_loadb (j := 1) rfl rfl rfl tk3 | exact det_loadb (j := 2) rfl rfl rfl tk3 | exact det_loadb (j := 3) rfl rfl rfl tk3 | exact det_loadw rfl (by assumption) rfl tk3 | exact det_ldLI (j := 0) rfl rfl (by omega) (by omega) tk3 | exact det_ldIR (j := 0) rfl rfl (by omega) tk3)) rfl ?_ -- r11.4 outright.go:172
          refine DS.det rfl rfl (det_lt rfl rfl) rfl ?_ -- r11.5 outright.go:172
          refine DS.det rfl rfl (det_move rfl) rfl ?_ -- r11.6 outright.go:172
          refine DS.guardF rfl rfl rfl (fun hg => (by first | exact det_fieldAddr rfl fo68_1 | exact det_fieldAddrS rfl fo68_1)) rfl ?_ -- r11.7 outright.go:172
          refine DS.guardF rfl rfl rfl (fun hg => (by first | exact det_loadb (j := 1) (ev_cond hg rfl) rfl rfl tk24 | exact det_loadw (ev_cond hg rfl) (by assumption) rfl tk24)) rfl ?_ -- r11.8 outright.go:172
          refine DS.guardF rfl rfl rfl (fun hg => det_move rfl) rfl ?_ -- r11.9 outright.go:172
          refine DS.guardF rfl rfl rfl (fun hg => (by first | exact det_idxI sl24 (ev_cond hg rfl) (ev_cond hg rfl) (by assumption) (by (try simp only [decide_eq_true_eq, decide_eq_false_iff_not, Bool.and_eq_true, Bool.or_eq_true, Bool.and_eq_false_iff, Bool.or_eq_false_iff, Bool.not_eq_true', Bool.not_eq_false', ne_eq, Decidable.not_not, Bool.not_true, Bool.not_false, bne_iff_ne, bne_eq_false_iff_eq, beq_iff_eq, beq_eq_false_iff_ne] at hg); omega) (by (try simp only [decide_eq_true_eq, decide_eq_false_iff_not, Bool.and_eq_true, Bool.or_eq_true, Bool.and_eq_false_iff, Bool.or_eq_false_iff, Bool.not_eq_true', Bool.not_eq_false', ne_eq, Decidable.not_not, Bool.not_true, Bool.not_false, bne_iff_ne, bne_eq_false_iff_eq, beq_iff_eq, beq_eq_false_iff_ne] at hg); omega) | exact det_idxO sl24 (ev_cond hg rfl) (ev_cond hg rfl) (by (try simp only [decide_eq_true_eq, decide_eq_false_iff_not, Bool.and_eq_true, Bool.or_eq_true, Bool.and_eq_false_iff, Bool.or_eq_false_iff, Bool.not_eq_true', Bool.not_eq_false', ne_eq, Decidable.not_not, Bool.not_true, Bool.not_false, bne_iff_ne, bne_eq_false_iff_eq, beq_iff_eq, beq_eq_false_iff_ne] at hg); omega) (by (try simp only [decide_eq_true_eq, decide_eq_false_iff_not, Bool.and_eq_true, Bool.or_eq_true, Bool.and_eq_false_iff, Bool.or_eq_false_iff, Bool.not_eq_true', Bool.not_eq_false', ne_eq, Decidable.not_not, Bool.not_true, Bool.not_false, bne_iff_ne, bne_eq_false_iff_eq, beq_iff_eq, beq_eq_false_iff_ne] at hg); omega))) rfl ?_ -- r11.10 outright.go:172
          refine DS.guardF rfl rfl rfl (fun hg => (by first | exact det_ldI (ev_cond hg rfl) (by assumption) (by (try simp only [decide_eq_true_eq, decide_eq_false_iff_not, Bool.and_eq_true, Bool.or_eq_true, Bool.and_eq_false_iff, Bool.or_eq_false_iff, Bool.not_eq_true', Bool.not_eq_false', ne_eq, Decidable.not_not, Bool.not_true, Bool.not_false, bne_iff_ne, bne_eq_false_iff_eq, beq_iff_eq, beq_eq_false_iff_ne] at hg); omega) tk3 | exact det_loadb (j := 0) (ev_cond hg rfl) rfl rfl tk3 | exact det_loadb (j := 1) (ev_cond hg rfl) rfl rfl tk3 | exact det_loadb (j := 2) (ev_cond hg rfl) rfl rfl tk3 | exact det_loadb (j := 3) (ev_cond hg rfl) rfl rfl tk3 | exact det_loadw (ev_cond hg rfl) (by assumption) rfl tk3 | exact det_ldLI (j := 0) (ev_cond hg rfl) rfl (by (try simp only [decide_eq_true_eq, decide_eq_false_iff_not, Bool.and_eq_true, Bool.or_eq_true, Bool.and_eq_false_iff, Bool.or_eq_false_iff, Bool.not_eq_true', Bool.not_eq_false', ne_eq, Decidable.not_not, Bool.not_true, Bool.not_false, bne_iff_ne, bne_eq_false_iff_eq, beq_iff_eq, beq_eq_false_iff_ne] at hg); omega) (by (try simp only [decide_eq_true_eq, decide_eq_false_iff_not, Bool.and_eq_true, Bool.or_eq_true, Bool.and_eq_false_iff, Bool.or_eq_false_iff, Bool.not_eq_true', Bool.not_eq_false', ne_eq, Decidable.not_not, Bool.not_true, Bool.not_false, bne_iff_ne, bne_eq_false_iff_eq, beq_iff_eq, beq_eq_false_iff_ne] at hg); omega) tk3 | exact det_ldIR (j := 0) (ev_cond hg rfl) rfl (by (try simp only [decide_eq_true_eq, decide_eq_false_iff_not, Bool.and_eq_true, Bool.or_eq_true, Bool.and_eq_false_iff, Bool.or_eq_false_iff, Bool.not_eq_true', Bool.not_eq_false', ne_eq, Decidable.not_not, Bool.not_true, Bool.not_false, bne_iff_ne, bne_eq_false_iff_eq, beq_iff_eq, beq_eq_false_iff_ne] at hg); omega) tk3)) rfl ?_ -- r11.11 outright.go:172
          refine DS.guardF rfl rfl rfl (fun hg => det_move rfl) rfl ?_ -- r11.12 outright.go:172
          refine DS.guardF rfl rfl rfl (fun hg => (by first | exact det_lenS sl31 (ev_cond hg rfl) (by assumption) | exact det_lenS sl31 (ev_cond hg rfl) (by first | exact SlL.sp (by assumption) | exact ClS.sp (by assumption)) | exact det_lenO sl31 (ev_cond hg rfl) | exact det_lenV sl31 (ev_cond hg rfl) ⟨_, _, rfl⟩)) rfl ?_ -- r11.13 outright.go:172
          refine DS.guardF rfl rfl rfl (fun hg => det_ge (ev_cond hg rfl) (ev_cond hg rfl)) rfl ?_ -- r11.14 outright.go:172
          refine DS.det rfl rfl (det_pick_or rfl rfl rfl) rfl ?_ -- r11.15 outright.go:172
          refine DS.det rfl rfl (det_move rfl) rfl ?_ -- r11.16 outright.go:172
          refine DS.guardF rfl rfl rfl (fun hg => det_move rfl) rfl ?_ -- r11.17 outright.go:172
          refine DS.guardF rfl rfl rfl (fun hg => det_gt (ev_cond hg rfl) rfl) rfl ?_ -- r11.18 outright.go:172
          refine DS.guardF rfl rfl rfl (fun hg => det_move (ev_cond hg rfl)) rfl ?_ -- r11.19 outright.go:172
          refine DS.guardN rfl rfl rfl rfl (fun hg => (by first | exact det_fieldAddr rfl fo68_1 | exact det_fieldAddrS rfl fo68_1)) rfl ?_ -- r11.20 outright.go:172
          refine DS.guardN rfl rfl rfl rfl (fun hg => (by first | exact det_loadb (j := 1) (ev_cond hg rfl) rfl rfl tk24 | exact det_loadw (ev_cond hg rfl) (by assumption) rfl tk24)) rfl ?_ -- r11.21 outright.go:172
          refine DS.guardN rfl rfl rfl rfl (fun hg => det_move rfl) rfl ?_ -- r11.22 outright.go:172
          refine DS.guardN rfl rfl rfl rfl (fun hg => (by first | exact det_idxI sl24 (ev_cond hg rfl) (ev_cond hg rfl) (by assumption) (by (try simp only [decide_eq_true_eq, decide_eq_false_iff_not, Bool.and_eq_true, Bool.or_eq_true, Bool.and_eq_false_iff, Bool.or_eq_false_iff, Bool.not_eq_true', Bool.not_eq_false', ne_eq, Decidable.not_not, Bool.not_true, Bool.not_false, bne_iff_ne, bne_eq_false_iff_eq, beq_iff_eq, beq_eq_false_iff_ne] at hg); omega) (by (try simp only [decide_eq_true_eq, decide_eq_false_iff_not, Bool.and_eq_true, Bool.or_eq_true, Bool.and_eq_false_iff, Bool.or_eq_false_iff, Bool.not_eq_true', Bool.not_eq_false', ne_eq, Decidable.not_not, Bool.not_true, Bool.not_false, bne_iff_ne, bne_eq_false_iff_eq, beq_iff_eq, beq_eq_false_iff_ne] at hg); omega) | exact det_idxO sl24 (ev_cond hg rfl) (ev_cond hg rfl) (by (try simp only [decide_eq_true_eq, decide_eq_false_iff_not, Bool.and_eq_true, Bool.or_eq_true, Bool.and_eq_false_iff, Bool.or_eq_false_iff, Bool.not_eq_true', Bool.not_eq_false', ne_eq, Decidable.not_not, Bool.not_true, Bool.not_false, bne_iff_ne, bne_eq_false_iff_eq, beq_iff_eq, beq_eq_false_iff_ne] at hg); omega) (by (try simp only [decide_eq_true_eq, decide_eq_false_iff_not, Bool.and_eq_true, Bool.or_eq_true, Bool.and_eq_false_iff, Bool.or_eq_false_iff, Bool.not_eq_true', Bool.not_eq_false', ne_eq, Decidable.not_not, Bool.not_true, Bool.not_false, bne_iff_ne, bne_eq_false_iff_eq, beq_iff_eq, beq_eq_false_iff_ne] at hg); omega))) rfl ?_ -- r11.23 outright.go:172
          refine DS.guardN rfl rfl rfl rfl (fun hg => (by first | exact det_ldI (ev_cond hg rfl) (by assumption) (by (try simp only [decide_eq_true_eq, decide_eq_false_iff_not, Bool.and_eq_true, Bool.or_eq_true, Bool.and_eq_false_iff, Bool.or_eq_false_iff, Bool.not_eq_true', Bool.not_eq_false', ne_eq, Decidable.not_not, Bool.not_true, Bool.not_false, bne_iff_ne, bne_eq_false_iff_eq, beq_iff_eq, beq_eq_false_iff_ne] at hg); omega) tk3 | exact det_loadb (j := 0) (ev_cond hg rfl) rfl rfl tk3 | exact det_loadb (j := 1) (ev_cond hg rfl) rfl rfl tk3 | exact det_loadb (j := 2) (ev_cond hg rfl) rfl rfl tk3 | exact det_loadb (j := 3) (ev_cond hg rfl) rfl rfl tk3 | exact det_loadw (ev_cond hg rfl) (by assumption) rfl tk3 | exact det_ldLI (j := 0) (ev_cond hg rfl) rfl (by (try simp only [decide_eq_true_eq, decide_eq_false_iff_not, Bool.and_eq_true, Bool.or_eq_true, Bool.and_eq_false_iff, Bool.or_eq_false_iff, Bool.not_eq_true', Bool.not_eq_false', ne_eq, Decidable.not_not, Bool.not_true, Bool.not_false, bne_iff_ne, bne_eq_false_iff_eq, beq_iff_eq, beq_eq_false_iff_ne] at hg); omega) (by (try simp only [decide_eq_true_eq, decide_eq_false_iff_not, Bool.and_eq_true, Bool.or_eq_true, Bool.and_eq_false_iff, Bool.or_eq_false_iff, Bool.not_eq_true', Bool.not_eq_false', ne_eq, Decidable.not_not, Bool.not_true, Bool.not_false, bne_iff_ne, bne_eq_false_iff_eq, beq_iff_eq, beq_eq_false_iff_ne] at hg); omega) tk3 | exact det_ldIR (j := 0) (ev_cond hg rfl) rfl (by (try simp only [decide_eq_true_eq, decide_eq_false_iff_not, Bool.and_eq_true, Bool.or_eq_true, Bool.and_eq_false_iff, Bool.or_eq_false_iff, Bool.not_eq_true', Bool.not_eq_false', ne_eq, Decidable.not_not, Bool.not_true, Bool.not_false, bne_iff_ne, bne_eq_false_iff_eq, beq_iff_eq, beq_eq_false_iff_ne] at hg); omega) tk3)) rfl ?_ -- r11.24 outright.go:172
          refine DS.guardN rfl rfl rfl rfl (fun hg => (by first | exact det_fieldAddr rfl fo68_1 | exact det_fieldAddrS rfl fo68_1)) rfl ?_ -- r11.25 outright.go:172
          refine DS.guardN rfl rfl rfl rfl (fun hg => (by first | exact det_loadb (j := 1) (ev_cond hg rfl) rfl rfl tk24 | exact det_loadw (ev_cond hg rfl) (by assumption) rfl tk24)) rfl ?_ -- r11.26 outright.go:172
          refine DS.guardN rfl rfl rfl rfl (fun hg => det_move rfl) rfl ?_ -- r11.27 outright.go:172
          refine DS.guardN rfl rfl rfl rfl (fun hg => det_sub (ev_cond hg rfl) rfl (by (try simp only [decide_eq_true_eq, decide_eq_false_iff_not, Bool.and_eq_true, Bool.or_eq_true, Bool.and_eq_false_iff, Bool.or_eq_false_iff, Bool.not_eq_true', Bool.not_eq_false', ne_eq, Decidable.not_not, Bool.not_true, Bool.not_false, bne_iff_ne, bne_eq_false_iff_eq, beq_iff_eq, beq_eq_false_iff_ne] at hg); omega)) rfl ?_ -- r11.28 outright.go:172
          refine DS.guardN rfl rfl rfl rfl (fun hg => (by first | exact det_idxI sl24 (ev_cond hg rfl) (ev_cond hg rfl) (by assumption) (by (try simp only [decide_eq_true_eq, decide_eq_false_iff_not, Bool.and_eq_true, Bool.or_eq_true, Bool.and_eq_false_iff, Bool.or_eq_false_iff, Bool.not_eq_true', Bool.not_eq_false', ne_eq, Decidable.not_not, Bool.not_true, Bool.not_false, bne_iff_ne, bne_eq_false_iff_eq, beq_iff_eq, beq_eq_false_iff_ne] at hg); omega) (by (try simp only [decide_eq_true_eq, decide_eq_false_iff_not, Bool.and_eq_true, Bool.or_eq_true, Bool.and_eq_false_iff, Bool.or_eq_false_iff, Bool.not_eq_true', Bool.not_eq_false', ne_eq, Decidable.not_not, Bool.not_true, Bool.not_false, bne_iff_ne, bne_eq_false_iff_eq, beq_iff_eq, beq_eq_false_iff_ne] at hg); omega) | exact det_idxO sl24 (ev_cond hg rfl) (ev_cond hg rfl) (by (try simp only [decide_eq_true_eq, decide_eq_false_iff_not, Bool.and_eq_true, Bool.or_eq_true, Bool.and_eq_false_iff, Bool.or_eq_false_iff, Bool.not_eq_true', Bool.not_eq_false', ne_eq, Decidable.not_not, Bool.not_true, Bool.not_false, bne_iff_ne, bne_eq_false_iff_eq, beq_iff_eq, beq_eq_false_iff_ne] at hg); omega) (by (try simp only [decide_eq_true_eq, decide_eq_false_iff_not, Bool.and_eq_true, Bool.or_eq_true, Bool.and_eq_false_iff, Bool.or_eq_false_iff, Bool.not_eq_true', Bool.not_eq_false', ne_eq, Decidable.not_not, Bool.not_true, Bool.not_false, bne_iff_ne, bne_eq_false_iff_eq, beq_iff_eq, beq_eq_false_iff_ne] at hg); omega))) rfl ?_ -- r11.29 outright.go:172
          refine DS.guardN rfl rfl rfl rfl (fun hg => (by first | exact det_ldI (ev_cond hg rfl) (by assumption) (by (try simp only [decide_eq_true_eq, decide_eq_false_iff_not, Bool.and_eq_true, Bool.or_eq_true, Bool.and_eq_false_iff, Bool.or_eq_false_iff, Bool.not_eq_true', Bool.not_eq_false', ne_eq, Decidable.not_not, Bool.not_true, Bool.not_false, bne_iff_ne, bne_eq_false_iff_eq, beq_iff_eq, beq_eq_false_iff_ne] at hg); omega) tk3 | exact det_loadb (j := 0) (ev_cond hg rfl) rfl rfl tk3 | exact det_loadb (j := 1) (ev_cond hg rfl) rfl rfl tk3 | exact det_loadb (j := 2) (ev_cond hg rfl) rfl rfl tk3 | exact det_loadb (j := 3) (ev_cond hg rfl) rfl rfl tk3 | exact det_loadw (ev_cond hg rfl) (by assumption) rfl tk3 | exact det_ldLI (j := 0) (ev_cond hg rfl) rfl (by (try simp only [decide_eq_true_eq, decide_eq_false_iff_not, Bool.and_eq_true, Bool.or_eq_true, Bool.and_eq_false_iff, Bool.or_eq_false_iff, Bool.not_eq_true', Bool.not_eq_false', ne_eq, Decidable.not_not, Bool.not_true, Bool.not_false, bne_iff_ne, bne_eq_false_iff_eq, beq_iff_eq, beq_eq_false_iff_ne] at hg); omega) (by (try simp only [decide_eq_true_eq, decide_eq_false_iff_not, Bool.and_eq_true, Bool.or_eq_true, Bool.and_eq_false_iff, Bool.or_eq_false_iff, Bool.not_eq_true', Bool.not_eq_false', ne_eq, Decidable.not_not, Bool.not_true, Bool.not_false, bne_iff_ne, bne_eq_false_iff_eq, beq_iff_eq, beq_eq_false_iff_ne] at hg); omega) tk3 | exact det_ldIR (j := 0) (ev_cond hg rfl) rfl (by (try simp only [decide_eq_true_eq, decide_eq_false_iff_not, Bool.and_eq_true, Bool.or_eq_true, Bool.and_eq_false_iff, Bool.or_eq_false_iff, Bool.not_eq_true', Bool.not_eq_false', ne_eq, Decidable.not_not, Bool.not_true, Bool.not_false, bne_iff_ne, bne_eq_false_iff_eq, beq_iff_eq, beq_eq_false_iff_ne] at hg); omega) tk3)) rfl ?_ -- r11.30 outright.go:172
          refine DS.guardN rfl rfl rfl rfl (fun hg => det_le (ev_cond hg rfl) (ev_cond hg rfl)) rfl ?_ -- r11.31 outright.go:172
          refine DS.guardF rfl rfl rfl (fun hg => det_pick_and (ev_cond hg rfl) (ev_nestT hg rfl) rfl) rfl ?_ -- r11.32 outright.go:172
          refine DS.det rfl rfl (det_pick_or rfl rfl rfl) rfl ?_ -- r11.33 outright.go:172
          refine DS.done ?_
          refine QS.then_code ?_
          refine CS.cond rfl (fun hc5 => ?_) (fun hc5 => ?_) <;> (try simp only [decide_eq_true_eq, decide_eq_false_iff_not, Bool.and_eq_true, Bool.or_eq_true, Bool.and_eq_false_iff, Bool.or_eq_false_iff, Bool.not_eq_true', Bool.not_eq_false', ne_eq, Decidable.not_not, Bool.not_true, Bool.not_false, bne_iff_ne, bne_eq_false_iff_eq, beq_iff_eq, beq_eq_false_iff_ne] at hc5)
          · skip
            refine CS.seq ?_
            refine CS.region ?_
            refine WS.det rfl rfl rfl (det_callB rfl rfl ent19 (fun u hu => works_c u)) rfl ?_ -- r12.0 outright.go:173
            refine WS.det rfl rfl rfl (det_assign rfl) rfl ?_ -- r12.1 outright.go:173
            refine WS.done ?_
            refine QS.then_code ?_
            refine CS.ret ?_
            refine QS.block_ret ?_
            refine QS.then_ret ?_
            refine QS.then_ret ?_
            refine QS.block_ret ?_
            refine QS.then_ret ?_
            exact out1 rfl rfl (retBe rfl) -- ret 3
          · skip
            have hs3 : s < zs.length := by omega
            have hin : 0 ≤ nth zs s ∧ nth zs s < cs.length := by omega
            have hic : 0 < s → nth zs (s - 1) < nth zs s := by omega
            refine CS.skip ?_
            refine QS.block_normal ?_
            refine QS.then_code ?_
            refine CS.region ?_
            refine WS.det rfl rfl rfl (det_move rfl) rfl ?_ -- r10.0 outright.go:171
            refine WS.det rfl rfl rfl (det_add rfl rfl (by omega)) rfl ?_ -- r10.1 outright.go:171
            refine WS.det rfl rfl rfl (det_assign rfl) rfl ?_ -- r10.2 outright.go:171
            refine WS.done ?_
            exact QS.head (s + 1) rfl rfl ⟨⟨by omega, by omega, fun i h0 h9 => by
                  rcases (show i < s ∨ i = s by omega) with h | h
                  · exact hs4 i h0 h
                  · rw [h]; exact hin, fun i h0 h9 => by
                  rcases (show i < s ∨ i = s by omega) with h | h
                  · exact hs5 i h0 h
                  · rw [h]; exact hic (by omega)⟩, by omega⟩
        · skip
          refine CS.leave ?_
          refine QS.then_exit ?_
          refine QS.then_exit ?_
          refine QS.block_exit ?_
          refine QS.then_code ?_
          refine CS.seq ?_
          refine CS.seq ?_
          refine CS.region ?_
          refine WS.det rfl rfl rfl ((by first | exact det_loadb0 (j := 2) rfl rfl tk23 | exact det_loadbN (j := 2) rfl rfl (by rfl) tk23 | exact det_loadwN rfl (by assumption) (by rfl) tk23 | exact det_loadbK (n := 2) (j := 2) rfl rfl rfl rfl tk23)) rfl ?_ -- r13.0 outright.go:176
          refine WS.det rfl rfl rfl (det_move rfl) rfl ?_ -- r13.1 outright.go:176
          refine WS.det rfl rfl rfl ((by first | exact det_fieldAddr rfl fo68_1 | exact det_fieldAddrS rfl fo68_1)) rfl ?_ -- r13.2 outright.go:176
          refine WS.det rfl rfl rfl ((by first | exact det_loadb (j := 1) rfl rfl rfl tk24 | exact det_loadw rfl (by assumption) rfl tk24)) rfl ?_ -- r13.3 outright.go:176
          refine WS.det rfl rfl rfl ((by first | exact det_fieldAddr rfl fo68_0 | exact det_fieldAddrS rfl fo68_0)) rfl ?_ -- r13.4 outright.go:176
          refine WS.det rfl rfl rfl ((by first | exact det_loadb (j := 1) rfl rfl rfl tk24 | exact det_loadw rfl (by assumption) rfl tk24)) rfl ?_ -- r13.5 outright.go:176
          refine WS.det rfl rfl rfl (det_callB rfl rfl ent53 (fun u hu => alone_c lw ls cs gs _ zs _ xs _ u (hk.st hu) (h1.st hu) (h2.st hu) (by omega))) rfl ?_ -- r13.6 outright.go:176
          refine WS.det rfl rfl rfl (det_not rfl) rfl ?_ -- r13.7 outright.go:176
          refine WS.done ?_
          refine QS.then_code ?_
          refine CS.cond rfl (fun hc6 => ?_) (fun hc6 => ?_) <;> (try simp only [decide_eq_true_eq, decide_eq_false_iff_not, Bool.and_eq_true, Bool.or_eq_true, Bool.and_eq_false_iff, Bool.or_eq_false_iff, Bool.not_eq_true', Bool.not_eq_false', ne_eq, Decidable.not_not, Bool.not_true, Bool.not_false, bne_iff_ne, bne_eq_false_iff_eq, beq_iff_eq, beq_eq_false_iff_ne] at hc6)
          · skip
            refine CS.seq ?_
            refine CS.region ?_
            refine WS.det rfl rfl rfl (det_callB rfl rfl ent19 (fun u hu => works_c u)) rfl ?_ -- r14.0 outright.go:177
            refine WS.det rfl rfl rfl (det_assign rfl) rfl ?_ -- r14.1 outright.go:177
            refine WS.done ?_
            refine QS.then_code ?_
            refine CS.ret ?_
            refine QS.then_ret ?_
            exact out1 rfl rfl (retBe rfl) -- ret 4
          · skip
            obtain ⟨r, hr1, hr2, hr3⟩ := few_best hce hx (by omega) (fun i h0 h1 => hs5 i h0 (by omega)) hc6
            have hche : chE lw ls cs xs = 0 := by rw [hcv, hr1]; rfl
            have hX : (if chE lw ls cs xs = 0 then ((chooseX lw ls cs xs).getD []).map Int.ofNat else []) = r.map Int.ofNat := by rw [if_pos hche, hr1]; rfl
            refine CS.skip ?_
            refine QS.then_code ?_
            refine CS.seq ?_
            refine CS.region ?_
            refine WS.det rfl rfl rfl (det_move rfl) rfl ?_ -- r15.0 outright.go:179
            refine WS.det rfl rfl rfl (det_eq rfl rfl) rfl ?_ -- r15.1 outright.go:179
            refine WS.det rfl rfl rfl (det_move rfl) rfl ?_ -- r15.2 outright.go:179
            refine WS.guardT rfl rfl rfl rfl (fun hg => det_move rfl) rfl ?_ -- r15.3 outright.go:179
            refine WS.guardT rfl rfl rfl rfl (fun hg => (by first | exact det_lenS sl24 (ev_cond hg rfl) (by assumption) | exact det_lenS sl24 (ev_cond hg rfl) (by first | exact SlL.sp (by assumption) | exact ClS.sp (by assumption)) | exact det_lenO sl24 (ev_cond hg rfl) | exact det_lenV sl24 (ev_cond hg rfl) ⟨_, _, rfl⟩)) rfl ?_ -- r15.4 outright.go:179
            refine WS.guardT rfl rfl rfl rfl (fun hg => (by first | exact det_fieldAddr rfl fo68_1 | exact det_fieldAddrS rfl fo68_1)) rfl ?_ -- r15.5 outright.go:179
            refine WS.guardT rfl rfl rfl rfl (fun hg => (by first | exact det_loadb (j := 1) (ev_cond hg rfl) rfl rfl tk24 | exact det_loadw (ev_cond hg rfl) (by assumption) rfl tk24)) rfl ?_ -- r15.6 outright.go:179
            refine WS.guardT rfl rfl rfl rfl (fun hg => (by first | exact det_lenS sl24 (ev_cond hg rfl) (by assumption) | exact det_lenS sl24 (ev_cond hg rfl) (by first | exact SlL.sp (by assumption) | exact ClS.sp (by assumption)) | exact det_lenO sl24 (ev_cond hg rfl) | exact det_lenV sl24 (ev_cond hg rfl) ⟨_, _, rfl⟩)) rfl ?_ -- r15.7 outright.go:179
            refine WS.guardT rfl rfl rfl rfl (fun hg => det_le (ev_cond hg rfl) (ev_cond hg rfl)) rfl ?_ -- r15.8 outright.go:179
            refine WS.det rfl rfl rfl (det_pick_and rfl rfl rfl) rfl ?_ -- r15.9 outright.go:179
            refine WS.det rfl rfl rfl (det_move rfl) rfl ?_ -- r15.10 outright.go:179
            refine WS.guardT rfl rfl rfl rfl (fun hg => det_move rfl) rfl ?_ -- r15.11 outright.go:179
            refine WS.guardT rfl rfl rfl rfl (fun hg => (by first | exact det_lenS sl24 (ev_cond hg rfl) (by assumption) | exact det_lenS sl24 (ev_cond hg rfl) (by first | exact SlL.sp (by assumption) | exact ClS.sp (by assumption)) | exact det_lenO sl24 (ev_cond hg rfl) | exact det_lenV sl24 (ev_cond hg rfl) ⟨_, _, rfl⟩)) rfl ?_ -- r15.12 outright.go:179
            refine WS.guardT rfl rfl rfl rfl (fun hg => (by first | exact det_fieldAddr rfl fo68_1 | exact det_fieldAddrS rfl fo68_1)) rfl ?_ -- r15.13 outright.go:179
            refine WS.guardT rfl rfl rfl rfl (fun hg => (by first | exact det_loadb (j := 1) (ev_cond hg rfl) rfl rfl tk24 | exact det_loadw (ev_cond hg rfl) (by assumption) rfl tk24)) rfl ?_ -- r15.14 outright.go:179
            refine WS.guardT rfl rfl rfl rfl (fun hg => (by first | exact det_lenS sl24 (ev_cond hg rfl) (by assumption) | exact det_lenS sl24 (ev_cond hg rfl) (by first | exact SlL.sp (by assumption) | exact ClS.sp (by assumption)) | exact det_lenO sl24 (ev_cond hg rfl) | exact det_lenV sl24 (ev_cond hg rfl) ⟨_, _, rfl⟩)) rfl ?_ -- r15.15 outright.go:179
            refine WS.guardT rfl rfl rfl rfl (fun hg => det_eq (ev_cond hg rfl) (ev_cond hg rfl)) rfl ?_ -- r15.16 outright.go:179
            refine WS.guardT rfl rfl rfl rfl (fun hg => det_move (ev_cond hg rfl)) rfl ?_ -- r15.17 outright.go:179
            refine WS.guardN rfl rfl rfl rfl rfl (fun hg => (by first | exact det_fieldAddr rfl fo68_1 | exact det_fieldAddrS rfl fo68_1)) rfl ?_ -- r15.18 outright.go:179
            refine WS.guardN rfl rfl rfl rfl rfl (fun hg => (by first | exact det_loadb (j := 1) (ev_cond hg rfl) rfl rfl tk24 | exact det_loadw (ev_cond hg rfl) (by assumption) rfl tk24)) rfl ?_ -- r15.19 outright.go:179
            refine WS.guardN rfl rfl rfl rfl rfl (fun hg => det_move rfl) rfl ?_ -- r15.20 outright.go:179
            refine WS.guardN rfl rfl rfl rfl rfl (fun hg => det_callB rfl (evs_cons (ev_cond hg rfl) (evs_cons (ev_cond hg rfl) evs_nil)) ent36 (fun u hu => before_c _ _ _ _ u (h1.st hu) (hu.roI (j := 0) rfl))) rfl ?_ -- r15.21 outright.go:179
            refine WS.guardT rfl rfl rfl rfl (fun hg => det_pick_and (ev_cond hg rfl) (ev_nestT hg rfl) rfl) rfl ?_ -- r15.22 outright.go:179
            refine WS.guardT rfl rfl rfl rfl (fun hg => det_not (ev_cond hg rfl)) rfl ?_ -- r15.23 outright.go:179
            refine WS.det rfl rfl rfl (det_pick_and rfl rfl rfl) rfl ?_ -- r15.24 outright.go:179
            refine WS.det rfl rfl rfl (det_move rfl) rfl ?_ -- r15.25 outright.go:179
            refine WS.guardT rfl rfl rfl rfl (fun hg => det_callB rfl rfl ent19 (fun u hu => works_c u)) rfl ?_ -- r15.26 outright.go:179
            refine WS.det rfl rfl rfl (det_pick_and rfl rfl rfl) rfl ?_ -- r15.27 outright.go:179
            refine WS.det rfl rfl rfl (det_assign rfl) rfl ?_ -- r15.28 outright.go:179
            refine WS.done ?_
            refine QS.then_code ?_
            refine CS.ret ?_
            exact out1 rfl rfl (retBe (by
                  simp only [hX, hche]
                  simp [hr1] at hr2 hr3 ⊢
                  exact ⟨hr2, by
                    by_cases h9 : r.length = zs.length
                    · exact .inr (hr3 h9)
                    · exact .inl (by omega)⟩)) -- ret 5

end Go.Proofs.Ytldagbcceefcdaa
