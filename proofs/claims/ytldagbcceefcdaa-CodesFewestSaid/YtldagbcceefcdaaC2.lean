/- Contracts of functions, printed by a program of the prover (gen.py). -/
import Derived.Test.YtldagbcceefcdaaC1
namespace Go.Proofs.Ytldagbcceefcdaa
open Go.RowKit Go.Proofs
set_option maxRecDepth 100000
set_option linter.unusedVariables false
set_option linter.unusedSimpArgs false

theorem Ranswer_c (xs ys : List Int) (v1 v2 : Value) (w : World) (h1 : SlI w v1 xs) (h2 : SlI w v2 ys) (hl : xs.length = ys.length) (hm : xs.length ≤ 4) :
    Calls Try.prog 56 #[v1, v2] w (RetB w (.tuple #[.int .i64 (rightN xs ys), .int .i64 (commonN xs ys 10 - rightN xs ys)])) := by
  refine enter Try.func56 rfl rfl (Nat.le_of_ble_eq_true rfl) ?_
  refine CS.seq ?_
  refine CS.region ?_
  refine WS.det rfl rfl rfl (det_assign rfl) rfl ?_ -- r0.0 ref.go:135
  refine WS.det rfl rfl rfl (det_assign rfl) rfl ?_ -- r0.1 ref.go:135
  refine WS.done ?_
  refine QS.then_code ?_
  refine CS.seq ?_
  refine CS.region ?_
  refine WS.det rfl rfl rfl (det_assign rfl) rfl ?_ -- r1.0 ref.go:136
  refine WS.det rfl rfl rfl (det_assign rfl) rfl ?_ -- r1.1 ref.go:136
  refine WS.done ?_
  refine QS.then_code ?_
  refine CS.seq ?_
  refine CS.seq ?_
  refine CS.region ?_
  refine WS.det rfl rfl rfl (det_assign rfl) rfl ?_ -- r2.0 ref.go:137
  refine WS.done ?_
  refine QS.then_code ?_
  refine CS.block ?_
  refine CS.loopM (σ := Int × Int) [10, 11, 12, 13, 14, 15, 16, 17, 18, 19, 20, 21, 22, 23, 24, 25, 26] (fun s => [(6, .int .i64 s.2), (8, .int .i64 s.1)]) (fun _ => _) (fun s => 0 ≤ s.1 ∧ s.1 ≤ xs.length ∧ s.2 = rightN (xs.take s.1.toNat) (ys.take s.1.toNat)) (fun s => (xs.length - s.1).toNat) (0, 0) (fun _ _ => rfl) rfl rfl ⟨by simp, by simp, by simp [rightN]⟩ ?_
  intro s t hs
  obtain ⟨hs1, hs2, hs3⟩ := hs
  have hbd := rightN_le (xs.take s.1.toNat) (ys.take s.1.toNat)
  have hlt := List.length_take_le s.1.toNat xs
  refine CS.seq ?_
  refine CS.seq ?_
  refine CS.region ?_
  refine WS.det rfl rfl rfl (det_move rfl) rfl ?_ -- r3.0 ref.go:137
  refine WS.det rfl rfl rfl (det_move rfl) rfl ?_ -- r3.1 ref.go:137
  refine WS.det rfl rfl rfl ((by first | exact det_lenS sl24 rfl (by assumption) | exact det_lenS sl24 rfl (by first | exact SlL.sp (by assumption) | exact ClS.sp (by assumption)) | exact det_lenO sl24 rfl | exact det_lenV sl24 rfl ⟨_, _, rfl⟩)) rfl ?_ -- r3.2 ref.go:137
  refine WS.det rfl rfl rfl (det_lt rfl rfl) rfl ?_ -- r3.3 ref.go:137
  refine WS.done ?_
  refine QS.then_code ?_
  refine CS.cond rfl (fun hc1 => ?_) (fun hc1 => ?_) <;> (try simp only [decide_eq_true_eq, decide_eq_false_iff_not, Bool.and_eq_true, Bool.or_eq_true, Bool.and_eq_false_iff, Bool.or_eq_false_iff, Bool.not_eq_true', Bool.not_eq_false', ne_eq, Decidable.not_not, Bool.not_true, Bool.not_false, bne_iff_ne, bne_eq_false_iff_eq, beq_iff_eq, beq_eq_false_iff_ne] at hc1)
  · skip
    refine CS.skip ?_
    refine QS.then_code ?_
    refine CS.seq ?_
    refine CS.block ?_
    refine CS.seq ?_
    refine CS.draw mixed (by kernel_rfl) (by kernel_rfl) ?_
    refine DS.det rfl rfl (det_move rfl) rfl ?_ -- r5.0 ref.go:138
    refine DS.det rfl rfl (det_move rfl) rfl ?_ -- r5.1 ref.go:138
    refine DS.det rfl rfl ((by first | exact det_idxI sl24 rfl rfl (by assumption) (by omega) (by omega) | exact det_idxO sl24 rfl rfl (by omega) (by omega))) rfl ?_ -- r5.2 ref.go:138
    refine DS.det rfl rfl ((by first | exact det_ldI rfl (by assumption) (by omega) tk3 | exact det_loadb (j := 0) rfl rfl rfl tk3 | exact det_loadb (j := 1) rfl rfl rfl tk3 | exact det_loadb (j := 2) rfl rfl rfl tk3 | exact det_loadb (j := 3) rfl rfl rfl tk3 | exact det_loadw rfl (by assumption) rfl tk3)) rfl ?_ -- r5.3 ref.go:138
    refine DS.det rfl rfl (det_move rfl) rfl ?_ -- r5.4 ref.go:138
    refine DS.det rfl rfl (det_move rfl) rfl ?_ -- r5.5 ref.go:138
    refine DS.det rfl rfl ((by first | exact det_idxI sl24 rfl rfl (by assumption) (by omega) (by omega) | exact det_idxO sl24 rfl rfl (by omega) (by omega))) rfl ?_ -- r5.6 ref.go:138
    refine DS.det rfl rfl ((by first | exact det_ldI rfl (by assumption) (by omega) tk3 | exact det_loadb (j := 0) rfl rfl rfl tk3 | exact det_loadb (j := 1) rfl rfl rfl tk3 | exact det_loadb (j := 2) rfl rfl rfl tk3 | exact det_loadb (j := 3) rfl rfl rfl tk3 | exact det_loadw rfl (by assumption) rfl tk3)) rfl ?_ -- r5.7 ref.go:138
    refine DS.det rfl rfl (det_eq rfl rfl) rfl ?_ -- r5.8 ref.go:138
    refine DS.done ?_
    refine QS.then_code ?_
    refine CS.cond rfl (fun hc2 => ?_) (fun hc2 => ?_) <;> (try simp only [decide_eq_true_eq, decide_eq_false_iff_not, Bool.and_eq_true, Bool.or_eq_true, Bool.and_eq_false_iff, Bool.or_eq_false_iff, Bool.not_eq_true', Bool.not_eq_false', ne_eq, Decidable.not_not, Bool.not_true, Bool.not_false, bne_iff_ne, bne_eq_false_iff_eq, beq_iff_eq, beq_eq_false_iff_ne] at hc2)
    · skip
      refine CS.region ?_
      refine WS.det rfl rfl rfl (det_move rfl) rfl ?_ -- r6.0 ref.go:139
      refine WS.det rfl rfl rfl (det_add rfl rfl (by omega)) rfl ?_ -- r6.1 ref.go:139
      refine WS.det rfl rfl rfl (det_assign rfl) rfl ?_ -- r6.2 ref.go:139
      refine WS.done ?_
      refine QS.block_normal ?_
      refine QS.then_code ?_
      refine CS.region ?_
      refine WS.det rfl rfl rfl (det_move rfl) rfl ?_ -- r4.0 ref.go:137
      refine WS.det rfl rfl rfl (det_add rfl rfl (by omega)) rfl ?_ -- r4.1 ref.go:137
      refine WS.det rfl rfl rfl (det_assign rfl) rfl ?_ -- r4.2 ref.go:137
      refine WS.done ?_
      exact QS.head ((s.1 + 1, s.2 + 1)) rfl rfl ⟨⟨by simp; omega, by simp; omega, by simp only; rw [rightN_take xs ys hl hs1 (by omega), hs3]; simp [hc2]⟩, by simp; omega⟩
    · skip
      refine CS.skip ?_
      refine QS.block_normal ?_
      refine QS.then_code ?_
      refine CS.region ?_
      refine WS.det rfl rfl rfl (det_move rfl) rfl ?_ -- r4.0 ref.go:137
      refine WS.det rfl rfl rfl (det_add rfl rfl (by omega)) rfl ?_ -- r4.1 ref.go:137
      refine WS.det rfl rfl rfl (det_assign rfl) rfl ?_ -- r4.2 ref.go:137
      refine WS.done ?_
      exact QS.head ((s.1 + 1, s.2)) rfl rfl ⟨⟨by simp; omega, by simp; omega, by simp only; rw [rightN_take xs ys hl hs1 (by omega), hs3]; simp [hc2]⟩, by simp; omega⟩
  · skip
    have e1 := take_all xs (i := s.1) (by omega)
    have e2 := take_all ys (i := s.1) (by omega)
    rw [e1, e2] at hs3
    have hb3 := rightN_le xs ys
    have hb4 := commonN_bd xs ys 10
    refine CS.leave ?_
    refine QS.then_exit ?_
    refine QS.then_exit ?_
    refine QS.block_exit ?_
    refine QS.then_code ?_
    refine CS.seq ?_
    refine CS.seq ?_
    refine CS.region ?_
    refine WS.det rfl rfl rfl (det_assign rfl) rfl ?_ -- r7.0 ref.go:142
    refine WS.done ?_
    refine QS.then_code ?_
    refine CS.block ?_
    refine CS.loopM (σ := Int × Int) [27, 28, 29, 30, 31, 32, 33, 34, 35, 36, 37, 38, 39] (fun s => [(7, .int .i64 s.2), (9, .int .i64 s.1)]) (fun _ => _) (fun s => 0 ≤ s.1 ∧ s.1 ≤ 10 ∧ s.2 = commonN xs ys s.1.toNat) (fun s => (10 - s.1).toNat) (0, 0) (fun _ _ => rfl) rfl rfl ⟨by simp, by simp, by simp [commonN]⟩ ?_
    intro r t hs
    obtain ⟨ks1, ks2, ks3⟩ := hs
    have kbd := commonN_bd xs ys r.1.toNat
    have kb2 : ((r.1.toNat : Nat) : Int) * (xs.length : Int) ≤ 10 * 4 := Int.mul_le_mul (by omega) (by omega) (by omega) (by omega)
    have kc1 := cnt_le xs r.1
    have kc2 := cnt_le ys r.1
    refine CS.seq ?_
    refine CS.seq ?_
    refine CS.region ?_
    refine WS.det rfl rfl rfl (det_move rfl) rfl ?_ -- r8.0 ref.go:142
    refine WS.det rfl rfl rfl (det_lt rfl rfl) rfl ?_ -- r8.1 ref.go:142
    refine WS.done ?_
    refine QS.then_code ?_
    refine CS.cond rfl (fun hc3 => ?_) (fun hc3 => ?_) <;> (try simp only [decide_eq_true_eq, decide_eq_false_iff_not, Bool.and_eq_true, Bool.or_eq_true, Bool.and_eq_false_iff, Bool.or_eq_false_iff, Bool.not_eq_true', Bool.not_eq_false', ne_eq, Decidable.not_not, Bool.not_true, Bool.not_false, bne_iff_ne, bne_eq_false_iff_eq, beq_iff_eq, beq_eq_false_iff_ne] at hc3)
    · skip
      refine CS.skip ?_
      refine QS.then_code ?_
      refine CS.seq ?_
      refine CS.block ?_
      refine CS.region ?_
      refine WS.det rfl rfl rfl (det_move rfl) rfl ?_ -- r10.0 ref.go:143
      refine WS.det rfl rfl rfl (det_move rfl) rfl ?_ -- r10.1 ref.go:143
      refine WS.det rfl rfl rfl (det_move rfl) rfl ?_ -- r10.2 ref.go:143
      refine WS.det rfl rfl rfl (det_callB rfl rfl ent83 (fun u hu => shown_c _ _ _ u (h1.st hu))) rfl ?_ -- r10.3 ref.go:143
      refine WS.det rfl rfl rfl (det_move rfl) rfl ?_ -- r10.4 ref.go:143
      refine WS.det rfl rfl rfl (det_move rfl) rfl ?_ -- r10.5 ref.go:143
      refine WS.det rfl rfl rfl (det_callB rfl rfl ent83 (fun u hu => shown_c _ _ _ u (h2.st hu))) rfl ?_ -- r10.6 ref.go:143
      refine WS.det rfl rfl rfl (det_min rfl rfl) rfl ?_ -- r10.7 ref.go:143
      refine WS.det rfl rfl rfl (det_add rfl rfl (by omega)) rfl ?_ -- r10.8 ref.go:143
      refine WS.det rfl rfl rfl (det_assign rfl) rfl ?_ -- r10.9 ref.go:143
      refine WS.done ?_
      refine QS.block_normal ?_
      refine QS.then_code ?_
      refine CS.region ?_
      refine WS.det rfl rfl rfl (det_move rfl) rfl ?_ -- r9.0 ref.go:142
      refine WS.det rfl rfl rfl (det_add rfl rfl (by omega)) rfl ?_ -- r9.1 ref.go:142
      refine WS.det rfl rfl rfl (det_assign rfl) rfl ?_ -- r9.2 ref.go:142
      refine WS.done ?_
      exact QS.head ((r.1 + 1, r.2 + min (cnt xs r.1) (cnt ys r.1))) rfl rfl ⟨⟨by simp; omega, by simp; omega, by have e : (r.1 + 1).toNat = r.1.toNat + 1 := (by omega); have e2 : ((r.1.toNat : Nat) : Int) = r.1 := (by omega); simp only [e, commonN, e2, ks3]⟩, by simp; omega⟩
    · skip
      have e3 : r.1 = 10 := by omega
      rw [e3] at ks3
      have ks4 : r.2 = commonN xs ys 10 := ks3
      refine CS.leave ?_
      refine QS.then_exit ?_
      refine QS.then_exit ?_
      refine QS.block_exit ?_
      refine QS.then_code ?_
      refine CS.seq ?_
      refine CS.region ?_
      refine WS.det rfl rfl rfl (det_move rfl) rfl ?_ -- r11.0 ref.go:145
      refine WS.det rfl rfl rfl (det_move rfl) rfl ?_ -- r11.1 ref.go:145
      refine WS.det rfl rfl rfl (det_move rfl) rfl ?_ -- r11.2 ref.go:145
      refine WS.det rfl rfl rfl (det_sub rfl rfl (by omega)) rfl ?_ -- r11.3 ref.go:145
      refine WS.det rfl rfl rfl (det_assign rfl) rfl ?_ -- r11.4 ref.go:145
      refine WS.det rfl rfl rfl (det_assign rfl) rfl ?_ -- r11.5 ref.go:145
      refine WS.done ?_
      refine QS.then_code ?_
      refine CS.ret ?_
      exact out2 rfl rfl rfl (retBe (by rw [ks4, hs3])) -- ret 1

theorem answer_c (xs ys : List Int) (v1 v2 : Value) (w : World) (h1 : SlI w v1 xs) (h2 : SlI w v2 ys) (hl : xs.length = ys.length) (hm : xs.length ≤ 4)
    (hx : ∀ x ∈ xs, 0 ≤ x ∧ x < 10) (hy : ∀ x ∈ ys, 0 ≤ x ∧ x < 10) :
    Calls Try.prog 55 #[v1, v2] w (RetB w (.tuple #[.int .i64 (rightN xs ys), .int .i64 (commonN xs ys 10 - rightN xs ys)])) := by
  refine enter Try.func55 rfl rfl (Nat.le_of_ble_eq_true rfl) ?_
  refine CS.seq ?_
  refine CS.region ?_
  refine WS.det rfl rfl rfl (det_assign rfl) rfl ?_ -- r0.0 codes.go:102
  refine WS.det rfl rfl rfl (det_assign rfl) rfl ?_ -- r0.1 codes.go:102
  refine WS.done ?_
  refine QS.then_code ?_
  refine CS.seq ?_
  refine CS.region ?_
  refine WS.alloc zv108 (fun _ => rfl) ?_; intro b6 hb6 -- r1.0 codes.go:103
  refine WS.alloc zv108 (fun _ => rfl) ?_; intro b7 hb7 -- r1.1 codes.go:103
  refine WS.done ?_
  refine QS.then_code ?_
  refine CS.seq ?_
  refine CS.seq ?_
  refine CS.region ?_
  refine WS.det rfl rfl rfl (det_move rfl) rfl ?_ -- r2.0 codes.go:104
  refine WS.det rfl rfl rfl ((by first | exact det_lenS sl24 rfl (by assumption) | exact det_lenS sl24 rfl (by first | exact SlL.sp (by assumption) | exact ClS.sp (by assumption)) | exact det_lenO sl24 rfl | exact det_lenV sl24 rfl ⟨_, _, rfl⟩)) rfl ?_ -- r2.1 codes.go:104
  refine WS.det rfl rfl rfl (det_move rfl) rfl ?_ -- r2.2 codes.go:104
  refine WS.done ?_
  refine QS.then_code ?_
  refine CS.block ?_
  refine CS.loopM (σ := Int × Int) [8, 9, 14, 15, 16, 17, 18, 19, 20, 21, 22, 23, 24, 25, 26, 27, 28, 29, 30, 31, 32, 33, 34, 35, 36, 37, 38, 39] (fun s => [(4, .int .i64 s.2), (13, .int .i64 s.1)]) (fun s => [blk b7 (tally (ys.take s.1.toNat)) 108, blk b6 (tally (xs.take s.1.toNat)) 108]) (fun s => 0 ≤ s.1 ∧ s.1 ≤ xs.length ∧ s.2 = rightN (xs.take s.1.toNat) (ys.take s.1.toNat)) (fun s => (xs.length - s.1).toNat) (0, 0) (fun _ _ => rfl) rfl rfl ⟨by simp, by simp, by simp [rightN]⟩ ?_
  intro s t hs
  obtain ⟨hs1, hs2, hs3⟩ := hs
  have hbd := rightN_le (xs.take s.1.toNat) (ys.take s.1.toNat)
  have hlt := List.length_take_le s.1.toNat xs
  have hlt2 := List.length_take_le s.1.toNat ys
  refine CS.seq ?_
  refine CS.region ?_
  refine WS.det rfl rfl rfl (det_lt rfl rfl) rfl ?_ -- r3.0 codes.go:104
  refine WS.done ?_
  refine QS.then_code ?_
  refine CS.seq ?_
  refine CS.cond rfl (fun hc1 => ?_) (fun hc1 => ?_) <;> (try simp only [decide_eq_true_eq, decide_eq_false_iff_not, Bool.and_eq_true, Bool.or_eq_true, Bool.and_eq_false_iff, Bool.or_eq_false_iff, Bool.not_eq_true', Bool.not_eq_false', ne_eq, Decidable.not_not, Bool.not_true, Bool.not_false, bne_iff_ne, bne_eq_false_iff_eq, beq_iff_eq, beq_eq_false_iff_ne] at hc1)
  · skip
    have hlx : s.1 < xs.length := by omega
    have hly : s.1 < ys.length := by omega
    have hnx := hx _ (nth_mem hs1 hlx)
    have hny := hy _ (nth_mem hs1 hly)
    have ct1 := cnt_le (xs.take s.1.toNat) (nth xs s.1)
    have ct2 := cnt_le (ys.take s.1.toNat) (nth ys s.1)
    refine CS.skip ?_
    refine QS.then_code ?_
    refine CS.seq ?_
    refine CS.block ?_
    refine CS.seq ?_
    refine CS.region ?_
    refine WS.det rfl rfl rfl (det_move rfl) rfl ?_ -- r4.0 codes.go:104
    refine WS.det rfl rfl rfl ((by first | exact det_idxI sl24 rfl rfl (by assumption) (by omega) (by omega) | exact det_idxO sl24 rfl rfl (by omega) (by omega))) rfl ?_ -- r4.1 codes.go:104
    refine WS.det rfl rfl rfl ((by first | exact det_ldI rfl (by assumption) (by omega) tk3 | exact det_loadb (j := 0) rfl rfl rfl tk3 | exact det_loadb (j := 1) rfl rfl rfl tk3 | exact det_loadb (j := 2) rfl rfl rfl tk3 | exact det_loadb (j := 3) rfl rfl rfl tk3 | exact det_loadw rfl (by assumption) rfl tk3)) rfl ?_ -- r4.2 codes.go:104
    refine WS.det rfl rfl rfl (det_assign rfl) rfl ?_ -- r4.3 codes.go:104
    refine WS.det rfl rfl rfl (det_assign rfl) rfl ?_ -- r4.4 codes.go:104
    refine WS.done ?_
    refine QS.then_code ?_
    refine CS.seq ?_
    refine CS.seq ?_
    refine CS.region ?_
    refine WS.det rfl rfl rfl (det_move rfl) rfl ?_ -- r5.0 codes.go:105
    refine WS.det rfl rfl rfl (det_move rfl) rfl ?_ -- r5.1 codes.go:105
    refine WS.det rfl rfl rfl (det_move rfl) rfl ?_ -- r5.2 codes.go:105
    refine WS.det rfl rfl rfl ((by first | exact det_idxI sl24 rfl rfl (by assumption) (by omega) (by omega) | exact det_idxO sl24 rfl rfl (by omega) (by omega))) rfl ?_ -- r5.3 codes.go:105
    refine WS.det rfl rfl rfl ((by first | exact det_ldI rfl (by assumption) (by omega) tk3 | exact det_loadb (j := 0) rfl rfl rfl tk3 | exact det_loadb (j := 1) rfl rfl rfl tk3 | exact det_loadb (j := 2) rfl rfl rfl tk3 | exact det_loadb (j := 3) rfl rfl rfl tk3 | exact det_loadw rfl (by assumption) rfl tk3)) rfl ?_ -- r5.4 codes.go:105
    refine WS.det rfl rfl rfl (det_eq rfl rfl) rfl ?_ -- r5.5 codes.go:105
    refine WS.done ?_
    refine QS.then_code ?_
    refine CS.cond rfl (fun hc2 => ?_) (fun hc2 => ?_) <;> (try simp only [decide_eq_true_eq, decide_eq_false_iff_not, Bool.and_eq_true, Bool.or_eq_true, Bool.and_eq_false_iff, Bool.or_eq_false_iff, Bool.not_eq_true', Bool.not_eq_false', ne_eq, Decidable.not_not, Bool.not_true, Bool.not_false, bne_iff_ne, bne_eq_false_iff_eq, beq_iff_eq, beq_eq_false_iff_ne] at hc2)
    · skip
      refine CS.region ?_
      refine WS.det rfl rfl rfl (det_move rfl) rfl ?_ -- r6.0 codes.go:106
      refine WS.det rfl rfl rfl (det_add rfl rfl (by omega)) rfl ?_ -- r6.1 codes.go:106
      refine WS.det rfl rfl rfl (det_assign rfl) rfl ?_ -- r6.2 codes.go:106
      refine WS.done ?_
      refine QS.then_code ?_
      refine CS.seq ?_
      refine CS.region ?_
      refine WS.det rfl rfl rfl (det_move rfl) rfl ?_ -- r7.0 codes.go:108
      refine WS.det rfl rfl rfl (det_indexA arr108 rfl rfl (by omega) (by omega)) rfl ?_ -- r7.1 codes.go:108
      refine WS.det rfl rfl rfl (det_loadb (j := 1) rfl rfl (tally_at hnx.1 hnx.2) tk3) rfl ?_ -- r7.2 codes.go:108
      refine WS.det rfl rfl rfl (det_add rfl rfl (by omega)) rfl ?_ -- r7.3 codes.go:108
      refine WS.det rfl rfl rfl (det_indexA arr108 rfl rfl (by omega) (by omega)) rfl ?_ -- r7.4 codes.go:108
      refine WS.store (j := 1) rfl rfl (by simp [tally_len]; omega) rfl rfl tk3 (lset_eq _ _ _) rfl ?_ -- r7.5 codes.go:108
      refine WS.done ?_
      refine QS.then_code ?_
      refine CS.region ?_
      refine WS.det rfl rfl rfl (det_move rfl) rfl ?_ -- r8.0 codes.go:109
      refine WS.det rfl rfl rfl (det_move rfl) rfl ?_ -- r8.1 codes.go:109
      refine WS.det rfl rfl rfl ((by first | exact det_idxI sl24 rfl rfl (by assumption) (by omega) (by omega) | exact det_idxO sl24 rfl rfl (by omega) (by omega))) rfl ?_ -- r8.2 codes.go:109
      refine WS.det rfl rfl rfl ((by first | exact det_ldI rfl (by assumption) (by omega) tk3 | exact det_loadb (j := 0) rfl rfl rfl tk3 | exact det_loadb (j := 1) rfl rfl rfl tk3 | exact det_loadb (j := 2) rfl rfl rfl tk3 | exact det_loadb (j := 3) rfl rfl rfl tk3 | exact det_loadw rfl (by assumption) rfl tk3)) rfl ?_ -- r8.3 codes.go:109
      refine WS.det rfl rfl rfl (det_indexA arr108 rfl rfl (by omega) (by omega)) rfl ?_ -- r8.4 codes.go:109
      refine WS.det rfl rfl rfl (det_loadb (j := 0) rfl rfl (tally_at hny.1 hny.2) tk3) rfl ?_ -- r8.5 codes.go:109
      refine WS.det rfl rfl rfl (det_add rfl rfl (by omega)) rfl ?_ -- r8.6 codes.go:109
      refine WS.det rfl rfl rfl (det_indexA arr108 rfl rfl (by omega) (by omega)) rfl ?_ -- r8.7 codes.go:109
      refine WS.store (j := 0) rfl rfl (by simp [tally_len]; omega) rfl rfl tk3 (lset_eq _ _ _) rfl ?_ -- r8.8 codes.go:109
      refine WS.done ?_
      refine QS.block_normal ?_
      refine QS.then_code ?_
      refine CS.region ?_
      refine WS.det rfl rfl rfl (det_add rfl rfl (by omega)) rfl ?_ -- r9.0 codes.go:104
      refine WS.det rfl rfl rfl (det_move rfl) rfl ?_ -- r9.1 codes.go:104
      refine WS.done ?_
      exact QS.head ((s.1 + 1, s.2 + 1)) rfl (by simp only [tally_set hnx.1 hnx.2, tally_set hny.1 hny.2, take_snocI xs hs1 hlx, take_snocI ys hs1 hly]) ⟨⟨by simp; omega, by simp; omega, by simp only; rw [rightN_take xs ys hl hs1 (by omega), hs3]; simp [hc2]⟩, by simp; omega⟩
    · skip
      refine CS.skip ?_
      refine QS.then_code ?_
      refine CS.seq ?_
      refine CS.region ?_
      refine WS.det rfl rfl rfl (det_move rfl) rfl ?_ -- r7.0 codes.go:108
      refine WS.det rfl rfl rfl (det_indexA arr108 rfl rfl (by omega) (by omega)) rfl ?_ -- r7.1 codes.go:108
      refine WS.det rfl rfl rfl (det_loadb (j := 1) rfl rfl (tally_at hnx.1 hnx.2) tk3) rfl ?_ -- r7.2 codes.go:108
      refine WS.det rfl rfl rfl (det_add rfl rfl (by omega)) rfl ?_ -- r7.3 codes.go:108
      refine WS.det rfl rfl rfl (det_indexA arr108 rfl rfl (by omega) (by omega)) rfl ?_ -- r7.4 codes.go:108
      refine WS.store (j := 1) rfl rfl (by simp [tally_len]; omega) rfl rfl tk3 (lset_eq _ _ _) rfl ?_ -- r7.5 codes.go:108
      refine WS.done ?_
      refine QS.then_code ?_
      refine CS.region ?_
      refine WS.det rfl rfl rfl (det_move rfl) rfl ?_ -- r8.0 codes.go:109
      refine WS.det rfl rfl rfl (det_move rfl) rfl ?_ -- r8.1 codes.go:109
      refine WS.det rfl rfl rfl ((by first | exact det_idxI sl24 rfl rfl (by assumption) (by omega) (by omega) | exact det_idxO sl24 rfl rfl (by omega) (by omega))) rfl ?_ -- r8.2 codes.go:109
      refine WS.det rfl rfl rfl ((by first | exact det_ldI rfl (by assumption) (by omega) tk3 | exact det_loadb (j := 0) rfl rfl rfl tk3 | exact det_loadb (j := 1) rfl rfl rfl tk3 | exact det_loadb (j := 2) rfl rfl rfl tk3 | exact det_loadb (j := 3) rfl rfl rfl tk3 | exact det_loadw rfl (by assumption) rfl tk3)) rfl ?_ -- r8.3 codes.go:109
      refine WS.det rfl rfl rfl (det_indexA arr108 rfl rfl (by omega) (by omega)) rfl ?_ -- r8.4 codes.go:109
      refine WS.det rfl rfl rfl (det_loadb (j := 0) rfl rfl (tally_at hny.1 hny.2) tk3) rfl ?_ -- r8.5 codes.go:109
      refine WS.det rfl rfl rfl (det_add rfl rfl (by omega)) rfl ?_ -- r8.6 codes.go:109
      refine WS.det rfl rfl rfl (det_indexA arr108 rfl rfl (by omega) (by omega)) rfl ?_ -- r8.7 codes.go:109
      refine WS.store (j := 0) rfl rfl (by simp [tally_len]; omega) rfl rfl tk3 (lset_eq _ _ _) rfl ?_ -- r8.8 codes.go:109
      refine WS.done ?_
      refine QS.block_normal ?_
      refine QS.then_code ?_
      refine CS.region ?_
      refine WS.det rfl rfl rfl (det_add rfl rfl (by omega)) rfl ?_ -- r9.0 codes.go:104
      refine WS.det rfl rfl rfl (det_move rfl) rfl ?_ -- r9.1 codes.go:104
      refine WS.done ?_
      exact QS.head ((s.1 + 1, s.2)) rfl (by simp only [tally_set hnx.1 hnx.2, tally_set hny.1 hny.2, take_snocI xs hs1 hlx, take_snocI ys hs1 hly]) ⟨⟨by simp; omega, by simp; omega, by simp only; rw [rightN_take xs ys hl hs1 (by omega), hs3]; simp [hc2]⟩, by simp; omega⟩
  · skip
    have e1 := take_all xs (i := s.1) (by omega)
    have e2 := take_all ys (i := s.1) (by omega)
    rw [e1, e2] at hs3
    have hb3 := rightN_le xs ys
    have hb4 := commonN_bd xs ys 10
    refine CS.leave ?_
    refine QS.then_exit ?_
    refine QS.then_exit ?_
    refine QS.block_exit ?_
    refine QS.then_code ?_
    refine CS.seq ?_
    refine CS.seq ?_
    refine CS.region ?_
    refine WS.det rfl rfl rfl (det_move rfl) rfl ?_ -- r10.0 codes.go:111
    refine WS.done ?_
    refine QS.then_code ?_
    refine CS.block ?_
    refine CS.loopM (σ := Int × Int) [10, 41, 42, 43, 44, 45, 46, 47, 48, 49, 50, 51, 52] (fun s => [(5, .int .i64 s.2), (40, .int .i64 s.1)]) (fun s => [blk b7 (tally ys) 108, blk b6 (tally xs) 108]) (fun s => 0 ≤ s.1 ∧ s.1 ≤ 10 ∧ s.2 = commonN xs ys s.1.toNat) (fun s => (10 - s.1).toNat) (0, 0) (fun _ _ => rfl) rfl (by rw [e1, e2]) ⟨by simp, by simp, by simp [commonN]⟩ ?_
    intro r t hs
    obtain ⟨ks1, ks2, ks3⟩ := hs
    have kbd := commonN_bd xs ys r.1.toNat
    have kb2 : ((r.1.toNat : Nat) : Int) * (xs.length : Int) ≤ 10 * 4 := Int.mul_le_mul (by omega) (by omega) (by omega) (by omega)
    have kc1 := cnt_le xs r.1
    have kc2 := cnt_le ys r.1
    refine CS.seq ?_
    refine CS.region ?_
    refine WS.det rfl rfl rfl (det_lt rfl rfl) rfl ?_ -- r11.0 codes.go:111
    refine WS.done ?_
    refine QS.then_code ?_
    refine CS.seq ?_
    refine CS.cond rfl (fun hc3 => ?_) (fun hc3 => ?_) <;> (try simp only [decide_eq_true_eq, decide_eq_false_iff_not, Bool.and_eq_true, Bool.or_eq_true, Bool.and_eq_false_iff, Bool.or_eq_false_iff, Bool.not_eq_true', Bool.not_eq_false', ne_eq, Decidable.not_not, Bool.not_true, Bool.not_false, bne_iff_ne, bne_eq_false_iff_eq, beq_iff_eq, beq_eq_false_iff_ne] at hc3)
    · skip
      refine CS.skip ?_
      refine QS.then_code ?_
      refine CS.seq ?_
      refine CS.block ?_
      refine CS.seq ?_
      refine CS.region ?_
      refine WS.det rfl rfl rfl (det_move rfl) rfl ?_ -- r12.0 codes.go:111
      refine WS.det rfl rfl rfl (det_assign rfl) rfl ?_ -- r12.1 codes.go:111
      refine WS.done ?_
      refine QS.then_code ?_
      refine CS.draw mixed (by kernel_rfl) (by kernel_rfl) ?_
      refine DS.det rfl rfl (det_move rfl) rfl ?_ -- r13.0 codes.go:112
      refine DS.det rfl rfl (det_move rfl) rfl ?_ -- r13.1 codes.go:112
      refine DS.det rfl rfl (det_indexA arr108 rfl rfl (by omega) (by omega)) rfl ?_ -- r13.2 codes.go:112
      refine DS.det rfl rfl (det_loadb (j := 1) rfl rfl (tally_at (by omega) (by omega)) tk3) rfl ?_ -- r13.3 codes.go:112
      refine DS.det rfl rfl (det_move rfl) rfl ?_ -- r13.4 codes.go:112
      refine DS.det rfl rfl (det_indexA arr108 rfl rfl (by omega) (by omega)) rfl ?_ -- r13.5 codes.go:112
      refine DS.det rfl rfl (det_loadb (j := 0) rfl rfl (tally_at (by omega) (by omega)) tk3) rfl ?_ -- r13.6 codes.go:112
      refine DS.det rfl rfl (det_min rfl rfl) rfl ?_ -- r13.7 codes.go:112
      refine DS.det rfl rfl (det_add rfl rfl (by omega)) rfl ?_ -- r13.8 codes.go:112
      refine DS.det rfl rfl (det_assign rfl) rfl ?_ -- r13.9 codes.go:112
      refine DS.done ?_
      refine QS.block_normal ?_
      refine QS.then_code ?_
      refine CS.region ?_
      refine WS.det rfl rfl rfl (det_add rfl rfl (by omega)) rfl ?_ -- r14.0 codes.go:111
      refine WS.det rfl rfl rfl (det_move rfl) rfl ?_ -- r14.1 codes.go:111
      refine WS.done ?_
      exact QS.head ((r.1 + 1, r.2 + min (cnt xs r.1) (cnt ys r.1))) rfl rfl ⟨⟨by simp; omega, by simp; omega, by have e : (r.1 + 1).toNat = r.1.toNat + 1 := (by omega); have e2 : ((r.1.toNat : Nat) : Int) = r.1 := (by omega); simp only [e, commonN, e2, ks3]⟩, by simp; omega⟩
    · skip
      have e3 : r.1 = 10 := by omega
      rw [e3] at ks3
      have ks4 : r.2 = commonN xs ys 10 := ks3
      refine CS.leave ?_
      refine QS.then_exit ?_
      refine QS.then_exit ?_
      refine QS.block_exit ?_
      refine QS.then_code ?_
      refine CS.seq ?_
      refine CS.region ?_
      refine WS.det rfl rfl rfl (det_move rfl) rfl ?_ -- r15.0 codes.go:114
      refine WS.det rfl rfl rfl (det_move rfl) rfl ?_ -- r15.1 codes.go:114
      refine WS.det rfl rfl rfl (det_move rfl) rfl ?_ -- r15.2 codes.go:114
      refine WS.det rfl rfl rfl (det_sub rfl rfl (by omega)) rfl ?_ -- r15.3 codes.go:114
      refine WS.det rfl rfl rfl (det_assign rfl) rfl ?_ -- r15.4 codes.go:114
      refine WS.det rfl rfl rfl (det_assign rfl) rfl ?_ -- r15.5 codes.go:114
      refine WS.done ?_
      refine QS.then_code ?_
      refine CS.ret ?_
      exact out2 rfl rfl rfl (retBe (by rw [ks4, hs3])) -- ret 1

end Go.Proofs.Ytldagbcceefcdaa
