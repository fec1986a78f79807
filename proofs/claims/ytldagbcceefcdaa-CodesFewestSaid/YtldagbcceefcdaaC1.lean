/- Contracts of functions, printed by a program of the prover (gen.py). -/
import Derived.Test.YtldagbcceefcdaaClue
import Derived.Test.YtldagbcceefcdaaFacts
namespace Go.Proofs.Ytldagbcceefcdaa
open Go.RowKit Go.Proofs
set_option maxRecDepth 100000
set_option linter.unusedVariables false
set_option linter.unusedSimpArgs false

theorem within_c (n low high : Int) (w : World) : Calls Try.prog 61 #[.int .i64 n, .int .i64 low, .int .i64 high] w (RetB w (.bool (within n low high))) := by
  refine enter Try.func61 rfl rfl (Nat.le_of_ble_eq_true rfl) ?_
  refine CS.seq ?_
  refine CS.region ?_
  refine WS.det rfl rfl rfl (det_assign rfl) rfl ?_ -- r0.0 codes.go:12
  refine WS.done ?_
  refine QS.then_code ?_
  refine CS.seq ?_
  refine CS.region ?_
  refine WS.det rfl rfl rfl (det_move rfl) rfl ?_ -- r1.0 codes.go:12
  refine WS.det rfl rfl rfl (det_move rfl) rfl ?_ -- r1.1 codes.go:12
  refine WS.det rfl rfl rfl (det_ge rfl rfl) rfl ?_ -- r1.2 codes.go:12
  refine WS.det rfl rfl rfl (det_move rfl) rfl ?_ -- r1.3 codes.go:12
  refine WS.guardT rfl rfl rfl rfl (fun hg => det_move rfl) rfl ?_ -- r1.4 codes.go:12
  refine WS.guardT rfl rfl rfl rfl (fun hg => det_move rfl) rfl ?_ -- r1.5 codes.go:12
  refine WS.guardT rfl rfl rfl rfl (fun hg => det_le (ev_cond hg rfl) (ev_cond hg rfl)) rfl ?_ -- r1.6 codes.go:12
  refine WS.det rfl rfl rfl (det_pick_and rfl rfl rfl) rfl ?_ -- r1.7 codes.go:12
  refine WS.det rfl rfl rfl (det_assign rfl) rfl ?_ -- r1.8 codes.go:12
  refine WS.done ?_
  refine QS.then_code ?_
  refine CS.ret ?_
  exact out1 rfl rfl retB -- ret 1

theorem Within_c (n low high : Int) (w : World) : Calls Try.prog 62 #[.int .i64 n, .int .i64 low, .int .i64 high] w (RetB w (.bool (within n low high))) := by
  refine enter Try.func62 rfl rfl (Nat.le_of_ble_eq_true rfl) ?_
  refine CS.seq ?_
  refine CS.region ?_
  refine WS.det rfl rfl rfl (det_assign rfl) rfl ?_ -- r0.0 ref.go:7
  refine WS.done ?_
  refine QS.then_code ?_
  refine CS.seq ?_
  refine CS.region ?_
  refine WS.det rfl rfl rfl (det_move rfl) rfl ?_ -- r1.0 ref.go:7
  refine WS.det rfl rfl rfl (det_move rfl) rfl ?_ -- r1.1 ref.go:7
  refine WS.det rfl rfl rfl (det_ge rfl rfl) rfl ?_ -- r1.2 ref.go:7
  refine WS.det rfl rfl rfl (det_move rfl) rfl ?_ -- r1.3 ref.go:7
  refine WS.guardT rfl rfl rfl rfl (fun hg => det_move rfl) rfl ?_ -- r1.4 ref.go:7
  refine WS.guardT rfl rfl rfl rfl (fun hg => det_move rfl) rfl ?_ -- r1.5 ref.go:7
  refine WS.guardT rfl rfl rfl rfl (fun hg => det_le (ev_cond hg rfl) (ev_cond hg rfl)) rfl ?_ -- r1.6 ref.go:7
  refine WS.det rfl rfl rfl (det_pick_and rfl rfl rfl) rfl ?_ -- r1.7 ref.go:7
  refine WS.det rfl rfl rfl (det_assign rfl) rfl ?_ -- r1.8 ref.go:7
  refine WS.done ?_
  refine QS.then_code ?_
  refine CS.ret ?_
  exact out1 rfl rfl retB -- ret 1

theorem SameInts_c (xs ys : List Int) (v1 v2 : Value) (w : World) (h1 : SlI w v1 xs) (h2 : SlI w v2 ys) :
    Calls Try.prog 20 #[v1, v2] w (RetB w (.bool (decide (xs = ys)))) := by
  have hl1 := h1.le
  have hl2 := h2.le
  refine enter Try.func20 rfl rfl (Nat.le_of_ble_eq_true rfl) ?_
  refine CS.seq ?_
  refine CS.region ?_
  refine WS.det rfl rfl rfl (det_assign rfl) rfl ?_ -- r0.0 ref.go:73
  refine WS.done ?_
  refine QS.then_code ?_
  refine CS.seq ?_
  refine CS.seq ?_
  refine CS.region ?_
  refine WS.det rfl rfl rfl (det_move rfl) rfl ?_ -- r1.0 ref.go:74
  refine WS.det rfl rfl rfl ((by first | exact det_lenS sl24 rfl (by assumption) | exact det_lenS sl24 rfl (by first | exact SlL.sp (by assumption) | exact ClS.sp (by assumption)) | exact det_lenO sl24 rfl | exact det_lenV sl24 rfl ⟨_, _, rfl⟩)) rfl ?_ -- r1.1 ref.go:74
  refine WS.det rfl rfl rfl (det_move rfl) rfl ?_ -- r1.2 ref.go:74
  refine WS.det rfl rfl rfl ((by first | exact det_lenS sl24 rfl (by assumption) | exact det_lenS sl24 rfl (by first | exact SlL.sp (by assumption) | exact ClS.sp (by assumption)) | exact det_lenO sl24 rfl | exact det_lenV sl24 rfl ⟨_, _, rfl⟩)) rfl ?_ -- r1.3 ref.go:74
  refine WS.det rfl rfl rfl (det_ne rfl rfl) rfl ?_ -- r1.4 ref.go:74
  refine WS.done ?_
  refine QS.then_code ?_
  refine CS.cond rfl (fun hc1 => ?_) (fun hc1 => ?_) <;> (try simp only [decide_eq_true_eq, decide_eq_false_iff_not, Bool.and_eq_true, Bool.or_eq_true, Bool.and_eq_false_iff, Bool.or_eq_false_iff, Bool.not_eq_true', Bool.not_eq_false', ne_eq, Decidable.not_not, Bool.not_true, Bool.not_false, bne_iff_ne, bne_eq_false_iff_eq, beq_iff_eq, beq_eq_false_iff_ne] at hc1)
  · skip
    refine CS.seq ?_
    refine CS.region ?_
    refine WS.det rfl rfl rfl (det_assign rfl) rfl ?_ -- r2.0 ref.go:75
    refine WS.done ?_
    refine QS.then_code ?_
    refine CS.ret ?_
    refine QS.then_ret ?_
    exact out1 rfl rfl (retBe (bool_f fun h => by subst h; omega)) -- ret 1
  · skip
    refine CS.skip ?_
    refine QS.then_code ?_
    refine CS.seq ?_
    refine CS.seq ?_
    refine CS.region ?_
    refine WS.det rfl rfl rfl (det_assign rfl) rfl ?_ -- r3.0 ref.go:77
    refine WS.done ?_
    refine QS.then_code ?_
    refine CS.block ?_
    refine CS.loopM (σ := Int) [4, 11, 12, 13, 14, 15, 16, 17, 18, 19, 20, 21, 22, 23, 24, 25] (fun s => [(5, .int .i64 s)]) (fun _ => _) (fun s => 0 ≤ s ∧ s ≤ xs.length ∧ xs.length = ys.length ∧ ∀ j : Int, 0 ≤ j → j < s → nth xs j = nth ys j) (fun s => (xs.length - s).toNat) 0 (fun _ _ => rfl) rfl rfl ⟨by omega, by omega, by omega, fun j h1 h2 => by omega⟩ ?_
    intro s t hs
    obtain ⟨hs1, hs2, hs3, hs4⟩ := hs
    refine CS.seq ?_
    refine CS.seq ?_
    refine CS.region ?_
    refine WS.det rfl rfl rfl (det_move rfl) rfl ?_ -- r4.0 ref.go:77
    refine WS.det rfl rfl rfl (det_move rfl) rfl ?_ -- r4.1 ref.go:77
    refine WS.det rfl rfl rfl ((by first | exact det_lenS sl24 rfl (by assumption) | exact det_lenS sl24 rfl (by first | exact SlL.sp (by assumption) | exact ClS.sp (by assumption)) | exact det_lenO sl24 rfl | exact det_lenV sl24 rfl ⟨_, _, rfl⟩)) rfl ?_ -- r4.2 ref.go:77
    refine WS.det rfl rfl rfl (det_lt rfl rfl) rfl ?_ -- r4.3 ref.go:77
    refine WS.done ?_
    refine QS.then_code ?_
    refine CS.cond rfl (fun hc2 => ?_) (fun hc2 => ?_) <;> (try simp only [decide_eq_true_eq, decide_eq_false_iff_not, Bool.and_eq_true, Bool.or_eq_true, Bool.and_eq_false_iff, Bool.or_eq_false_iff, Bool.not_eq_true', Bool.not_eq_false', ne_eq, Decidable.not_not, Bool.not_true, Bool.not_false, bne_iff_ne, bne_eq_false_iff_eq, beq_iff_eq, beq_eq_false_iff_ne] at hc2)
    · skip
      refine CS.skip ?_
      refine QS.then_code ?_
      refine CS.seq ?_
      refine CS.block ?_
      refine CS.seq ?_
      refine CS.draw mixed (by kernel_rfl) (by kernel_rfl) ?_
      refine DS.det rfl rfl (det_move rfl) rfl ?_ -- r6.0 ref.go:78
      refine DS.det rfl rfl (det_move rfl) rfl ?_ -- r6.1 ref.go:78
      refine DS.det rfl rfl ((by first | exact det_idxI sl24 rfl rfl (by assumption) (by omega) (by omega) | exact det_idxO sl24 rfl rfl (by omega) (by omega))) rfl ?_ -- r6.2 ref.go:78
      refine DS.det rfl rfl ((by first | exact det_ldI rfl (by assumption) (by omega) tk3 | exact det_loadb (j := 0) rfl rfl rfl tk3 | exact det_loadb (j := 1) rfl rfl rfl tk3 | exact det_loadb (j := 2) rfl rfl rfl tk3 | exact det_loadb (j := 3) rfl rfl rfl tk3 | exact det_loadw rfl (by assumption) rfl tk3)) rfl ?_ -- r6.3 ref.go:78
      refine DS.det rfl rfl (det_move rfl) rfl ?_ -- r6.4 ref.go:78
      refine DS.det rfl rfl (det_move rfl) rfl ?_ -- r6.5 ref.go:78
      refine DS.det rfl rfl ((by first | exact det_idxI sl24 rfl rfl (by assumption) (by omega) (by omega) | exact det_idxO sl24 rfl rfl (by omega) (by omega))) rfl ?_ -- r6.6 ref.go:78
      refine DS.det rfl rfl ((by first | exact det_ldI rfl (by assumption) (by omega) tk3 | exact det_loadb (j := 0) rfl rfl rfl tk3 | exact det_loadb (j := 1) rfl rfl rfl tk3 | exact det_loadb (j := 2) rfl rfl rfl tk3 | exact det_loadb (j := 3) rfl rfl rfl tk3 | exact det_loadw rfl (by assumption) rfl tk3)) rfl ?_ -- r6.7 ref.go:78
      refine DS.det rfl rfl (det_ne rfl rfl) rfl ?_ -- r6.8 ref.go:78
      refine DS.done ?_
      refine QS.then_code ?_
      refine CS.cond rfl (fun hc3 => ?_) (fun hc3 => ?_) <;> (try simp only [decide_eq_true_eq, decide_eq_false_iff_not, Bool.and_eq_true, Bool.or_eq_true, Bool.and_eq_false_iff, Bool.or_eq_false_iff, Bool.not_eq_true', Bool.not_eq_false', ne_eq, Decidable.not_not, Bool.not_true, Bool.not_false, bne_iff_ne, bne_eq_false_iff_eq, beq_iff_eq, beq_eq_false_iff_ne] at hc3)
      · skip
        refine CS.seq ?_
        refine CS.region ?_
        refine WS.det rfl rfl rfl (det_assign rfl) rfl ?_ -- r7.0 ref.go:79
        refine WS.done ?_
        refine QS.then_code ?_
        refine CS.ret ?_
        refine QS.block_ret ?_
        refine QS.then_ret ?_
        refine QS.then_ret ?_
        refine QS.block_ret ?_
        refine QS.then_ret ?_
        exact out1 rfl rfl (retBe (bool_f fun h => by subst h; omega)) -- ret 2
      · skip
        refine CS.skip ?_
        refine QS.block_normal ?_
        refine QS.then_code ?_
        refine CS.region ?_
        refine WS.det rfl rfl rfl (det_move rfl) rfl ?_ -- r5.0 ref.go:77
        refine WS.det rfl rfl rfl (det_add rfl rfl (by omega)) rfl ?_ -- r5.1 ref.go:77
        refine WS.det rfl rfl rfl (det_assign rfl) rfl ?_ -- r5.2 ref.go:77
        refine WS.done ?_
        exact QS.head (s + 1) rfl rfl ⟨⟨by omega, by omega, hs3, fun j h1 h2 => if hj : j = s then by rw [hj]; omega else hs4 j h1 (by omega)⟩, by omega⟩
    · skip
      refine CS.leave ?_
      refine QS.then_exit ?_
      refine QS.then_exit ?_
      refine QS.block_exit ?_
      refine QS.then_code ?_
      refine CS.seq ?_
      refine CS.region ?_
      refine WS.det rfl rfl rfl (det_assign rfl) rfl ?_ -- r8.0 ref.go:82
      refine WS.done ?_
      refine QS.then_code ?_
      refine CS.ret ?_
      exact out1 rfl rfl (retBe (bool_t (nth_ext hs3 fun i h1 h2 => hs4 i h1 (by omega)))) -- ret 3

theorem Check_c (lw ls : Int) (w : World) : Calls Try.prog 23 #[.agg #[.int .i64 lw, .int .i64 ls]] w (RetB w (.int .i64 (lockE lw ls))) := by
  refine enter Try.func23 rfl rfl (Nat.le_of_ble_eq_true rfl) ?_
  refine CS.seq ?_
  refine CS.region ?_
  refine WS.box rfl rfl (fun _ => rfl) ?_; intro b1 hb1 -- r0.0 codes.go:55
  refine WS.det rfl rfl rfl (det_assign rfl) rfl ?_ -- r0.1 codes.go:55
  refine WS.done ?_
  refine QS.then_code ?_
  refine CS.seq ?_
  refine CS.seq ?_
  refine CS.region ?_
  refine WS.det rfl rfl rfl ((by first | exact det_fieldAddr rfl fo23_0 | exact det_fieldAddrS rfl fo23_0)) rfl ?_ -- r1.0 codes.go:56
  refine WS.det rfl rfl rfl ((by first | exact det_loadb (j := 0) rfl rfl rfl tk3 | exact det_loadw rfl (by assumption) rfl tk3)) rfl ?_ -- r1.1 codes.go:56
  refine WS.det rfl rfl rfl (det_callB rfl rfl ent61 (fun u hu => within_c _ _ _ u)) rfl ?_ -- r1.2 codes.go:56
  refine WS.det rfl rfl rfl (det_not rfl) rfl ?_ -- r1.3 codes.go:56
  refine WS.det rfl rfl rfl (det_move rfl) rfl ?_ -- r1.4 codes.go:56
  refine WS.guardF rfl rfl rfl rfl (fun hg => (by first | exact det_fieldAddr rfl fo23_1 | exact det_fieldAddrS rfl fo23_1)) rfl ?_ -- r1.5 codes.go:56
  refine WS.guardF rfl rfl rfl rfl (fun hg => (by first | exact det_loadb (j := 0) (ev_cond hg rfl) rfl rfl tk3 | exact det_loadw (ev_cond hg rfl) (by assumption) rfl tk3)) rfl ?_ -- r1.6 codes.go:56
  refine WS.guardF rfl rfl rfl rfl (fun hg => det_callB rfl (evs_cons (ev_cond hg rfl) (evs_cons rfl (evs_cons rfl evs_nil))) ent61 (fun u hu => within_c _ _ _ u)) rfl ?_ -- r1.7 codes.go:56
  refine WS.guardF rfl rfl rfl rfl (fun hg => det_not (ev_cond hg rfl)) rfl ?_ -- r1.8 codes.go:56
  refine WS.det rfl rfl rfl (det_pick_or rfl rfl rfl) rfl ?_ -- r1.9 codes.go:56
  refine WS.done ?_
  refine QS.then_code ?_
  refine CS.cond rfl (fun hc1 => ?_) (fun hc1 => ?_) <;> (try simp only [decide_eq_true_eq, decide_eq_false_iff_not, Bool.and_eq_true, Bool.or_eq_true, Bool.and_eq_false_iff, Bool.or_eq_false_iff, Bool.not_eq_true', Bool.not_eq_false', ne_eq, Decidable.not_not, Bool.not_true, Bool.not_false, bne_iff_ne, bne_eq_false_iff_eq, beq_iff_eq, beq_eq_false_iff_ne] at hc1)
  · skip
    refine CS.seq ?_
    refine CS.region ?_
    refine WS.det rfl rfl rfl (det_assign rfl) rfl ?_ -- r2.0 codes.go:57
    refine WS.done ?_
    refine QS.then_code ?_
    refine CS.ret ?_
    refine QS.then_ret ?_
    exact out1 rfl rfl (retBe (by simp [lockE, lockB]; rcases hc1 with h | h <;> simp [h])) -- ret 1
  · skip
    refine CS.skip ?_
    refine QS.then_code ?_
    refine CS.seq ?_
    refine CS.region ?_
    refine WS.det rfl rfl rfl (det_assign rfl) rfl ?_ -- r3.0 codes.go:59
    refine WS.done ?_
    refine QS.then_code ?_
    refine CS.ret ?_
    exact out1 rfl rfl (retBe (by simp [lockE, lockB, hc1])) -- ret 2

theorem RCheck_c (lw ls : Int) (w : World) : Calls Try.prog 24 #[.agg #[.int .i64 lw, .int .i64 ls]] w (RetB w (.int .i64 (lockE lw ls))) := by
  refine enter Try.func24 rfl rfl (Nat.le_of_ble_eq_true rfl) ?_
  refine CS.seq ?_
  refine CS.region ?_
  refine WS.box rfl rfl (fun _ => rfl) ?_; intro b1 hb1 -- r0.0 ref.go:10
  refine WS.det rfl rfl rfl (det_assign rfl) rfl ?_ -- r0.1 ref.go:10
  refine WS.done ?_
  refine QS.then_code ?_
  refine CS.seq ?_
  refine CS.seq ?_
  refine CS.region ?_
  refine WS.det rfl rfl rfl ((by first | exact det_fieldAddr rfl fo23_0 | exact det_fieldAddrS rfl fo23_0)) rfl ?_ -- r1.0 ref.go:11
  refine WS.det rfl rfl rfl ((by first | exact det_loadb (j := 0) rfl rfl rfl tk3 | exact det_loadw rfl (by assumption) rfl tk3)) rfl ?_ -- r1.1 ref.go:11
  refine WS.det rfl rfl rfl (det_callB rfl rfl ent62 (fun u hu => Within_c _ _ _ u)) rfl ?_ -- r1.2 ref.go:11
  refine WS.det rfl rfl rfl (det_not rfl) rfl ?_ -- r1.3 ref.go:11
  refine WS.det rfl rfl rfl (det_move rfl) rfl ?_ -- r1.4 ref.go:11
  refine WS.guardF rfl rfl rfl rfl (fun hg => (by first | exact det_fieldAddr rfl fo23_1 | exact det_fieldAddrS rfl fo23_1)) rfl ?_ -- r1.5 ref.go:11
  refine WS.guardF rfl rfl rfl rfl (fun hg => (by first | exact det_loadb (j := 0) (ev_cond hg rfl) rfl rfl tk3 | exact det_loadw (ev_cond hg rfl) (by assumption) rfl tk3)) rfl ?_ -- r1.6 ref.go:11
  refine WS.guardF rfl rfl rfl rfl (fun hg => det_callB rfl (evs_cons (ev_cond hg rfl) (evs_cons rfl (evs_cons rfl evs_nil))) ent62 (fun u hu => Within_c _ _ _ u)) rfl ?_ -- r1.7 ref.go:11
  refine WS.guardF rfl rfl rfl rfl (fun hg => det_not (ev_cond hg rfl)) rfl ?_ -- r1.8 ref.go:11
  refine WS.det rfl rfl rfl (det_pick_or rfl rfl rfl) rfl ?_ -- r1.9 ref.go:11
  refine WS.done ?_
  refine QS.then_code ?_
  refine CS.cond rfl (fun hc1 => ?_) (fun hc1 => ?_) <;> (try simp only [decide_eq_true_eq, decide_eq_false_iff_not, Bool.and_eq_true, Bool.or_eq_true, Bool.and_eq_false_iff, Bool.or_eq_false_iff, Bool.not_eq_true', Bool.not_eq_false', ne_eq, Decidable.not_not, Bool.not_true, Bool.not_false, bne_iff_ne, bne_eq_false_iff_eq, beq_iff_eq, beq_eq_false_iff_ne] at hc1)
  · skip
    refine CS.seq ?_
    refine CS.region ?_
    refine WS.det rfl rfl rfl (det_assign rfl) rfl ?_ -- r2.0 ref.go:12
    refine WS.done ?_
    refine QS.then_code ?_
    refine CS.ret ?_
    refine QS.then_ret ?_
    exact out1 rfl rfl (retBe (by simp [lockE, lockB]; rcases hc1 with h | h <;> simp [h])) -- ret 1
  · skip
    refine CS.skip ?_
    refine QS.then_code ?_
    refine CS.seq ?_
    refine CS.region ?_
    refine WS.det rfl rfl rfl (det_assign rfl) rfl ?_ -- r3.0 ref.go:14
    refine WS.done ?_
    refine QS.then_code ?_
    refine CS.ret ?_
    exact out1 rfl rfl (retBe (by simp [lockE, lockB, hc1])) -- ret 2

theorem symbol_c (lw ls n : Int) (w : World) (hL : lockB lw ls = true) : Calls Try.prog 89 #[.agg #[.int .i64 lw, .int .i64 ls], .int .i64 n] w (RetB w (.bool (within n 0 (ls - 1)))) := by
  have hl := lock_of hL
  refine enter Try.func89 rfl rfl (Nat.le_of_ble_eq_true rfl) ?_
  refine CS.seq ?_
  refine CS.region ?_
  refine WS.box rfl rfl (fun _ => rfl) ?_; intro b2 hb2 -- r0.0 codes.go:20
  refine WS.det rfl rfl rfl (det_assign rfl) rfl ?_ -- r0.1 codes.go:20
  refine WS.done ?_
  refine QS.then_code ?_
  refine CS.seq ?_
  refine CS.region ?_
  refine WS.det rfl rfl rfl (det_move rfl) rfl ?_ -- r1.0 codes.go:20
  refine WS.det rfl rfl rfl ((by first | exact det_fieldAddr rfl fo77_1 | exact det_fieldAddrS rfl fo77_1)) rfl ?_ -- r1.1 codes.go:20
  refine WS.det rfl rfl rfl ((by first | exact det_loadb (j := 0) rfl rfl rfl tk3 | exact det_loadw rfl (by assumption) rfl tk3)) rfl ?_ -- r1.2 codes.go:20
  refine WS.det rfl rfl rfl (det_sub rfl rfl (by omega)) rfl ?_ -- r1.3 codes.go:20
  refine WS.det rfl rfl rfl (det_callB rfl rfl ent61 (fun u hu => within_c _ _ _ u)) rfl ?_ -- r1.4 codes.go:20
  refine WS.det rfl rfl rfl (det_assign rfl) rfl ?_ -- r1.5 codes.go:20
  refine WS.done ?_
  refine QS.then_code ?_
  refine CS.ret ?_
  exact out1 rfl rfl retB -- ret 1

theorem wheel_c (lw ls n : Int) (w : World) (hL : lockB lw ls = true) : Calls Try.prog 88 #[.agg #[.int .i64 lw, .int .i64 ls], .int .i64 n] w (RetB w (.bool (within n 0 (lw - 1)))) := by
  have hl := lock_of hL
  refine enter Try.func88 rfl rfl (Nat.le_of_ble_eq_true rfl) ?_
  refine CS.seq ?_
  refine CS.region ?_
  refine WS.box rfl rfl (fun _ => rfl) ?_; intro b2 hb2 -- r0.0 codes.go:18
  refine WS.det rfl rfl rfl (det_assign rfl) rfl ?_ -- r0.1 codes.go:18
  refine WS.done ?_
  refine QS.then_code ?_
  refine CS.seq ?_
  refine CS.region ?_
  refine WS.det rfl rfl rfl (det_move rfl) rfl ?_ -- r1.0 codes.go:18
  refine WS.det rfl rfl rfl ((by first | exact det_fieldAddr rfl fo77_0 | exact det_fieldAddrS rfl fo77_0)) rfl ?_ -- r1.1 codes.go:18
  refine WS.det rfl rfl rfl ((by first | exact det_loadb (j := 0) rfl rfl rfl tk3 | exact det_loadw rfl (by assumption) rfl tk3)) rfl ?_ -- r1.2 codes.go:18
  refine WS.det rfl rfl rfl (det_sub rfl rfl (by omega)) rfl ?_ -- r1.3 codes.go:18
  refine WS.det rfl rfl rfl (det_callB rfl rfl ent61 (fun u hu => within_c _ _ _ u)) rfl ?_ -- r1.4 codes.go:18
  refine WS.det rfl rfl rfl (det_assign rfl) rfl ?_ -- r1.5 codes.go:18
  refine WS.done ?_
  refine QS.then_code ?_
  refine CS.ret ?_
  exact out1 rfl rfl retB -- ret 1

theorem IndexI_c (xs : List (Int)) (v : Value) (w : World) (h1 : SlI w v xs) (g : Nat) (lb : List Value) (p : Int → Bool) (hg : Ent Try.prog g)
    (hp : ∀ u, Below w.heap.size w u → ∀ i : Int, 0 ≤ i → i < xs.length → Calls Try.prog g ([.int .i64 (nth xs i)] ++ lb : List Value).toArray u (RetB u (.bool (p (nth xs i))))) :
    Calls Try.prog 99 #[v, .func (.func g) #[] lb.toArray] w (RetB w (.int .i64 (idxF p xs))) := by
  have hl1 := h1.le
  refine enter Try.func99 rfl rfl (Nat.le_of_ble_eq_true rfl) ?_
  refine CS.seq ?_
  refine CS.region ?_
  refine WS.det rfl rfl rfl (det_assign rfl) rfl ?_ -- r0.0 slices.go:107
  refine WS.done ?_
  refine QS.then_code ?_
  refine CS.seq ?_
  refine CS.seq ?_
  refine CS.region ?_
  refine WS.det rfl rfl rfl (det_move rfl) rfl ?_ -- r1.0 slices.go:108
  refine WS.det rfl rfl rfl ((by first | exact det_lenS sl24 rfl (by assumption) | exact det_lenS sl24 rfl (by first | exact SlL.sp (by assumption) | exact ClS.sp (by assumption)) | exact det_lenO sl24 rfl | exact det_lenV sl24 rfl ⟨_, _, rfl⟩)) rfl ?_ -- r1.1 slices.go:108
  refine WS.det rfl rfl rfl (det_move rfl) rfl ?_ -- r1.2 slices.go:108
  refine WS.done ?_
  refine QS.then_code ?_
  refine CS.block ?_
  refine CS.loopM (σ := Int) [4, 5, 9, 10, 11, 12, 13, 14, 15, 16, 17, 18] (fun s => [(8, .int .i64 s)]) (fun _ => _) (fun s => 0 ≤ s ∧ s ≤ xs.length ∧ ∀ j : Int, 0 ≤ j → j < s → p (nth xs j) = false) (fun s => (xs.length - s).toNat) 0 (fun _ _ => rfl) rfl rfl ⟨by omega, by omega, fun j h1 h2 => by omega⟩ ?_
  intro s t hs
  obtain ⟨hs1, hs2, hs3⟩ := hs
  refine CS.seq ?_
  refine CS.region ?_
  refine WS.det rfl rfl rfl (det_lt rfl rfl) rfl ?_ -- r2.0 slices.go:108
  refine WS.done ?_
  refine QS.then_code ?_
  refine CS.seq ?_
  refine CS.cond rfl (fun hc1 => ?_) (fun hc1 => ?_) <;> (try simp only [decide_eq_true_eq, decide_eq_false_iff_not, Bool.and_eq_true, Bool.or_eq_true, Bool.and_eq_false_iff, Bool.or_eq_false_iff, Bool.not_eq_true', Bool.not_eq_false', ne_eq, Decidable.not_not, Bool.not_true, Bool.not_false, bne_iff_ne, bne_eq_false_iff_eq, beq_iff_eq, beq_eq_false_iff_ne] at hc1)
  · skip
    refine CS.skip ?_
    refine QS.then_code ?_
    refine CS.seq ?_
    refine CS.block ?_
    refine CS.seq ?_
    refine CS.region ?_
    refine WS.det rfl rfl rfl (det_move rfl) rfl ?_ -- r3.0 slices.go:108
    refine WS.det rfl rfl rfl (det_assign rfl) rfl ?_ -- r3.1 slices.go:108
    refine WS.done ?_
    refine QS.then_code ?_
    refine CS.seq ?_
    refine CS.region ?_
    refine WS.det rfl rfl rfl (det_move rfl) rfl ?_ -- r4.0 slices.go:109
    refine WS.det rfl rfl rfl (det_move rfl) rfl ?_ -- r4.1 slices.go:109
    refine WS.det rfl rfl rfl (det_move rfl) rfl ?_ -- r4.2 slices.go:109
    refine WS.det rfl rfl rfl ((by first | exact det_idxI sl24 rfl rfl (by assumption) (by omega) (by omega) | exact det_idxO sl24 rfl rfl (by omega) (by omega))) rfl ?_ -- r4.3 slices.go:109
    refine WS.det rfl rfl rfl ((by first | exact det_ldI rfl (by assumption) (by omega) tk3 | exact det_loadb (j := 0) rfl rfl rfl tk3 | exact det_loadb (j := 1) rfl rfl rfl tk3 | exact det_loadb (j := 2) rfl rfl rfl tk3 | exact det_loadb (j := 3) rfl rfl rfl tk3 | exact det_loadw rfl (by assumption) rfl tk3)) rfl ?_ -- r4.4 slices.go:109
    refine WS.det rfl rfl rfl (det_callB rfl rfl hg (fun u hu => hp u hu.below s (by omega) (by omega))) rfl ?_ -- r4.5 slices.go:109
    refine WS.done ?_
    refine QS.then_code ?_
    refine CS.cond rfl (fun hc2 => ?_) (fun hc2 => ?_) <;> (try simp only [decide_eq_true_eq, decide_eq_false_iff_not, Bool.and_eq_true, Bool.or_eq_true, Bool.and_eq_false_iff, Bool.or_eq_false_iff, Bool.not_eq_true', Bool.not_eq_false', ne_eq, Decidable.not_not, Bool.not_true, Bool.not_false, bne_iff_ne, bne_eq_false_iff_eq, beq_iff_eq, beq_eq_false_iff_ne] at hc2)
    · skip
      refine CS.seq ?_
      refine CS.region ?_
      refine WS.det rfl rfl rfl (det_move rfl) rfl ?_ -- r5.0 slices.go:110
      refine WS.det rfl rfl rfl (det_assign rfl) rfl ?_ -- r5.1 slices.go:110
      refine WS.done ?_
      refine QS.then_code ?_
      refine CS.ret ?_
      refine QS.block_ret ?_
      refine QS.then_ret ?_
      refine QS.then_ret ?_
      refine QS.block_ret ?_
      refine QS.then_ret ?_
      exact out1 rfl rfl (retBe (by rw [idxF_found hs1 (by omega) hs3 hc2])) -- ret 1
    · skip
      refine CS.skip ?_
      refine QS.block_normal ?_
      refine QS.then_code ?_
      refine CS.region ?_
      refine WS.det rfl rfl rfl (det_add rfl rfl (by omega)) rfl ?_ -- r6.0 slices.go:108
      refine WS.det rfl rfl rfl (det_move rfl) rfl ?_ -- r6.1 slices.go:108
      refine WS.done ?_
      exact QS.head (s + 1) rfl rfl ⟨⟨by omega, by omega, fun j h1 h2 => if hj : j = s then by rw [hj]; exact hc2 else hs3 j h1 (by omega)⟩, by omega⟩
  · skip
    refine CS.leave ?_
    refine QS.then_exit ?_
    refine QS.then_exit ?_
    refine QS.block_exit ?_
    refine QS.then_code ?_
    refine CS.seq ?_
    refine CS.region ?_
    refine WS.det rfl rfl rfl (det_assign rfl) rfl ?_ -- r7.0 slices.go:113
    refine WS.done ?_
    refine QS.then_code ?_
    refine CS.ret ?_
    exact out1 rfl rfl (retBe (by rw [idxF_none fun j h1 h2 => hs3 j h1 (by omega)])) -- ret 2

theorem ContainsI_c (xs : List (Int)) (v : Value) (w : World) (h1 : SlI w v xs) (g : Nat) (lb : List Value) (p : Int → Bool) (hg : Ent Try.prog g)
    (hp : ∀ u, Below w.heap.size w u → ∀ i : Int, 0 ≤ i → i < xs.length → Calls Try.prog g ([.int .i64 (nth xs i)] ++ lb : List Value).toArray u (RetB u (.bool (p (nth xs i))))) :
    Calls Try.prog 96 #[v, .func (.func g) #[] lb.toArray] w (RetB w (.bool (xs.any p))) := by
  refine enter Try.func96 rfl rfl (Nat.le_of_ble_eq_true rfl) ?_
  refine CS.seq ?_
  refine CS.region ?_
  refine WS.det rfl rfl rfl (det_assign rfl) rfl ?_ -- r0.0 slices.go:124
  refine WS.done ?_
  refine QS.then_code ?_
  refine CS.seq ?_
  refine CS.region ?_
  refine WS.det rfl rfl rfl (det_move rfl) rfl ?_ -- r1.0 slices.go:125
  refine WS.det rfl rfl rfl (det_move rfl) rfl ?_ -- r1.1 slices.go:125
  refine WS.det rfl rfl rfl (det_callB rfl rfl ent99 (fun u hu => IndexI_c xs v u (h1.st hu) g lb p hg (fun u2 h2 => hp u2 (below_trans hu.below h2)))) rfl ?_ -- r1.2 slices.go:125
  refine WS.det rfl rfl rfl (det_ge rfl rfl) rfl ?_ -- r1.3 slices.go:125
  refine WS.det rfl rfl rfl (det_assign rfl) rfl ?_ -- r1.4 slices.go:125
  refine WS.done ?_
  refine QS.then_code ?_
  refine CS.ret ?_
  exact out1 rfl rfl (retBe (by rw [idxF_any])) -- ret 1

theorem IndexL_c (xs : List (List Int)) (v : Value) (gs : List Value) (w : World) (h1 : SlL w v xs gs) (g : Nat) (lb : List Value) (p : List Int → Bool) (hg : Ent Try.prog g)
    (hp : ∀ u, Below w.heap.size w u → ∀ i : Int, 0 ≤ i → i < xs.length → Calls Try.prog g ([nth gs i] ++ lb : List Value).toArray u (RetB u (.bool (p (nth xs i))))) :
    Calls Try.prog 95 #[v, .func (.func g) #[] lb.toArray] w (RetB w (.int .i64 (idxF p xs))) := by
  have hl1 := h1.le
  refine enter Try.func95 rfl rfl (Nat.le_of_ble_eq_true rfl) ?_
  refine CS.seq ?_
  refine CS.region ?_
  refine WS.det rfl rfl rfl (det_assign rfl) rfl ?_ -- r0.0 slices.go:107
  refine WS.done ?_
  refine QS.then_code ?_
  refine CS.seq ?_
  refine CS.seq ?_
  refine CS.region ?_
  refine WS.det rfl rfl rfl (det_move rfl) rfl ?_ -- r1.0 slices.go:108
  refine WS.det rfl rfl rfl ((by first | exact det_lenS sl51 rfl (by assumption) | exact det_lenS sl51 rfl (by first | exact SlL.sp (by assumption) | exact ClS.sp (by assumption)) | exact det_lenO sl51 rfl | exact det_lenV sl51 rfl ⟨_, _, rfl⟩)) rfl ?_ -- r1.1 slices.go:108
  refine WS.det rfl rfl rfl (det_move rfl) rfl ?_ -- r1.2 slices.go:108
  refine WS.done ?_
  refine QS.then_code ?_
  refine CS.block ?_
  refine CS.loopM (σ := Int) [4, 5, 9, 10, 11, 12, 13, 14, 15, 16, 17, 18] (fun s => [(8, .int .i64 s)]) (fun _ => _) (fun s => 0 ≤ s ∧ s ≤ xs.length ∧ ∀ j : Int, 0 ≤ j → j < s → p (nth xs j) = false) (fun s => (xs.length - s).toNat) 0 (fun _ _ => rfl) rfl rfl ⟨by omega, by omega, fun j h1 h2 => by omega⟩ ?_
  intro s t hs
  obtain ⟨hs1, hs2, hs3⟩ := hs
  refine CS.seq ?_
  refine CS.region ?_
  refine WS.det rfl rfl rfl (det_lt rfl rfl) rfl ?_ -- r2.0 slices.go:108
  refine WS.done ?_
  refine QS.then_code ?_
  refine CS.seq ?_
  refine CS.cond rfl (fun hc1 => ?_) (fun hc1 => ?_) <;> (try simp only [decide_eq_true_eq, decide_eq_false_iff_not, Bool.and_eq_true, Bool.or_eq_true, Bool.and_eq_false_iff, Bool.or_eq_false_iff, Bool.not_eq_true', Bool.not_eq_false', ne_eq, Decidable.not_not, Bool.not_true, Bool.not_false, bne_iff_ne, bne_eq_false_iff_eq, beq_iff_eq, beq_eq_false_iff_ne] at hc1)
  · skip
    refine CS.skip ?_
    refine QS.then_code ?_
    refine CS.seq ?_
    refine CS.block ?_
    refine CS.seq ?_
    refine CS.region ?_
    refine WS.det rfl rfl rfl (det_move rfl) rfl ?_ -- r3.0 slices.go:108
    refine WS.det rfl rfl rfl (det_assign rfl) rfl ?_ -- r3.1 slices.go:108
    refine WS.done ?_
    refine QS.then_code ?_
    refine CS.seq ?_
    refine CS.region ?_
    refine WS.det rfl rfl rfl (det_move rfl) rfl ?_ -- r4.0 slices.go:109
    refine WS.det rfl rfl rfl (det_move rfl) rfl ?_ -- r4.1 slices.go:109
    refine WS.det rfl rfl rfl (det_move rfl) rfl ?_ -- r4.2 slices.go:109
    refine WS.det rfl rfl rfl ((by first | exact det_idxL sl51 rfl rfl (by assumption) (by omega) (by omega) | exact det_idxO sl51 rfl rfl (by omega) (by omega))) rfl ?_ -- r4.3 slices.go:109
    refine WS.det rfl rfl rfl ((by first | exact det_ldL rfl (by assumption) (by omega) tk24 | exact det_loadb (j := 0) rfl rfl rfl tk24 | exact det_loadb (j := 1) rfl rfl rfl tk24 | exact det_loadb (j := 2) rfl rfl rfl tk24 | exact det_loadb (j := 3) rfl rfl rfl tk24 | exact det_loadw rfl (by assumption) rfl tk24)) rfl ?_ -- r4.4 slices.go:109
    refine WS.det rfl rfl rfl (det_callB rfl rfl hg (fun u hu => hp u hu.below s (by omega) (by omega))) rfl ?_ -- r4.5 slices.go:109
    refine WS.done ?_
    refine QS.then_code ?_
    refine CS.cond rfl (fun hc2 => ?_) (fun hc2 => ?_) <;> (try simp only [decide_eq_true_eq, decide_eq_false_iff_not, Bool.and_eq_true, Bool.or_eq_true, Bool.and_eq_false_iff, Bool.or_eq_false_iff, Bool.not_eq_true', Bool.not_eq_false', ne_eq, Decidable.not_not, Bool.not_true, Bool.not_false, bne_iff_ne, bne_eq_false_iff_eq, beq_iff_eq, beq_eq_false_iff_ne] at hc2)
    · skip
      refine CS.seq ?_
      refine CS.region ?_
      refine WS.det rfl rfl rfl (det_move rfl) rfl ?_ -- r5.0 slices.go:110
      refine WS.det rfl rfl rfl (det_assign rfl) rfl ?_ -- r5.1 slices.go:110
      refine WS.done ?_
      refine QS.then_code ?_
      refine CS.ret ?_
      refine QS.block_ret ?_
      refine QS.then_ret ?_
      refine QS.then_ret ?_
      refine QS.block_ret ?_
      refine QS.then_ret ?_
      exact out1 rfl rfl (retBe (by rw [idxF_found hs1 (by omega) hs3 hc2])) -- ret 1
    · skip
      refine CS.skip ?_
      refine QS.block_normal ?_
      refine QS.then_code ?_
      refine CS.region ?_
      refine WS.det rfl rfl rfl (det_add rfl rfl (by omega)) rfl ?_ -- r6.0 slices.go:108
      refine WS.det rfl rfl rfl (det_move rfl) rfl ?_ -- r6.1 slices.go:108
      refine WS.done ?_
      exact QS.head (s + 1) rfl rfl ⟨⟨by omega, by omega, fun j h1 h2 => if hj : j = s then by rw [hj]; exact hc2 else hs3 j h1 (by omega)⟩, by omega⟩
  · skip
    refine CS.leave ?_
    refine QS.then_exit ?_
    refine QS.then_exit ?_
    refine QS.block_exit ?_
    refine QS.then_code ?_
    refine CS.seq ?_
    refine CS.region ?_
    refine WS.det rfl rfl rfl (det_assign rfl) rfl ?_ -- r7.0 slices.go:113
    refine WS.done ?_
    refine QS.then_code ?_
    refine CS.ret ?_
    exact out1 rfl rfl (retBe (by rw [idxF_none fun j h1 h2 => hs3 j h1 (by omega)])) -- ret 2

theorem ContainsL_c (xs : List (List Int)) (v : Value) (gs : List Value) (w : World) (h1 : SlL w v xs gs) (g : Nat) (lb : List Value) (p : List Int → Bool) (hg : Ent Try.prog g)
    (hp : ∀ u, Below w.heap.size w u → ∀ i : Int, 0 ≤ i → i < xs.length → Calls Try.prog g ([nth gs i] ++ lb : List Value).toArray u (RetB u (.bool (p (nth xs i))))) :
    Calls Try.prog 80 #[v, .func (.func g) #[] lb.toArray] w (RetB w (.bool (xs.any p))) := by
  refine enter Try.func80 rfl rfl (Nat.le_of_ble_eq_true rfl) ?_
  refine CS.seq ?_
  refine CS.region ?_
  refine WS.det rfl rfl rfl (det_assign rfl) rfl ?_ -- r0.0 slices.go:124
  refine WS.done ?_
  refine QS.then_code ?_
  refine CS.seq ?_
  refine CS.region ?_
  refine WS.det rfl rfl rfl (det_move rfl) rfl ?_ -- r1.0 slices.go:125
  refine WS.det rfl rfl rfl (det_move rfl) rfl ?_ -- r1.1 slices.go:125
  refine WS.det rfl rfl rfl (det_callB rfl rfl ent95 (fun u hu => IndexL_c xs v gs u (h1.st hu) g lb p hg (fun u2 h2 => hp u2 (below_trans hu.below h2)))) rfl ?_ -- r1.2 slices.go:125
  refine WS.det rfl rfl rfl (det_ge rfl rfl) rfl ?_ -- r1.3 slices.go:125
  refine WS.det rfl rfl rfl (det_assign rfl) rfl ?_ -- r1.4 slices.go:125
  refine WS.done ?_
  refine QS.then_code ?_
  refine CS.ret ?_
  exact out1 rfl rfl (retBe (by rw [idxF_any])) -- ret 1

theorem codeF_c (lw ls n : Int) (b : Nat) (e : TypeId) (w : World) (hL : lockB lw ls = true) (hb : BlkAt w b [.int .i64 lw, .int .i64 ls] e) :
    Calls Try.prog 97 #[.int .i64 n, .pointer (some ⟨b, 0, none⟩)] w (RetB w (.bool (!within n 0 (ls - 1)))) := by
  refine enter Try.func97 rfl rfl (Nat.le_of_ble_eq_true rfl) ?_
  refine CS.seq ?_
  refine CS.region ?_
  refine WS.det rfl rfl rfl (det_assign rfl) rfl ?_ -- r0.0 codes.go:24
  refine WS.done ?_
  refine QS.then_code ?_
  refine CS.seq ?_
  refine CS.region ?_
  refine WS.det rfl rfl rfl ((by first | exact det_loadb0 (j := 0) rfl rfl tk77 | exact det_loadb0 (j := 1) rfl rfl tk77 | exact det_loadb0 (j := 2) rfl rfl tk77 | exact det_loadb0 (j := 3) rfl rfl tk77 | exact det_loadbN (j := 0) rfl rfl (by rfl) tk77 | exact det_loadbN (j := 1) rfl rfl (by rfl) tk77 | exact det_loadbN (j := 2) rfl rfl (by rfl) tk77 | exact det_loadbN (j := 3) rfl rfl (by rfl) tk77 | exact det_loadwN rfl (by assumption) (by rfl) tk77)) rfl ?_ -- r1.0 codes.go:24
  refine WS.det rfl rfl rfl (det_move rfl) rfl ?_ -- r1.1 codes.go:24
  refine WS.det rfl rfl rfl (det_callB rfl rfl ent89 (fun u hu => symbol_c _ _ _ u hL)) rfl ?_ -- r1.2 codes.go:24
  refine WS.det rfl rfl rfl (det_not rfl) rfl ?_ -- r1.3 codes.go:24
  refine WS.det rfl rfl rfl (det_assign rfl) rfl ?_ -- r1.4 codes.go:24
  refine WS.done ?_
  refine QS.then_code ?_
  refine CS.ret ?_
  exact out1 rfl rfl retB -- ret 1

theorem code_c (lw ls : Int) (xs : List Int) (v : Value) (w : World) (hL : lockB lw ls = true) (h1 : SlI w v xs) :
    Calls Try.prog 82 #[.agg #[.int .i64 lw, .int .i64 ls], v] w (RetB w (.bool (codeB lw ls xs))) := by
  refine enter Try.func82 rfl rfl (Nat.le_of_ble_eq_true rfl) ?_
  refine CS.seq ?_
  refine CS.region ?_
  refine WS.box rfl rfl (fun _ => rfl) ?_; intro b2 hb2 -- r0.0 codes.go:23
  refine WS.det rfl rfl rfl (det_assign rfl) rfl ?_ -- r0.1 codes.go:23
  refine WS.done ?_
  refine QS.then_code ?_
  refine CS.seq ?_
  refine CS.region ?_
  refine WS.det rfl rfl rfl (det_move rfl) rfl ?_ -- r1.0 codes.go:24
  refine WS.det rfl rfl rfl ((by first | exact det_lenS sl24 rfl (by assumption) | exact det_lenS sl24 rfl (by first | exact SlL.sp (by assumption) | exact ClS.sp (by assumption)) | exact det_lenO sl24 rfl | exact det_lenV sl24 rfl ⟨_, _, rfl⟩)) rfl ?_ -- r1.1 codes.go:24
  refine WS.det rfl rfl rfl ((by first | exact det_fieldAddr rfl fo77_0 | exact det_fieldAddrS rfl fo77_0)) rfl ?_ -- r1.2 codes.go:24
  refine WS.det rfl rfl rfl ((by first | exact det_loadb (j := 0) rfl rfl rfl tk3 | exact det_loadw rfl (by assumption) rfl tk3)) rfl ?_ -- r1.3 codes.go:24
  refine WS.det rfl rfl rfl (det_eq rfl rfl) rfl ?_ -- r1.4 codes.go:24
  refine WS.det rfl rfl rfl (det_move rfl) rfl ?_ -- r1.5 codes.go:24
  refine WS.guardT rfl rfl rfl rfl (fun hg => det_move rfl) rfl ?_ -- r1.6 codes.go:24
  refine WS.guardT rfl rfl rfl rfl (fun hg => det_makeFunc rfl) rfl ?_ -- r1.7 codes.go:24
  refine WS.guardT rfl rfl rfl rfl (fun hg => det_callB rfl (evs_cons (ev_cond hg rfl) (evs_cons (ev_cond hg rfl) evs_nil)) ent96 (fun u hu => ContainsI_c xs v u (h1.st hu) _ [.pointer (some ⟨b2, 0, none⟩)] (fun x => !within x 0 (ls - 1)) ent97 (fun u2 h2 i _ _ => codeF_c _ _ _ _ _ u2 hL ((st_blk hu (j := 0) rfl).ext h2)))) rfl ?_ -- r1.8 codes.go:24
  refine WS.guardT rfl rfl rfl rfl (fun hg => det_not (ev_cond hg rfl)) rfl ?_ -- r1.9 codes.go:24
  refine WS.det rfl rfl rfl (det_pick_and rfl rfl rfl) rfl ?_ -- r1.10 codes.go:24
  refine WS.det rfl rfl rfl (det_assign rfl) rfl ?_ -- r1.11 codes.go:24
  refine WS.done ?_
  refine QS.then_code ?_
  refine CS.ret ?_
  exact out1 rfl rfl (retBe (by simp [codeB, List.all_eq_not_any_not])) -- ret 1

theorem checkCodesF_c (lw ls : Int) (xs : List Int) (v : Value) (b : Nat) (e : TypeId) (w : World) (hL : lockB lw ls = true) (h1 : SlI w v xs) (hb : BlkAt w b [.int .i64 lw, .int .i64 ls] e) :
    Calls Try.prog 81 #[v, .pointer (some ⟨b, 0, none⟩)] w (RetB w (.bool (!codeB lw ls xs))) := by
  refine enter Try.func81 rfl rfl (Nat.le_of_ble_eq_true rfl) ?_
  refine CS.seq ?_
  refine CS.region ?_
  refine WS.det rfl rfl rfl (det_assign rfl) rfl ?_ -- r0.0 codes.go:81
  refine WS.done ?_
  refine QS.then_code ?_
  refine CS.seq ?_
  refine CS.region ?_
  refine WS.det rfl rfl rfl ((by first | exact det_loadb0 (j := 0) rfl rfl tk23 | exact det_loadb0 (j := 1) rfl rfl tk23 | exact det_loadb0 (j := 2) rfl rfl tk23 | exact det_loadb0 (j := 3) rfl rfl tk23 | exact det_loadbN (j := 0) rfl rfl (by rfl) tk23 | exact det_loadbN (j := 1) rfl rfl (by rfl) tk23 | exact det_loadbN (j := 2) rfl rfl (by rfl) tk23 | exact det_loadbN (j := 3) rfl rfl (by rfl) tk23 | exact det_loadwN rfl (by assumption) (by rfl) tk23)) rfl ?_ -- r1.0 codes.go:81
  refine WS.det rfl rfl rfl (det_move rfl) rfl ?_ -- r1.1 codes.go:81
  refine WS.det rfl rfl rfl (det_callB rfl rfl ent82 (fun u hu => code_c _ _ _ _ u hL (h1.st hu))) rfl ?_ -- r1.2 codes.go:81
  refine WS.det rfl rfl rfl (det_not rfl) rfl ?_ -- r1.3 codes.go:81
  refine WS.det rfl rfl rfl (det_assign rfl) rfl ?_ -- r1.4 codes.go:81
  refine WS.done ?_
  refine QS.then_code ?_
  refine CS.ret ?_
  exact out1 rfl rfl retB -- ret 1

theorem checkCodes_c (lw ls : Int) (xss : List (List Int)) (gs : List Value) (v : Value) (w : World) (h1 : SlL w v xss gs) :
    Calls Try.prog 54 #[.agg #[.int .i64 lw, .int .i64 ls], v] w (RetB w (.int .i64 (if lockB lw ls then if xss.all (codeB lw ls) then 0 else 12 else 10))) := by
  refine enter Try.func54 rfl rfl (Nat.le_of_ble_eq_true rfl) ?_
  refine CS.seq ?_
  refine CS.region ?_
  refine WS.box rfl rfl (fun _ => rfl) ?_; intro b2 hb2 -- r0.0 codes.go:77
  refine WS.det rfl rfl rfl (det_assign rfl) rfl ?_ -- r0.1 codes.go:77
  refine WS.done ?_
  refine QS.then_code ?_
  refine CS.seq ?_
  refine CS.seq ?_
  refine CS.region ?_
  refine WS.det rfl rfl rfl ((by first | exact det_loadb0 (j := 0) rfl rfl tk23 | exact det_loadbN (j := 0) rfl rfl (by rfl) tk23 | exact det_loadwN rfl (by assumption) (by rfl) tk23)) rfl ?_ -- r1.0 codes.go:78
  refine WS.det rfl rfl rfl (det_callB rfl rfl ent23 (fun u hu => Check_c _ _ u)) rfl ?_ -- r1.1 codes.go:78
  refine WS.det rfl rfl rfl (det_assign rfl) rfl ?_ -- r1.2 codes.go:78
  refine WS.done ?_
  refine QS.then_code ?_
  refine CS.seq ?_
  refine CS.region ?_
  refine WS.det rfl rfl rfl (det_move rfl) rfl ?_ -- r2.0 codes.go:78
  refine WS.det rfl rfl rfl (det_ne rfl rfl) rfl ?_ -- r2.1 codes.go:78
  refine WS.done ?_
  refine QS.then_code ?_
  refine CS.cond rfl (fun hc1 => ?_) (fun hc1 => ?_) <;> (try simp only [decide_eq_true_eq, decide_eq_false_iff_not, Bool.and_eq_true, Bool.or_eq_true, Bool.and_eq_false_iff, Bool.or_eq_false_iff, Bool.not_eq_true', Bool.not_eq_false', ne_eq, Decidable.not_not, Bool.not_true, Bool.not_false, bne_iff_ne, bne_eq_false_iff_eq, beq_iff_eq, beq_eq_false_iff_ne] at hc1)
  · skip
    refine CS.seq ?_
    refine CS.region ?_
    refine WS.det rfl rfl rfl (det_move rfl) rfl ?_ -- r3.0 codes.go:79
    refine WS.det rfl rfl rfl (det_assign rfl) rfl ?_ -- r3.1 codes.go:79
    refine WS.done ?_
    refine QS.then_code ?_
    refine CS.ret ?_
    refine QS.then_ret ?_
    exact out1 rfl rfl (retBe (by have : lockB lw ls = false := (by simpa [lockE] using hc1); simp [lockE, this])) -- ret 1
  · skip
    have hL : lockB lw ls = true := by simpa [lockE] using hc1
    refine CS.skip ?_
    refine QS.then_code ?_
    refine CS.seq ?_
    refine CS.seq ?_
    refine CS.region ?_
    refine WS.det rfl rfl rfl (det_move rfl) rfl ?_ -- r4.0 codes.go:81
    refine WS.det rfl rfl rfl (det_makeFunc rfl) rfl ?_ -- r4.1 codes.go:81
    refine WS.det rfl rfl rfl (det_callB rfl rfl ent80 (fun u hu => ContainsL_c xss v gs u (h1.st hu) _ [.pointer (some ⟨b2, 0, none⟩)] (fun xs => !codeB lw ls xs) ent81 (fun u2 h2 i h3 h4 => checkCodesF_c _ _ _ _ _ _ u2 hL (((h1.st hu).ext h2).el i h3 h4) ((st_blk hu (j := 0) rfl).ext h2)))) rfl ?_ -- r4.2 codes.go:81
    refine WS.done ?_
    refine QS.then_code ?_
    refine CS.cond rfl (fun hc2 => ?_) (fun hc2 => ?_) <;> (try simp only [decide_eq_true_eq, decide_eq_false_iff_not, Bool.and_eq_true, Bool.or_eq_true, Bool.and_eq_false_iff, Bool.or_eq_false_iff, Bool.not_eq_true', Bool.not_eq_false', ne_eq, Decidable.not_not, Bool.not_true, Bool.not_false, bne_iff_ne, bne_eq_false_iff_eq, beq_iff_eq, beq_eq_false_iff_ne] at hc2)
    · skip
      refine CS.seq ?_
      refine CS.region ?_
      refine WS.det rfl rfl rfl (det_assign rfl) rfl ?_ -- r5.0 codes.go:82
      refine WS.done ?_
      refine QS.then_code ?_
      refine CS.ret ?_
      refine QS.then_ret ?_
      exact out1 rfl rfl (retBe (by simp [hL] at hc2 ⊢; simpa using hc2)) -- ret 2
    · skip
      refine CS.skip ?_
      refine QS.then_code ?_
      refine CS.seq ?_
      refine CS.region ?_
      refine WS.det rfl rfl rfl (det_assign rfl) rfl ?_ -- r6.0 codes.go:84
      refine WS.done ?_
      refine QS.then_code ?_
      refine CS.ret ?_
      exact out1 rfl rfl (retBe (by simp [hL] at hc2 ⊢; simpa using hc2)) -- ret 3

theorem CheckCode_c (lw ls : Int) (xs : List Int) (v : Value) (w : World) (h1 : SlI w v xs) :
    Calls Try.prog 27 #[.agg #[.int .i64 lw, .int .i64 ls], v] w (RetB w (.int .i64 (codeE lw ls xs))) := by
  refine enter Try.func27 rfl rfl (Nat.le_of_ble_eq_true rfl) ?_
  refine CS.seq ?_
  refine CS.region ?_
  refine WS.box rfl rfl (fun _ => rfl) ?_; intro b2 hb2 -- r0.0 codes.go:74
  refine WS.det rfl rfl rfl (det_assign rfl) rfl ?_ -- r0.1 codes.go:74
  refine WS.done ?_
  refine QS.then_code ?_
  refine CS.seq ?_
  refine CS.region ?_
  refine WS.det rfl rfl rfl ((by first | exact det_loadb0 (j := 0) rfl rfl tk23 | exact det_loadbN (j := 0) rfl rfl (by rfl) tk23 | exact det_loadwN rfl (by assumption) (by rfl) tk23)) rfl ?_ -- r1.0 codes.go:74
  refine WS.det rfl rfl rfl (det_move rfl) rfl ?_ -- r1.1 codes.go:74
  refine WS.buildSlice1 sl51 zv24 (vs := [v]) rfl rfl (by decide) (by intro y hy; obtain ⟨_, p, cap, rfl, _⟩ := h1; simp at hy; subst hy; rfl) (fun _ => rfl) ?_; intro v12 -- r1.2 codes.go:74
  refine WS.det rfl rfl rfl (det_callB rfl rfl ent54 (fun u hu => checkCodes_c _ _ [xs] _ _ u (SlL.one (osl_SlC hu (j := 0) rfl) (h1.st hu)))) rfl ?_ -- r1.3 codes.go:74
  refine WS.det rfl rfl rfl (det_assign rfl) rfl ?_ -- r1.4 codes.go:74
  refine WS.done ?_
  refine QS.then_code ?_
  refine CS.ret ?_
  exact out1 rfl rfl (retBe (by simp [codeE])) -- ret 1

theorem isCode_c (lw ls : Int) (xs : List Int) (v : Value) (w : World) (hL : lockB lw ls = true) (h1 : SlI w v xs) :
    Calls Try.prog 59 #[.agg #[.int .i64 lw, .int .i64 ls], v] w (RetB w (.bool (codeB lw ls xs))) := by
  have hl1 := h1.le
  have hl := lock_of hL
  refine enter Try.func59 rfl rfl (Nat.le_of_ble_eq_true rfl) ?_
  refine CS.seq ?_
  refine CS.region ?_
  refine WS.box rfl rfl (fun _ => rfl) ?_; intro b2 hb2 -- r0.0 ref.go:18
  refine WS.det rfl rfl rfl (det_assign rfl) rfl ?_ -- r0.1 ref.go:18
  refine WS.done ?_
  refine QS.then_code ?_
  refine CS.seq ?_
  refine CS.seq ?_
  refine CS.region ?_
  refine WS.det rfl rfl rfl (det_move rfl) rfl ?_ -- r1.0 ref.go:19
  refine WS.det rfl rfl rfl ((by first | exact det_lenS sl24 rfl (by assumption) | exact det_lenS sl24 rfl (by first | exact SlL.sp (by assumption) | exact ClS.sp (by assumption)) | exact det_lenO sl24 rfl | exact det_lenV sl24 rfl ⟨_, _, rfl⟩)) rfl ?_ -- r1.1 ref.go:19
  refine WS.det rfl rfl rfl ((by first | exact det_fieldAddr rfl fo23_0 | exact det_fieldAddrS rfl fo23_0)) rfl ?_ -- r1.2 ref.go:19
  refine WS.det rfl rfl rfl ((by first | exact det_loadb (j := 0) rfl rfl rfl tk3 | exact det_loadw rfl (by assumption) rfl tk3)) rfl ?_ -- r1.3 ref.go:19
  refine WS.det rfl rfl rfl (det_ne rfl rfl) rfl ?_ -- r1.4 ref.go:19
  refine WS.done ?_
  refine QS.then_code ?_
  refine CS.cond rfl (fun hc1 => ?_) (fun hc1 => ?_) <;> (try simp only [decide_eq_true_eq, decide_eq_false_iff_not, Bool.and_eq_true, Bool.or_eq_true, Bool.and_eq_false_iff, Bool.or_eq_false_iff, Bool.not_eq_true', Bool.not_eq_false', ne_eq, Decidable.not_not, Bool.not_true, Bool.not_false, bne_iff_ne, bne_eq_false_iff_eq, beq_iff_eq, beq_eq_false_iff_ne] at hc1)
  · skip
    refine CS.seq ?_
    refine CS.region ?_
    refine WS.det rfl rfl rfl (det_assign rfl) rfl ?_ -- r2.0 ref.go:20
    refine WS.done ?_
    refine QS.then_code ?_
    refine CS.ret ?_
    refine QS.then_ret ?_
    exact out1 rfl rfl (retBe (by rw [codeB_len hc1])) -- ret 1
  · skip
    refine CS.skip ?_
    refine QS.then_code ?_
    refine CS.seq ?_
    refine CS.seq ?_
    refine CS.region ?_
    refine WS.det rfl rfl rfl (det_assign rfl) rfl ?_ -- r3.0 ref.go:22
    refine WS.done ?_
    refine QS.then_code ?_
    refine CS.block ?_
    refine CS.loopM (σ := Int) [4, 11, 12, 13, 14, 15, 16, 17, 18, 19, 20, 21, 22, 23, 24, 25] (fun s => [(5, .int .i64 s)]) (fun _ => _) (fun s => 0 ≤ s ∧ s ≤ xs.length ∧ ∀ j : Int, 0 ≤ j → j < s → within (nth xs j) 0 (ls - 1) = true) (fun s => (xs.length - s).toNat) 0 (fun _ _ => rfl) rfl rfl ⟨by omega, by omega, fun j h1 h2 => by omega⟩ ?_
    intro s t hs
    obtain ⟨hs1, hs2, hs3⟩ := hs
    refine CS.seq ?_
    refine CS.seq ?_
    refine CS.region ?_
    refine WS.det rfl rfl rfl (det_move rfl) rfl ?_ -- r4.0 ref.go:22
    refine WS.det rfl rfl rfl (det_move rfl) rfl ?_ -- r4.1 ref.go:22
    refine WS.det rfl rfl rfl ((by first | exact det_lenS sl24 rfl (by assumption) | exact det_lenS sl24 rfl (by first | exact SlL.sp (by assumption) | exact ClS.sp (by assumption)) | exact det_lenO sl24 rfl | exact det_lenV sl24 rfl ⟨_, _, rfl⟩)) rfl ?_ -- r4.2 ref.go:22
    refine WS.det rfl rfl rfl (det_lt rfl rfl) rfl ?_ -- r4.3 ref.go:22
    refine WS.done ?_
    refine QS.then_code ?_
    refine CS.cond rfl (fun hc2 => ?_) (fun hc2 => ?_) <;> (try simp only [decide_eq_true_eq, decide_eq_false_iff_not, Bool.and_eq_true, Bool.or_eq_true, Bool.and_eq_false_iff, Bool.or_eq_false_iff, Bool.not_eq_true', Bool.not_eq_false', ne_eq, Decidable.not_not, Bool.not_true, Bool.not_false, bne_iff_ne, bne_eq_false_iff_eq, beq_iff_eq, beq_eq_false_iff_ne] at hc2)
    · skip
      refine CS.skip ?_
      refine QS.then_code ?_
      refine CS.seq ?_
      refine CS.block ?_
      refine CS.seq ?_
      refine CS.draw mixed (by kernel_rfl) (by kernel_rfl) ?_
      refine DS.det rfl rfl (det_move rfl) rfl ?_ -- r6.0 ref.go:23
      refine DS.det rfl rfl (det_move rfl) rfl ?_ -- r6.1 ref.go:23
      refine DS.det rfl rfl ((by first | exact det_idxI sl24 rfl rfl (by assumption) (by omega) (by omega) | exact det_idxO sl24 rfl rfl (by omega) (by omega))) rfl ?_ -- r6.2 ref.go:23
      refine DS.det rfl rfl ((by first | exact det_ldI rfl (by assumption) (by omega) tk3 | exact det_loadb (j := 0) rfl rfl rfl tk3 | exact det_loadb (j := 1) rfl rfl rfl tk3 | exact det_loadb (j := 2) rfl rfl rfl tk3 | exact det_loadb (j := 3) rfl rfl rfl tk3 | exact det_loadw rfl (by assumption) rfl tk3)) rfl ?_ -- r6.3 ref.go:23
      refine DS.det rfl rfl ((by first | exact det_fieldAddr rfl fo23_1 | exact det_fieldAddrS rfl fo23_1)) rfl ?_ -- r6.4 ref.go:23
      refine DS.det rfl rfl ((by first | exact det_loadb (j := 0) rfl rfl rfl tk3 | exact det_loadw rfl (by assumption) rfl tk3)) rfl ?_ -- r6.5 ref.go:23
      refine DS.det rfl rfl (det_sub rfl rfl (by omega)) rfl ?_ -- r6.6 ref.go:23
      refine DS.det rfl rfl (det_callB rfl rfl ent62 (fun u hu => Within_c _ _ _ u)) rfl ?_ -- r6.7 ref.go:23
      refine DS.det rfl rfl (det_not rfl) rfl ?_ -- r6.8 ref.go:23
      refine DS.done ?_
      refine QS.then_code ?_
      refine CS.cond rfl (fun hc3 => ?_) (fun hc3 => ?_) <;> (try simp only [decide_eq_true_eq, decide_eq_false_iff_not, Bool.and_eq_true, Bool.or_eq_true, Bool.and_eq_false_iff, Bool.or_eq_false_iff, Bool.not_eq_true', Bool.not_eq_false', ne_eq, Decidable.not_not, Bool.not_true, Bool.not_false, bne_iff_ne, bne_eq_false_iff_eq, beq_iff_eq, beq_eq_false_iff_ne] at hc3)
      · skip
        refine CS.seq ?_
        refine CS.region ?_
        refine WS.det rfl rfl rfl (det_assign rfl) rfl ?_ -- r7.0 ref.go:24
        refine WS.done ?_
        refine QS.then_code ?_
        refine CS.ret ?_
        refine QS.block_ret ?_
        refine QS.then_ret ?_
        refine QS.then_ret ?_
        refine QS.block_ret ?_
        refine QS.then_ret ?_
        exact out1 rfl rfl (retBe (by rw [codeB_bad hs1 (by omega) hc3])) -- ret 2
      · skip
        refine CS.skip ?_
        refine QS.block_normal ?_
        refine QS.then_code ?_
        refine CS.region ?_
        refine WS.det rfl rfl rfl (det_move rfl) rfl ?_ -- r5.0 ref.go:22
        refine WS.det rfl rfl rfl (det_add rfl rfl (by omega)) rfl ?_ -- r5.1 ref.go:22
        refine WS.det rfl rfl rfl (det_assign rfl) rfl ?_ -- r5.2 ref.go:22
        refine WS.done ?_
        exact QS.head (s + 1) rfl rfl ⟨⟨by omega, by omega, fun j h1 h2 => if hj : j = s then by rw [hj]; exact hc3 else hs3 j h1 (by omega)⟩, by omega⟩
    · skip
      refine CS.leave ?_
      refine QS.then_exit ?_
      refine QS.then_exit ?_
      refine QS.block_exit ?_
      refine QS.then_code ?_
      refine CS.seq ?_
      refine CS.region ?_
      refine WS.det rfl rfl rfl (det_assign rfl) rfl ?_ -- r8.0 ref.go:27
      refine WS.done ?_
      refine QS.then_code ?_
      refine CS.ret ?_
      exact out1 rfl rfl (retBe (by rw [codeB_all (by omega) fun j h1 h2 => hs3 j h1 (by omega)])) -- ret 3

theorem RCheckCode_c (lw ls : Int) (xs : List Int) (v : Value) (w : World) (h1 : SlI w v xs) :
    Calls Try.prog 28 #[.agg #[.int .i64 lw, .int .i64 ls], v] w (RetB w (.int .i64 (codeE lw ls xs))) := by
  refine enter Try.func28 rfl rfl (Nat.le_of_ble_eq_true rfl) ?_
  refine CS.seq ?_
  refine CS.region ?_
  refine WS.box rfl rfl (fun _ => rfl) ?_; intro b2 hb2 -- r0.0 ref.go:97
  refine WS.det rfl rfl rfl (det_assign rfl) rfl ?_ -- r0.1 ref.go:97
  refine WS.done ?_
  refine QS.then_code ?_
  refine CS.seq ?_
  refine CS.seq ?_
  refine CS.region ?_
  refine WS.det rfl rfl rfl ((by first | exact det_loadb0 (j := 0) rfl rfl tk23 | exact det_loadbN (j := 0) rfl rfl (by rfl) tk23 | exact det_loadwN rfl (by assumption) (by rfl) tk23)) rfl ?_ -- r1.0 ref.go:98
  refine WS.det rfl rfl rfl (det_callB rfl rfl ent24 (fun u hu => RCheck_c _ _ u)) rfl ?_ -- r1.1 ref.go:98
  refine WS.det rfl rfl rfl (det_assign rfl) rfl ?_ -- r1.2 ref.go:98
  refine WS.done ?_
  refine QS.then_code ?_
  refine CS.seq ?_
  refine CS.region ?_
  refine WS.det rfl rfl rfl (det_move rfl) rfl ?_ -- r2.0 ref.go:98
  refine WS.det rfl rfl rfl (det_ne rfl rfl) rfl ?_ -- r2.1 ref.go:98
  refine WS.done ?_
  refine QS.then_code ?_
  refine CS.cond rfl (fun hc1 => ?_) (fun hc1 => ?_) <;> (try simp only [decide_eq_true_eq, decide_eq_false_iff_not, Bool.and_eq_true, Bool.or_eq_true, Bool.and_eq_false_iff, Bool.or_eq_false_iff, Bool.not_eq_true', Bool.not_eq_false', ne_eq, Decidable.not_not, Bool.not_true, Bool.not_false, bne_iff_ne, bne_eq_false_iff_eq, beq_iff_eq, beq_eq_false_iff_ne] at hc1)
  · skip
    refine CS.seq ?_
    refine CS.region ?_
    refine WS.det rfl rfl rfl (det_move rfl) rfl ?_ -- r3.0 ref.go:99
    refine WS.det rfl rfl rfl (det_assign rfl) rfl ?_ -- r3.1 ref.go:99
    refine WS.done ?_
    refine QS.then_code ?_
    refine CS.ret ?_
    refine QS.then_ret ?_
    exact out1 rfl rfl (retBe (by have : lockB lw ls = false := (by simpa [lockE] using hc1); simp [codeE, lockE, this])) -- ret 1
  · skip
    have hL : lockB lw ls = true := by simpa [lockE] using hc1
    refine CS.skip ?_
    refine QS.then_code ?_
    refine CS.seq ?_
    refine CS.seq ?_
    refine CS.region ?_
    refine WS.det rfl rfl rfl ((by first | exact det_loadb0 (j := 0) rfl rfl tk23 | exact det_loadbN (j := 0) rfl rfl (by rfl) tk23 | exact det_loadwN rfl (by assumption) (by rfl) tk23)) rfl ?_ -- r4.0 ref.go:101
    refine WS.det rfl rfl rfl (det_move rfl) rfl ?_ -- r4.1 ref.go:101
    refine WS.det rfl rfl rfl (det_callB rfl rfl ent59 (fun u hu => isCode_c _ _ _ _ u hL (h1.st hu))) rfl ?_ -- r4.2 ref.go:101
    refine WS.det rfl rfl rfl (det_not rfl) rfl ?_ -- r4.3 ref.go:101
    refine WS.done ?_
    refine QS.then_code ?_
    refine CS.cond rfl (fun hc2 => ?_) (fun hc2 => ?_) <;> (try simp only [decide_eq_true_eq, decide_eq_false_iff_not, Bool.and_eq_true, Bool.or_eq_true, Bool.and_eq_false_iff, Bool.or_eq_false_iff, Bool.not_eq_true', Bool.not_eq_false', ne_eq, Decidable.not_not, Bool.not_true, Bool.not_false, bne_iff_ne, bne_eq_false_iff_eq, beq_iff_eq, beq_eq_false_iff_ne] at hc2)
    · skip
      refine CS.seq ?_
      refine CS.region ?_
      refine WS.det rfl rfl rfl (det_assign rfl) rfl ?_ -- r5.0 ref.go:102
      refine WS.done ?_
      refine QS.then_code ?_
      refine CS.ret ?_
      refine QS.then_ret ?_
      exact out1 rfl rfl (retBe (by simp [codeE, hL, hc2])) -- ret 2
    · skip
      refine CS.skip ?_
      refine QS.then_code ?_
      refine CS.seq ?_
      refine CS.region ?_
      refine WS.det rfl rfl rfl (det_assign rfl) rfl ?_ -- r6.0 ref.go:104
      refine WS.done ?_
      refine QS.then_code ?_
      refine CS.ret ?_
      exact out1 rfl rfl (retBe (by simp [codeE, hL, hc2])) -- ret 3

theorem shown_c (xs : List Int) (v : Value) (y : Int) (w : World) (h1 : SlI w v xs) :
    Calls Try.prog 83 #[v, .int .i64 y] w (RetB w (.int .i64 (cnt xs y))) := by
  have hl1 := h1.le
  refine enter Try.func83 rfl rfl (Nat.le_of_ble_eq_true rfl) ?_
  refine CS.seq ?_
  refine CS.region ?_
  refine WS.det rfl rfl rfl (det_assign rfl) rfl ?_ -- r0.0 ref.go:124
  refine WS.done ?_
  refine QS.then_code ?_
  refine CS.seq ?_
  refine CS.region ?_
  refine WS.det rfl rfl rfl (det_assign rfl) rfl ?_ -- r1.0 ref.go:125
  refine WS.done ?_
  refine QS.then_code ?_
  refine CS.seq ?_
  refine CS.seq ?_
  refine CS.region ?_
  refine WS.det rfl rfl rfl (det_assign rfl) rfl ?_ -- r2.0 ref.go:126
  refine WS.done ?_
  refine QS.then_code ?_
  refine CS.block ?_
  refine CS.loopM (σ := Int × Int) [7, 8, 9, 10, 11, 12, 13, 14, 15, 16, 17, 18, 19, 20] (fun s => [(5, .int .i64 s.2), (6, .int .i64 s.1)]) (fun _ => _) (fun s => 0 ≤ s.1 ∧ s.1 ≤ xs.length ∧ s.2 = cnt (xs.take s.1.toNat) y) (fun s => (xs.length - s.1).toNat) (0, 0) (fun _ _ => rfl) rfl rfl ⟨by simp, by simp, rfl⟩ ?_
  intro s t hs
  obtain ⟨hs1, hs2, hs3⟩ := hs
  have hbd := cnt_le (xs.take s.1.toNat) y
  have hlt := List.length_take_le s.1.toNat xs
  refine CS.seq ?_
  refine CS.seq ?_
  refine CS.region ?_
  refine WS.det rfl rfl rfl (det_move rfl) rfl ?_ -- r3.0 ref.go:126
  refine WS.det rfl rfl rfl (det_move rfl) rfl ?_ -- r3.1 ref.go:126
  refine WS.det rfl rfl rfl ((by first | exact det_lenS sl24 rfl (by assumption) | exact det_lenS sl24 rfl (by first | exact SlL.sp (by assumption) | exact ClS.sp (by assumption)) | exact det_lenO sl24 rfl | exact det_lenV sl24 rfl ⟨_, _, rfl⟩)) rfl ?_ -- r3.2 ref.go:126
  refine WS.det rfl rfl rfl (det_lt rfl rfl) rfl ?_ -- r3.3 ref.go:126
  refine WS.done ?_
  refine QS.then_code ?_
  refine CS.cond rfl (fun hc1 => ?_) (fun hc1 => ?_) <;> (try simp only [decide_eq_true_eq, decide_eq_false_iff_not, Bool.and_eq_true, Bool.or_eq_true, Bool.and_eq_false_iff, Bool.or_eq_false_iff, Bool.not_eq_true', Bool.not_eq_false', ne_eq, Decidable.not_not, Bool.not_true, Bool.not_false, bne_iff_ne, bne_eq_false_iff_eq, beq_iff_eq, beq_eq_false_iff_ne] at hc1)
  · skip
    refine CS.skip ?_
    refine QS.then_code ?_
    refine CS.seq ?_
    refine CS.block ?_
    refine CS.seq ?_
    refine CS.region ?_
    refine WS.det rfl rfl rfl (det_move rfl) rfl ?_ -- r5.0 ref.go:127
    refine WS.det rfl rfl rfl (det_move rfl) rfl ?_ -- r5.1 ref.go:127
    refine WS.det rfl rfl rfl ((by first | exact det_idxI sl24 rfl rfl (by assumption) (by omega) (by omega) | exact det_idxO sl24 rfl rfl (by omega) (by omega))) rfl ?_ -- r5.2 ref.go:127
    refine WS.det rfl rfl rfl ((by first | exact det_ldI rfl (by assumption) (by omega) tk3 | exact det_loadb (j := 0) rfl rfl rfl tk3 | exact det_loadb (j := 1) rfl rfl rfl tk3 | exact det_loadb (j := 2) rfl rfl rfl tk3 | exact det_loadb (j := 3) rfl rfl rfl tk3 | exact det_loadw rfl (by assumption) rfl tk3)) rfl ?_ -- r5.3 ref.go:127
    refine WS.det rfl rfl rfl (det_move rfl) rfl ?_ -- r5.4 ref.go:127
    refine WS.det rfl rfl rfl (det_eq rfl rfl) rfl ?_ -- r5.5 ref.go:127
    refine WS.done ?_
    refine QS.then_code ?_
    refine CS.cond rfl (fun hc2 => ?_) (fun hc2 => ?_) <;> (try simp only [decide_eq_true_eq, decide_eq_false_iff_not, Bool.and_eq_true, Bool.or_eq_true, Bool.and_eq_false_iff, Bool.or_eq_false_iff, Bool.not_eq_true', Bool.not_eq_false', ne_eq, Decidable.not_not, Bool.not_true, Bool.not_false, bne_iff_ne, bne_eq_false_iff_eq, beq_iff_eq, beq_eq_false_iff_ne] at hc2)
    · skip
      refine CS.region ?_
      refine WS.det rfl rfl rfl (det_move rfl) rfl ?_ -- r6.0 ref.go:128
      refine WS.det rfl rfl rfl (det_add rfl rfl (by omega)) rfl ?_ -- r6.1 ref.go:128
      refine WS.det rfl rfl rfl (det_assign rfl) rfl ?_ -- r6.2 ref.go:128
      refine WS.done ?_
      refine QS.block_normal ?_
      refine QS.then_code ?_
      refine CS.region ?_
      refine WS.det rfl rfl rfl (det_move rfl) rfl ?_ -- r4.0 ref.go:126
      refine WS.det rfl rfl rfl (det_add rfl rfl (by omega)) rfl ?_ -- r4.1 ref.go:126
      refine WS.det rfl rfl rfl (det_assign rfl) rfl ?_ -- r4.2 ref.go:126
      refine WS.done ?_
      exact QS.head ((s.1 + 1, s.2 + 1)) rfl rfl ⟨⟨by simp; omega, by simp; omega, by simp only; rw [take_snocI xs hs1 (by omega), cnt_snoc, hs3]; simp [hc2]⟩, by simp; omega⟩
    · skip
      refine CS.skip ?_
      refine QS.block_normal ?_
      refine QS.then_code ?_
      refine CS.region ?_
      refine WS.det rfl rfl rfl (det_move rfl) rfl ?_ -- r4.0 ref.go:126
      refine WS.det rfl rfl rfl (det_add rfl rfl (by omega)) rfl ?_ -- r4.1 ref.go:126
      refine WS.det rfl rfl rfl (det_assign rfl) rfl ?_ -- r4.2 ref.go:126
      refine WS.done ?_
      exact QS.head ((s.1 + 1, s.2)) rfl rfl ⟨⟨by simp; omega, by simp; omega, by simp only; rw [take_snocI xs hs1 (by omega), cnt_snoc, hs3]; simp [hc2]⟩, by simp; omega⟩
  · skip
    refine CS.leave ?_
    refine QS.then_exit ?_
    refine QS.then_exit ?_
    refine QS.block_exit ?_
    refine QS.then_code ?_
    refine CS.seq ?_
    refine CS.region ?_
    refine WS.det rfl rfl rfl (det_move rfl) rfl ?_ -- r7.0 ref.go:131
    refine WS.det rfl rfl rfl (det_assign rfl) rfl ?_ -- r7.1 ref.go:131
    refine WS.done ?_
    refine QS.then_code ?_
    refine CS.ret ?_
    exact out1 rfl rfl (retBe (by rw [hs3, take_all xs (by omega)])) -- ret 1

end Go.Proofs.Ytldagbcceefcdaa
