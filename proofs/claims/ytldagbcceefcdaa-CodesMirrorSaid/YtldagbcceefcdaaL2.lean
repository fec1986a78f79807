/- Contracts of functions, printed by a program of the prover (gen.py). -/
import Derived.Test.YtldagbcceefcdaaL1
import Derived.Test.YtldagbcceefcdaaAnswers
import Derived.Test.YtldagbcceefcdaaFactsB
namespace Go.Proofs.Ytldagbcceefcdaa
open Go.RowKit Go.Proofs
set_option maxRecDepth 100000
set_option linter.unusedVariables false
set_option linter.unusedSimpArgs false

theorem CodesMirror_c (lw ls : Int) (xs ys : List Int) (v1 v2 : Value) (w : World) (h1 : SlI w v1 xs) (h2 : SlI w v2 ys) :
    Calls Try.prog 4 #[.agg #[.int .i64 lw, .int .i64 ls], v1, v2] w (RetB w (.bool true)) := by
  refine enter Try.func4 rfl rfl (Nat.le_of_ble_eq_true rfl) ?_
  refine CS.seq ?_
  refine CS.region ?_
  refine WS.box rfl rfl (fun _ => rfl) ?_; intro b3 hb3 -- r0.0 outright.go:197
  refine WS.det rfl rfl rfl (det_assign rfl) rfl ?_ -- r0.1 outright.go:197
  refine WS.done ?_
  refine QS.then_code ?_
  refine CS.seq ?_
  refine CS.region ?_
  refine WS.det rfl rfl rfl ((by first | exact det_loadb0 (j := 0) rfl rfl tk23 | exact det_loadbN (j := 0) rfl rfl (by rfl) tk23 | exact det_loadwN rfl (by assumption) (by rfl) tk23)) rfl ?_ -- r1.0 outright.go:198
  refine WS.det rfl rfl rfl (det_move rfl) rfl ?_ -- r1.1 outright.go:198
  refine WS.det rfl rfl rfl (det_move rfl) rfl ?_ -- r1.2 outright.go:198
  refine WS.det rfl rfl rfl (det_callB rfl rfl ent17 (fun u hu => Answer_c _ _ _ _ _ _ u (h1.st hu) (h2.st hu))) rfl ?_ -- r1.3 outright.go:198
  refine WS.det rfl rfl rfl (det_move rfl) rfl ?_ -- r1.4 outright.go:198
  refine WS.det rfl rfl rfl (det_extract rfl rfl) rfl ?_ -- r1.5 outright.go:198
  refine WS.det rfl rfl rfl (det_extract rfl rfl) rfl ?_ -- r1.6 outright.go:198
  refine WS.det rfl rfl rfl (det_extract rfl rfl) rfl ?_ -- r1.7 outright.go:198
  refine WS.det rfl rfl rfl (det_assign rfl) rfl ?_ -- r1.8 outright.go:198
  refine WS.det rfl rfl rfl (det_assign rfl) rfl ?_ -- r1.9 outright.go:198
  refine WS.det rfl rfl rfl (det_assign rfl) rfl ?_ -- r1.10 outright.go:198
  refine WS.done ?_
  refine QS.then_code ?_
  refine CS.seq ?_
  refine CS.region ?_
  refine WS.det rfl rfl rfl ((by first | exact det_loadb0 (j := 0) rfl rfl tk23 | exact det_loadbN (j := 0) rfl rfl (by rfl) tk23 | exact det_loadwN rfl (by assumption) (by rfl) tk23)) rfl ?_ -- r2.0 outright.go:199
  refine WS.det rfl rfl rfl (det_move rfl) rfl ?_ -- r2.1 outright.go:199
  refine WS.det rfl rfl rfl (det_move rfl) rfl ?_ -- r2.2 outright.go:199
  refine WS.det rfl rfl rfl (det_callB rfl rfl ent17 (fun u hu => Answer_c _ _ _ _ _ _ u (h2.st hu) (h1.st hu))) rfl ?_ -- r2.3 outright.go:199
  refine WS.det rfl rfl rfl (det_move rfl) rfl ?_ -- r2.4 outright.go:199
  refine WS.det rfl rfl rfl (det_extract rfl rfl) rfl ?_ -- r2.5 outright.go:199
  refine WS.det rfl rfl rfl (det_extract rfl rfl) rfl ?_ -- r2.6 outright.go:199
  refine WS.det rfl rfl rfl (det_extract rfl rfl) rfl ?_ -- r2.7 outright.go:199
  refine WS.det rfl rfl rfl (det_assign rfl) rfl ?_ -- r2.8 outright.go:199
  refine WS.det rfl rfl rfl (det_assign rfl) rfl ?_ -- r2.9 outright.go:199
  refine WS.det rfl rfl rfl (det_assign rfl) rfl ?_ -- r2.10 outright.go:199
  refine WS.done ?_
  refine QS.then_code ?_
  refine CS.seq ?_
  refine CS.seq ?_
  refine CS.region ?_
  refine WS.det rfl rfl rfl (det_move rfl) rfl ?_ -- r3.0 outright.go:200
  refine WS.det rfl rfl rfl (det_ne rfl rfl) rfl ?_ -- r3.1 outright.go:200
  refine WS.det rfl rfl rfl (det_move rfl) rfl ?_ -- r3.2 outright.go:200
  refine WS.guardF rfl rfl rfl rfl (fun hg => det_move rfl) rfl ?_ -- r3.3 outright.go:200
  refine WS.guardF rfl rfl rfl rfl (fun hg => det_ne (ev_cond hg rfl) rfl) rfl ?_ -- r3.4 outright.go:200
  refine WS.det rfl rfl rfl (det_pick_or rfl rfl rfl) rfl ?_ -- r3.5 outright.go:200
  refine WS.done ?_
  refine QS.then_code ?_
  refine CS.cond rfl (fun hc1 => ?_) (fun hc1 => ?_) <;> (try simp only [decide_eq_true_eq, decide_eq_false_iff_not, Bool.and_eq_true, Bool.or_eq_true, Bool.and_eq_false_iff, Bool.or_eq_false_iff, Bool.not_eq_true', Bool.not_eq_false', ne_eq, Decidable.not_not, Bool.not_true, Bool.not_false, bne_iff_ne, bne_eq_false_iff_eq, beq_iff_eq, beq_eq_false_iff_ne] at hc1)
  · skip
    refine CS.seq ?_
    refine CS.region ?_
    refine WS.det rfl rfl rfl (det_move rfl) rfl ?_ -- r4.0 outright.go:201
    refine WS.det rfl rfl rfl (det_ne rfl rfl) rfl ?_ -- r4.1 outright.go:201
    refine WS.det rfl rfl rfl (det_move rfl) rfl ?_ -- r4.2 outright.go:201
    refine WS.det rfl rfl rfl (det_ne rfl rfl) rfl ?_ -- r4.3 outright.go:201
    refine WS.det rfl rfl rfl (det_eqb rfl rfl Try.underlying4) rfl ?_ -- r4.4 outright.go:201
    refine WS.det rfl rfl rfl (det_move rfl) rfl ?_ -- r4.5 outright.go:201
    refine WS.guardT rfl rfl rfl rfl (fun hg => det_callB rfl rfl ent19 (fun u hu => works_c u)) rfl ?_ -- r4.6 outright.go:201
    refine WS.det rfl rfl rfl (det_pick_and rfl rfl rfl) rfl ?_ -- r4.7 outright.go:201
    refine WS.det rfl rfl rfl (det_assign rfl) rfl ?_ -- r4.8 outright.go:201
    refine WS.done ?_
    refine QS.then_code ?_
    refine CS.ret ?_
    refine QS.then_ret ?_
    exact out1 rfl rfl (retBe (by simp only [ne_eq, ansE_comm0 (w := lw) (s := ls) (xs := ys) (ys := xs)]; simp)) -- ret 1
  · skip
    have h0 := hc1.1
    have hself := ans_self h0
    have htwo := ans_two h0
    have ha1 := ansE_comm0.1 h0
    have hz1 : (if ansE lw ls xs ys = 0 then rightN xs ys else 0) = rightN xs ys := if_pos h0
    have hz2 : (if ansE lw ls xs ys = 0 then commonN xs ys 10 - rightN xs ys else 0) = commonN xs ys 10 - rightN xs ys := if_pos h0
    have hlk := lock_of (ansE_0.1 h0).1
    refine CS.skip ?_
    refine QS.then_code ?_
    refine CS.seq ?_
    refine CS.region ?_
    refine WS.det rfl rfl rfl ((by first | exact det_loadb0 (j := 0) rfl rfl tk23 | exact det_loadbN (j := 0) rfl rfl (by rfl) tk23 | exact det_loadwN rfl (by assumption) (by rfl) tk23)) rfl ?_ -- r5.0 outright.go:203
    refine WS.det rfl rfl rfl (det_move rfl) rfl ?_ -- r5.1 outright.go:203
    refine WS.det rfl rfl rfl (det_move rfl) rfl ?_ -- r5.2 outright.go:203
    refine WS.det rfl rfl rfl (det_callB rfl rfl ent17 (fun u hu => Answer_c _ _ _ _ _ _ u (h1.st hu) (h1.st hu))) rfl ?_ -- r5.3 outright.go:203
    refine WS.det rfl rfl rfl (det_move rfl) rfl ?_ -- r5.4 outright.go:203
    refine WS.det rfl rfl rfl (det_extract rfl rfl) rfl ?_ -- r5.5 outright.go:203
    refine WS.det rfl rfl rfl (det_extract rfl rfl) rfl ?_ -- r5.6 outright.go:203
    refine WS.det rfl rfl rfl (det_extract rfl rfl) rfl ?_ -- r5.7 outright.go:203
    refine WS.det rfl rfl rfl (det_assign rfl) rfl ?_ -- r5.8 outright.go:203
    refine WS.det rfl rfl rfl (det_assign rfl) rfl ?_ -- r5.9 outright.go:203
    refine WS.det rfl rfl rfl (det_assign rfl) rfl ?_ -- r5.10 outright.go:203
    refine WS.done ?_
    refine QS.then_code ?_
    refine CS.seq ?_
    refine CS.seq ?_
    refine CS.region ?_
    refine WS.det rfl rfl rfl (det_move rfl) rfl ?_ -- r6.0 outright.go:204
    refine WS.det rfl rfl rfl (det_ne rfl rfl) rfl ?_ -- r6.1 outright.go:204
    refine WS.det rfl rfl rfl (det_move rfl) rfl ?_ -- r6.2 outright.go:204
    refine WS.guardF rfl rfl rfl rfl (fun hg => det_move rfl) rfl ?_ -- r6.3 outright.go:204
    refine WS.guardF rfl rfl rfl rfl (fun hg => (by first | exact det_fieldAddr rfl fo23_0 | exact det_fieldAddrS rfl fo23_0)) rfl ?_ -- r6.4 outright.go:204
    refine WS.guardF rfl rfl rfl rfl (fun hg => (by first | exact det_loadb (j := 0) (ev_cond hg rfl) rfl rfl tk3 | exact det_loadw (ev_cond hg rfl) (by assumption) rfl tk3)) rfl ?_ -- r6.5 outright.go:204
    refine WS.guardF rfl rfl rfl rfl (fun hg => det_ne (ev_cond hg rfl) (ev_cond hg rfl)) rfl ?_ -- r6.6 outright.go:204
    refine WS.det rfl rfl rfl (det_pick_or rfl rfl rfl) rfl ?_ -- r6.7 outright.go:204
    refine WS.det rfl rfl rfl (det_move rfl) rfl ?_ -- r6.8 outright.go:204
    refine WS.guardF rfl rfl rfl rfl (fun hg => det_move rfl) rfl ?_ -- r6.9 outright.go:204
    refine WS.guardF rfl rfl rfl rfl (fun hg => det_ne (ev_cond hg rfl) rfl) rfl ?_ -- r6.10 outright.go:204
    refine WS.det rfl rfl rfl (det_pick_or rfl rfl rfl) rfl ?_ -- r6.11 outright.go:204
    refine WS.done ?_
    refine QS.then_code ?_
    refine CS.cond rfl (fun hc2 => ?_) (fun hc2 => ?_) <;> (try simp only [decide_eq_true_eq, decide_eq_false_iff_not, Bool.and_eq_true, Bool.or_eq_true, Bool.and_eq_false_iff, Bool.or_eq_false_iff, Bool.not_eq_true', Bool.not_eq_false', ne_eq, Decidable.not_not, Bool.not_true, Bool.not_false, bne_iff_ne, bne_eq_false_iff_eq, beq_iff_eq, beq_eq_false_iff_ne] at hc2)
    · skip
      refine CS.seq ?_
      refine CS.region ?_
      refine WS.det rfl rfl rfl (det_assign rfl) rfl ?_ -- r7.0 outright.go:205
      refine WS.done ?_
      refine QS.then_code ?_
      refine CS.ret ?_
      refine QS.then_ret ?_
      exact out1 rfl rfl (retBe (by obtain ⟨q1, q2, q3⟩ := hself; exfalso; simp only [if_pos q1] at hc2; omega)) -- ret 2
    · skip
      refine CS.skip ?_
      refine QS.then_code ?_
      refine CS.seq ?_
      refine CS.draw mixed (by kernel_rfl) (by kernel_rfl) ?_
      refine DS.det rfl rfl (det_move rfl) rfl ?_ -- r8.0 outright.go:207
      refine DS.det rfl rfl (det_move rfl) rfl ?_ -- r8.1 outright.go:207
      refine DS.det rfl rfl (det_eq rfl rfl) rfl ?_ -- r8.2 outright.go:207
      refine DS.det rfl rfl (det_move rfl) rfl ?_ -- r8.3 outright.go:207
      refine DS.guardT rfl rfl rfl (fun hg => det_move rfl) rfl ?_ -- r8.4 outright.go:207
      refine DS.guardT rfl rfl rfl (fun hg => det_move rfl) rfl ?_ -- r8.5 outright.go:207
      refine DS.guardT rfl rfl rfl (fun hg => det_eq (ev_cond hg rfl) (ev_cond hg rfl)) rfl ?_ -- r8.6 outright.go:207
      refine DS.det rfl rfl (det_pick_and rfl rfl rfl) rfl ?_ -- r8.7 outright.go:207
      refine DS.det rfl rfl (det_move rfl) rfl ?_ -- r8.8 outright.go:207
      refine DS.guardT rfl rfl rfl (fun hg => det_move rfl) rfl ?_ -- r8.9 outright.go:207
      refine DS.guardT rfl rfl rfl (fun hg => det_ge (ev_cond hg rfl) rfl) rfl ?_ -- r8.10 outright.go:207
      refine DS.det rfl rfl (det_pick_and rfl rfl rfl) rfl ?_ -- r8.11 outright.go:207
      refine DS.det rfl rfl (det_move rfl) rfl ?_ -- r8.12 outright.go:207
      refine DS.guardT rfl rfl rfl (fun hg => det_move rfl) rfl ?_ -- r8.13 outright.go:207
      refine DS.guardT rfl rfl rfl (fun hg => det_ge (ev_cond hg rfl) rfl) rfl ?_ -- r8.14 outright.go:207
      refine DS.det rfl rfl (det_pick_and rfl rfl rfl) rfl ?_ -- r8.15 outright.go:207
      refine DS.det rfl rfl (det_move rfl) rfl ?_ -- r8.16 outright.go:207
      refine DS.guardT rfl rfl rfl (fun hg => det_move rfl) rfl ?_ -- r8.17 outright.go:207
      refine DS.guardT rfl rfl rfl (fun hg => det_move rfl) rfl ?_ -- r8.18 outright.go:207
      refine DS.guardT rfl rfl rfl (fun hg => det_add (ev_cond hg rfl) (ev_cond hg rfl) (by (try simp only [decide_eq_true_eq, decide_eq_false_iff_not, Bool.and_eq_true, Bool.or_eq_true, Bool.and_eq_false_iff, Bool.or_eq_false_iff, Bool.not_eq_true', Bool.not_eq_false', ne_eq, Decidable.not_not, Bool.not_true, Bool.not_false, bne_iff_ne, bne_eq_false_iff_eq, beq_iff_eq, beq_eq_false_iff_ne] at hg); omega)) rfl ?_ -- r8.19 outright.go:207
      refine DS.guardT rfl rfl rfl (fun hg => (by first | exact det_fieldAddr rfl fo23_0 | exact det_fieldAddrS rfl fo23_0)) rfl ?_ -- r8.20 outright.go:207
      refine DS.guardT rfl rfl rfl (fun hg => (by first | exact det_loadb (j := 0) (ev_cond hg rfl) rfl rfl tk3 | exact det_loadw (ev_cond hg rfl) (by assumption) rfl tk3)) rfl ?_ -- r8.21 outright.go:207
      refine DS.guardT rfl rfl rfl (fun hg => det_le (ev_cond hg rfl) (ev_cond hg rfl)) rfl ?_ -- r8.22 outright.go:207
      refine DS.det rfl rfl (det_pick_and rfl rfl rfl) rfl ?_ -- r8.23 outright.go:207
      refine DS.det rfl rfl (det_move rfl) rfl ?_ -- r8.24 outright.go:207
      refine DS.guardT rfl rfl rfl (fun hg => det_move rfl) rfl ?_ -- r8.25 outright.go:207
      refine DS.guardT rfl rfl rfl (fun hg => (by first | exact det_fieldAddr rfl fo23_0 | exact det_fieldAddrS rfl fo23_0)) rfl ?_ -- r8.26 outright.go:207
      refine DS.guardT rfl rfl rfl (fun hg => (by first | exact det_loadb (j := 0) (ev_cond hg rfl) rfl rfl tk3 | exact det_loadw (ev_cond hg rfl) (by assumption) rfl tk3)) rfl ?_ -- r8.27 outright.go:207
      refine DS.guardT rfl rfl rfl (fun hg => det_eq (ev_cond hg rfl) (ev_cond hg rfl)) rfl ?_ -- r8.28 outright.go:207
      refine DS.guardT rfl rfl rfl (fun hg => det_move rfl) rfl ?_ -- r8.29 outright.go:207
      refine DS.guardT rfl rfl rfl (fun hg => det_move rfl) rfl ?_ -- r8.30 outright.go:207
      refine DS.guardT rfl rfl rfl (fun hg => det_callB rfl (evs_cons (ev_cond hg rfl) (evs_cons (ev_cond hg rfl) evs_nil)) ent20 (fun u hu => SameInts_c _ _ _ _ u (h1.st hu) (h2.st hu))) rfl ?_ -- r8.31 outright.go:207
      refine DS.guardT rfl rfl rfl (fun hg => det_eqb (ev_cond hg rfl) (ev_cond hg rfl) Try.underlying4) rfl ?_ -- r8.32 outright.go:207
      refine DS.det rfl rfl (det_pick_and rfl rfl rfl) rfl ?_ -- r8.33 outright.go:207
      refine DS.det rfl rfl (det_move rfl) rfl ?_ -- r8.34 outright.go:207
      refine DS.guardT rfl rfl rfl (fun hg => det_callB rfl rfl ent19 (fun u hu => works_c u)) rfl ?_ -- r8.35 outright.go:207
      refine DS.det rfl rfl (det_pick_and rfl rfl rfl) rfl ?_ -- r8.36 outright.go:207
      refine DS.det rfl rfl (det_assign rfl) rfl ?_ -- r8.37 outright.go:207
      refine DS.done ?_
      refine QS.then_code ?_
      refine CS.ret ?_
      exact out1 rfl rfl (retBe (by obtain ⟨t1, t2, t3, t4, t5, t6⟩ := htwo; have e1 : decide (xs = ys) = decide (rightN xs ys = lw) := (by simp [t6]); simp only [if_pos h0, if_pos ha1, ← t1, ← t2, e1]; simp; omega)) -- ret 3

end Go.Proofs.Ytldagbcceefcdaa
