/- Contracts of functions, printed by a program of the prover (gen.py). -/
import Derived.Test.YtldagbcceefcdaaC10
namespace Go.Proofs.Ytldagbcceefcdaa
open Go.RowKit Go.Proofs
set_option maxRecDepth 100000
set_option linter.unusedVariables false
set_option linter.unusedSimpArgs false

theorem CodesAnswers_c (lw ls : Int) (xs ys : List Int) (v1 v2 : Value) (w : World) (h1 : SlI w v1 xs) (h2 : SlI w v2 ys) :
    Calls Try.prog 3 #[.agg #[.int .i64 lw, .int .i64 ls], v1, v2] w (RetB w (.bool true)) := by
  refine enter Try.func3 rfl rfl (Nat.le_of_ble_eq_true rfl) ?_
  refine CS.seq ?_
  refine CS.region ?_
  refine WS.box rfl rfl (fun _ => rfl) ?_; intro b3 hb3 -- r0.0 law.go:43
  refine WS.det rfl rfl rfl (det_assign rfl) rfl ?_ -- r0.1 law.go:43
  refine WS.done ?_
  refine QS.then_code ?_
  refine CS.seq ?_
  refine CS.region ?_
  refine WS.det rfl rfl rfl ((by first | exact det_loadb0 (j := 0) rfl rfl tk23 | exact det_loadbN (j := 0) rfl rfl (by rfl) tk23 | exact det_loadwN rfl (by assumption) (by rfl) tk23)) rfl ?_ -- r1.0 law.go:44
  refine WS.det rfl rfl rfl (det_move rfl) rfl ?_ -- r1.1 law.go:44
  refine WS.det rfl rfl rfl (det_move rfl) rfl ?_ -- r1.2 law.go:44
  refine WS.det rfl rfl rfl (det_callB rfl rfl ent17 (fun u hu => Answer_c _ _ _ _ _ _ u (h1.st hu) (h2.st hu))) rfl ?_ -- r1.3 law.go:44
  refine WS.det rfl rfl rfl (det_move rfl) rfl ?_ -- r1.4 law.go:44
  refine WS.det rfl rfl rfl (det_extract rfl rfl) rfl ?_ -- r1.5 law.go:44
  refine WS.det rfl rfl rfl (det_extract rfl rfl) rfl ?_ -- r1.6 law.go:44
  refine WS.det rfl rfl rfl (det_extract rfl rfl) rfl ?_ -- r1.7 law.go:44
  refine WS.det rfl rfl rfl (det_assign rfl) rfl ?_ -- r1.8 law.go:44
  refine WS.det rfl rfl rfl (det_assign rfl) rfl ?_ -- r1.9 law.go:44
  refine WS.det rfl rfl rfl (det_assign rfl) rfl ?_ -- r1.10 law.go:44
  refine WS.done ?_
  refine QS.then_code ?_
  refine CS.seq ?_
  refine CS.region ?_
  refine WS.det rfl rfl rfl ((by first | exact det_loadb0 (j := 0) rfl rfl tk23 | exact det_loadbN (j := 0) rfl rfl (by rfl) tk23 | exact det_loadwN rfl (by assumption) (by rfl) tk23)) rfl ?_ -- r2.0 law.go:45
  refine WS.det rfl rfl rfl (det_move rfl) rfl ?_ -- r2.1 law.go:45
  refine WS.det rfl rfl rfl (det_move rfl) rfl ?_ -- r2.2 law.go:45
  refine WS.det rfl rfl rfl (det_callB rfl rfl ent18 (fun u hu => RAnswer_c _ _ _ _ _ _ u (h1.st hu) (h2.st hu))) rfl ?_ -- r2.3 law.go:45
  refine WS.det rfl rfl rfl (det_move rfl) rfl ?_ -- r2.4 law.go:45
  refine WS.det rfl rfl rfl (det_extract rfl rfl) rfl ?_ -- r2.5 law.go:45
  refine WS.det rfl rfl rfl (det_extract rfl rfl) rfl ?_ -- r2.6 law.go:45
  refine WS.det rfl rfl rfl (det_extract rfl rfl) rfl ?_ -- r2.7 law.go:45
  refine WS.det rfl rfl rfl (det_assign rfl) rfl ?_ -- r2.8 law.go:45
  refine WS.det rfl rfl rfl (det_assign rfl) rfl ?_ -- r2.9 law.go:45
  refine WS.det rfl rfl rfl (det_assign rfl) rfl ?_ -- r2.10 law.go:45
  refine WS.done ?_
  refine QS.then_code ?_
  refine CS.seq ?_
  refine CS.region ?_
  refine WS.det rfl rfl rfl (det_move rfl) rfl ?_ -- r3.0 law.go:46
  refine WS.det rfl rfl rfl (det_move rfl) rfl ?_ -- r3.1 law.go:46
  refine WS.det rfl rfl rfl (det_eq rfl rfl) rfl ?_ -- r3.2 law.go:46
  refine WS.det rfl rfl rfl (det_move rfl) rfl ?_ -- r3.3 law.go:46
  refine WS.guardT rfl rfl rfl rfl (fun hg => det_move rfl) rfl ?_ -- r3.4 law.go:46
  refine WS.guardT rfl rfl rfl rfl (fun hg => det_move rfl) rfl ?_ -- r3.5 law.go:46
  refine WS.guardT rfl rfl rfl rfl (fun hg => det_eq (ev_cond hg rfl) (ev_cond hg rfl)) rfl ?_ -- r3.6 law.go:46
  refine WS.det rfl rfl rfl (det_pick_and rfl rfl rfl) rfl ?_ -- r3.7 law.go:46
  refine WS.det rfl rfl rfl (det_move rfl) rfl ?_ -- r3.8 law.go:46
  refine WS.guardT rfl rfl rfl rfl (fun hg => det_move rfl) rfl ?_ -- r3.9 law.go:46
  refine WS.guardT rfl rfl rfl rfl (fun hg => det_move rfl) rfl ?_ -- r3.10 law.go:46
  refine WS.guardT rfl rfl rfl rfl (fun hg => det_eq (ev_cond hg rfl) (ev_cond hg rfl)) rfl ?_ -- r3.11 law.go:46
  refine WS.det rfl rfl rfl (det_pick_and rfl rfl rfl) rfl ?_ -- r3.12 law.go:46
  refine WS.det rfl rfl rfl (det_move rfl) rfl ?_ -- r3.13 law.go:46
  refine WS.guardT rfl rfl rfl rfl (fun hg => det_callB rfl rfl ent19 (fun u hu => works_c u)) rfl ?_ -- r3.14 law.go:46
  refine WS.det rfl rfl rfl (det_pick_and rfl rfl rfl) rfl ?_ -- r3.15 law.go:46
  refine WS.det rfl rfl rfl (det_assign rfl) rfl ?_ -- r3.16 law.go:46
  refine WS.done ?_
  refine QS.then_code ?_
  refine CS.ret ?_
  exact out1 rfl rfl (retBe (by simp)) -- ret 1

theorem CodesFits_c (lw ls : Int) (cs : List Clue) (gs : List Value) (v : Value) (xs : List Int) (xv : Value) (w : World) (hk : ClS w v cs gs) (h1 : SlI w xv xs) :
    Calls Try.prog 5 #[.agg #[.int .i64 lw, .int .i64 ls], v, xv] w (RetB w (.bool true)) := by
  refine enter Try.func5 rfl rfl (Nat.le_of_ble_eq_true rfl) ?_
  refine CS.seq ?_
  refine CS.region ?_
  refine WS.box rfl rfl (fun _ => rfl) ?_; intro b3 hb3 -- r0.0 law.go:50
  refine WS.det rfl rfl rfl (det_assign rfl) rfl ?_ -- r0.1 law.go:50
  refine WS.done ?_
  refine QS.then_code ?_
  refine CS.seq ?_
  refine CS.region ?_
  refine WS.det rfl rfl rfl ((by first | exact det_loadb0 (j := 0) rfl rfl tk23 | exact det_loadbN (j := 0) rfl rfl (by rfl) tk23 | exact det_loadwN rfl (by assumption) (by rfl) tk23)) rfl ?_ -- r1.0 law.go:51
  refine WS.det rfl rfl rfl (det_move rfl) rfl ?_ -- r1.1 law.go:51
  refine WS.det rfl rfl rfl (det_move rfl) rfl ?_ -- r1.2 law.go:51
  refine WS.det rfl rfl rfl (det_callB rfl rfl ent21 (fun u hu => Fits_c _ _ _ _ _ _ _ u (hk.st hu) (h1.st hu))) rfl ?_ -- r1.3 law.go:51
  refine WS.det rfl rfl rfl (det_move rfl) rfl ?_ -- r1.4 law.go:51
  refine WS.det rfl rfl rfl (det_extract rfl rfl) rfl ?_ -- r1.5 law.go:51
  refine WS.det rfl rfl rfl (det_extract rfl rfl) rfl ?_ -- r1.6 law.go:51
  refine WS.det rfl rfl rfl (det_extract rfl rfl) rfl ?_ -- r1.7 law.go:51
  refine WS.det rfl rfl rfl (det_assign rfl) rfl ?_ -- r1.8 law.go:51
  refine WS.det rfl rfl rfl (det_assign rfl) rfl ?_ -- r1.9 law.go:51
  refine WS.det rfl rfl rfl (det_assign rfl) rfl ?_ -- r1.10 law.go:51
  refine WS.done ?_
  refine QS.then_code ?_
  refine CS.seq ?_
  refine CS.region ?_
  refine WS.det rfl rfl rfl ((by first | exact det_loadb0 (j := 0) rfl rfl tk23 | exact det_loadbN (j := 0) rfl rfl (by rfl) tk23 | exact det_loadwN rfl (by assumption) (by rfl) tk23)) rfl ?_ -- r2.0 law.go:52
  refine WS.det rfl rfl rfl (det_move rfl) rfl ?_ -- r2.1 law.go:52
  refine WS.det rfl rfl rfl (det_move rfl) rfl ?_ -- r2.2 law.go:52
  refine WS.det rfl rfl rfl (det_callB rfl rfl ent22 (fun u hu => RFits_c _ _ _ _ _ _ _ u (hk.st hu) (h1.st hu))) rfl ?_ -- r2.3 law.go:52
  refine WS.det rfl rfl rfl (det_move rfl) rfl ?_ -- r2.4 law.go:52
  refine WS.det rfl rfl rfl (det_extract rfl rfl) rfl ?_ -- r2.5 law.go:52
  refine WS.det rfl rfl rfl (det_extract rfl rfl) rfl ?_ -- r2.6 law.go:52
  refine WS.det rfl rfl rfl (det_extract rfl rfl) rfl ?_ -- r2.7 law.go:52
  refine WS.det rfl rfl rfl (det_assign rfl) rfl ?_ -- r2.8 law.go:52
  refine WS.det rfl rfl rfl (det_assign rfl) rfl ?_ -- r2.9 law.go:52
  refine WS.det rfl rfl rfl (det_assign rfl) rfl ?_ -- r2.10 law.go:52
  refine WS.done ?_
  refine QS.then_code ?_
  refine CS.seq ?_
  refine CS.region ?_
  refine WS.det rfl rfl rfl (det_move rfl) rfl ?_ -- r3.0 law.go:53
  refine WS.det rfl rfl rfl (det_move rfl) rfl ?_ -- r3.1 law.go:53
  refine WS.det rfl rfl rfl (det_eq rfl rfl) rfl ?_ -- r3.2 law.go:53
  refine WS.det rfl rfl rfl (det_move rfl) rfl ?_ -- r3.3 law.go:53
  refine WS.guardT rfl rfl rfl rfl (fun hg => det_move rfl) rfl ?_ -- r3.4 law.go:53
  refine WS.guardT rfl rfl rfl rfl (fun hg => det_move rfl) rfl ?_ -- r3.5 law.go:53
  refine WS.guardT rfl rfl rfl rfl (fun hg => det_eqb (ev_cond hg rfl) (ev_cond hg rfl) Try.underlying4) rfl ?_ -- r3.6 law.go:53
  refine WS.det rfl rfl rfl (det_pick_and rfl rfl rfl) rfl ?_ -- r3.7 law.go:53
  refine WS.det rfl rfl rfl (det_move rfl) rfl ?_ -- r3.8 law.go:53
  refine WS.guardT rfl rfl rfl rfl (fun hg => det_move rfl) rfl ?_ -- r3.9 law.go:53
  refine WS.guardT rfl rfl rfl rfl (fun hg => det_move rfl) rfl ?_ -- r3.10 law.go:53
  refine WS.guardT rfl rfl rfl rfl (fun hg => det_eq (ev_cond hg rfl) (ev_cond hg rfl)) rfl ?_ -- r3.11 law.go:53
  refine WS.det rfl rfl rfl (det_pick_and rfl rfl rfl) rfl ?_ -- r3.12 law.go:53
  refine WS.det rfl rfl rfl (det_move rfl) rfl ?_ -- r3.13 law.go:53
  refine WS.guardT rfl rfl rfl rfl (fun hg => det_callB rfl rfl ent19 (fun u hu => works_c u)) rfl ?_ -- r3.14 law.go:53
  refine WS.det rfl rfl rfl (det_pick_and rfl rfl rfl) rfl ?_ -- r3.15 law.go:53
  refine WS.det rfl rfl rfl (det_assign rfl) rfl ?_ -- r3.16 law.go:53
  refine WS.done ?_
  refine QS.then_code ?_
  refine CS.ret ?_
  exact out1 rfl rfl (retBe (by simp)) -- ret 1

theorem CodesChecks_c (lw ls : Int) (c : Clue) (gv : Value) (xs : List Int) (v : Value) (w : World) (hg1 : SlI w gv c.g) (h1 : SlI w v xs) :
    Calls Try.prog 6 #[.agg #[.int .i64 lw, .int .i64 ls], .agg #[.int .i64 c.k, .int .i64 c.a, .int .i64 c.b, .int .i64 c.n, .int .i64 c.m, gv, .bool c.nt], v] w (RetB w (.bool true)) := by
  refine enter Try.func6 rfl rfl (Nat.le_of_ble_eq_true rfl) ?_
  refine CS.seq ?_
  refine CS.region ?_
  refine WS.box rfl rfl (fun _ => rfl) ?_; intro b3 hb3 -- r0.0 law.go:33
  refine WS.box rfl rfl (fun _ => rfl) ?_; intro b4 hb4 -- r0.1 law.go:33
  refine WS.det rfl rfl rfl (det_assign rfl) rfl ?_ -- r0.2 law.go:33
  refine WS.done ?_
  refine QS.then_code ?_
  refine CS.seq ?_
  refine CS.seq ?_
  refine CS.draw mixed (by kernel_rfl) (by kernel_rfl) ?_
  refine DS.det rfl rfl ((by first | exact det_loadb0 (j := 1) rfl rfl tk23 | exact det_loadbN (j := 1) rfl rfl (by rfl) tk23 | exact det_loadwN rfl (by assumption) (by rfl) tk23)) rfl ?_ -- r1.0 law.go:34
  refine DS.det rfl rfl (det_callB rfl rfl ent23 (fun u hu => Check_c _ _ u)) rfl ?_ -- r1.1 law.go:34
  refine DS.det rfl rfl ((by first | exact det_loadb0 (j := 1) rfl rfl tk23 | exact det_loadbN (j := 1) rfl rfl (by rfl) tk23 | exact det_loadwN rfl (by assumption) (by rfl) tk23)) rfl ?_ -- r1.2 law.go:34
  refine DS.det rfl rfl (det_callB rfl rfl ent24 (fun u hu => RCheck_c _ _ u)) rfl ?_ -- r1.3 law.go:34
  refine DS.det rfl rfl (det_ne rfl rfl) rfl ?_ -- r1.4 law.go:34
  refine DS.det rfl rfl (det_move rfl) rfl ?_ -- r1.5 law.go:34
  refine DS.guardF rfl rfl rfl (fun hg => (by first | exact det_loadb0 (j := 1) rfl rfl tk23 | exact det_loadbN (j := 1) rfl rfl (by rfl) tk23 | exact det_loadwN rfl (by assumption) (by rfl) tk23)) rfl ?_ -- r1.6 law.go:34
  refine DS.guardF rfl rfl rfl (fun hg => (by first | exact det_ldCl rfl (by assumption) (by (try simp only [decide_eq_true_eq, decide_eq_false_iff_not, Bool.and_eq_true, Bool.or_eq_true, Bool.and_eq_false_iff, Bool.or_eq_false_iff, Bool.not_eq_true', Bool.not_eq_false', ne_eq, Decidable.not_not, Bool.not_true, Bool.not_false, bne_iff_ne, bne_eq_false_iff_eq, beq_iff_eq, beq_eq_false_iff_ne] at hg); omega) tk36 | exact det_loadb0 (j := 0) rfl rfl tk36 | exact det_loadbN (j := 0) rfl rfl (by rfl) tk36 | exact det_loadwN rfl (by assumption) (by rfl) tk36)) rfl ?_ -- r1.7 law.go:34
  refine DS.guardF rfl rfl rfl (fun hg => det_callB rfl (evs_cons (ev_cond hg rfl) (evs_cons (ev_cond hg rfl) evs_nil)) ent25 (fun u hu => CheckClue_c _ _ _ _ u (hg1.st hu))) rfl ?_ -- r1.8 law.go:34
  refine DS.guardF rfl rfl rfl (fun hg => (by first | exact det_loadb0 (j := 1) rfl rfl tk23 | exact det_loadbN (j := 1) rfl rfl (by rfl) tk23 | exact det_loadwN rfl (by assumption) (by rfl) tk23)) rfl ?_ -- r1.9 law.go:34
  refine DS.guardF rfl rfl rfl (fun hg => (by first | exact det_ldCl rfl (by assumption) (by (try simp only [decide_eq_true_eq, decide_eq_false_iff_not, Bool.and_eq_true, Bool.or_eq_true, Bool.and_eq_false_iff, Bool.or_eq_false_iff, Bool.not_eq_true', Bool.not_eq_false', ne_eq, Decidable.not_not, Bool.not_true, Bool.not_false, bne_iff_ne, bne_eq_false_iff_eq, beq_iff_eq, beq_eq_false_iff_ne] at hg); omega) tk36 | exact det_loadb0 (j := 0) rfl rfl tk36 | exact det_loadbN (j := 0) rfl rfl (by rfl) tk36 | exact det_loadwN rfl (by assumption) (by rfl) tk36)) rfl ?_ -- r1.10 law.go:34
  refine DS.guardF rfl rfl rfl (fun hg => det_callB rfl (evs_cons (ev_cond hg rfl) (evs_cons (ev_cond hg rfl) evs_nil)) ent26 (fun u hu => RCheckClue_c _ _ _ _ u (hg1.st hu))) rfl ?_ -- r1.11 law.go:34
  refine DS.guardF rfl rfl rfl (fun hg => det_ne (ev_cond hg rfl) (ev_cond hg rfl)) rfl ?_ -- r1.12 law.go:34
  refine DS.det rfl rfl (det_pick_or rfl rfl rfl) rfl ?_ -- r1.13 law.go:34
  refine DS.det rfl rfl (det_move rfl) rfl ?_ -- r1.14 law.go:34
  refine DS.guardF rfl rfl rfl (fun hg => (by first | exact det_loadb0 (j := 1) rfl rfl tk23 | exact det_loadbN (j := 1) rfl rfl (by rfl) tk23 | exact det_loadwN rfl (by assumption) (by rfl) tk23)) rfl ?_ -- r1.15 law.go:34
  refine DS.guardF rfl rfl rfl (fun hg => det_move rfl) rfl ?_ -- r1.16 law.go:34
  refine DS.guardF rfl rfl rfl (fun hg => det_callB rfl (evs_cons (ev_cond hg rfl) (evs_cons (ev_cond hg rfl) evs_nil)) ent27 (fun u hu => CheckCode_c _ _ _ _ u (h1.st hu))) rfl ?_ -- r1.17 law.go:34
  refine DS.guardF rfl rfl rfl (fun hg => (by first | exact det_loadb0 (j := 1) rfl rfl tk23 | exact det_loadbN (j := 1) rfl rfl (by rfl) tk23 | exact det_loadwN rfl (by assumption) (by rfl) tk23)) rfl ?_ -- r1.18 law.go:34
  refine DS.guardF rfl rfl rfl (fun hg => det_move rfl) rfl ?_ -- r1.19 law.go:34
  refine DS.guardF rfl rfl rfl (fun hg => det_callB rfl (evs_cons (ev_cond hg rfl) (evs_cons (ev_cond hg rfl) evs_nil)) ent28 (fun u hu => RCheckCode_c _ _ _ _ u (h1.st hu))) rfl ?_ -- r1.20 law.go:34
  refine DS.guardF rfl rfl rfl (fun hg => det_ne (ev_cond hg rfl) (ev_cond hg rfl)) rfl ?_ -- r1.21 law.go:34
  refine DS.det rfl rfl (det_pick_or rfl rfl rfl) rfl ?_ -- r1.22 law.go:34
  refine DS.done ?_
  refine QS.then_code ?_
  refine CS.cond rfl (fun hc1 => ?_) (fun hc1 => ?_) <;> (try simp only [decide_eq_true_eq, decide_eq_false_iff_not, Bool.and_eq_true, Bool.or_eq_true, Bool.and_eq_false_iff, Bool.or_eq_false_iff, Bool.not_eq_true', Bool.not_eq_false', ne_eq, Decidable.not_not, Bool.not_true, Bool.not_false, bne_iff_ne, bne_eq_false_iff_eq, beq_iff_eq, beq_eq_false_iff_ne] at hc1)
  · skip
    simp at hc1
  · skip
    refine CS.skip ?_
    refine QS.then_code ?_
    refine CS.seq ?_
    refine CS.region ?_
    refine WS.det rfl rfl rfl ((by first | exact det_loadb0 (j := 1) rfl rfl tk23 | exact det_loadbN (j := 1) rfl rfl (by rfl) tk23 | exact det_loadwN rfl (by assumption) (by rfl) tk23)) rfl ?_ -- r3.0 law.go:37
    refine WS.det rfl rfl rfl ((by first | exact det_ldCl rfl (by assumption) (by omega) tk36 | exact det_loadb0 (j := 0) rfl rfl tk36 | exact det_loadbN (j := 0) rfl rfl (by rfl) tk36 | exact det_loadwN rfl (by assumption) (by rfl) tk36)) rfl ?_ -- r3.1 law.go:37
    refine WS.det rfl rfl rfl (det_move rfl) rfl ?_ -- r3.2 law.go:37
    refine WS.det rfl rfl rfl (det_callB rfl rfl ent29 (fun u hu => Holds_c _ _ _ _ _ _ u (hg1.st hu) (h1.st hu))) rfl ?_ -- r3.3 law.go:37
    refine WS.det rfl rfl rfl (det_move rfl) rfl ?_ -- r3.4 law.go:37
    refine WS.det rfl rfl rfl (det_extract rfl rfl) rfl ?_ -- r3.5 law.go:37
    refine WS.det rfl rfl rfl (det_extract rfl rfl) rfl ?_ -- r3.6 law.go:37
    refine WS.det rfl rfl rfl (det_assign rfl) rfl ?_ -- r3.7 law.go:37
    refine WS.det rfl rfl rfl (det_assign rfl) rfl ?_ -- r3.8 law.go:37
    refine WS.done ?_
    refine QS.then_code ?_
    refine CS.seq ?_
    refine CS.region ?_
    refine WS.det rfl rfl rfl ((by first | exact det_loadb0 (j := 1) rfl rfl tk23 | exact det_loadbN (j := 1) rfl rfl (by rfl) tk23 | exact det_loadwN rfl (by assumption) (by rfl) tk23)) rfl ?_ -- r4.0 law.go:38
    refine WS.det rfl rfl rfl ((by first | exact det_ldCl rfl (by assumption) (by omega) tk36 | exact det_loadb0 (j := 0) rfl rfl tk36 | exact det_loadbN (j := 0) rfl rfl (by rfl) tk36 | exact det_loadwN rfl (by assumption) (by rfl) tk36)) rfl ?_ -- r4.1 law.go:38
    refine WS.det rfl rfl rfl (det_move rfl) rfl ?_ -- r4.2 law.go:38
    refine WS.det rfl rfl rfl (det_callB rfl rfl ent30 (fun u hu => RHolds_c _ _ _ _ _ _ u (hg1.st hu) (h1.st hu))) rfl ?_ -- r4.3 law.go:38
    refine WS.det rfl rfl rfl (det_move rfl) rfl ?_ -- r4.4 law.go:38
    refine WS.det rfl rfl rfl (det_extract rfl rfl) rfl ?_ -- r4.5 law.go:38
    refine WS.det rfl rfl rfl (det_extract rfl rfl) rfl ?_ -- r4.6 law.go:38
    refine WS.det rfl rfl rfl (det_assign rfl) rfl ?_ -- r4.7 law.go:38
    refine WS.det rfl rfl rfl (det_assign rfl) rfl ?_ -- r4.8 law.go:38
    refine WS.done ?_
    refine QS.then_code ?_
    refine CS.seq ?_
    refine CS.region ?_
    refine WS.det rfl rfl rfl (det_move rfl) rfl ?_ -- r5.0 law.go:39
    refine WS.det rfl rfl rfl (det_move rfl) rfl ?_ -- r5.1 law.go:39
    refine WS.det rfl rfl rfl (det_eqb rfl rfl Try.underlying4) rfl ?_ -- r5.2 law.go:39
    refine WS.det rfl rfl rfl (det_move rfl) rfl ?_ -- r5.3 law.go:39
    refine WS.guardT rfl rfl rfl rfl (fun hg => det_move rfl) rfl ?_ -- r5.4 law.go:39
    refine WS.guardT rfl rfl rfl rfl (fun hg => det_move rfl) rfl ?_ -- r5.5 law.go:39
    refine WS.guardT rfl rfl rfl rfl (fun hg => det_eq (ev_cond hg rfl) (ev_cond hg rfl)) rfl ?_ -- r5.6 law.go:39
    refine WS.det rfl rfl rfl (det_pick_and rfl rfl rfl) rfl ?_ -- r5.7 law.go:39
    refine WS.det rfl rfl rfl (det_move rfl) rfl ?_ -- r5.8 law.go:39
    refine WS.guardT rfl rfl rfl rfl (fun hg => det_callB rfl rfl ent19 (fun u hu => works_c u)) rfl ?_ -- r5.9 law.go:39
    refine WS.det rfl rfl rfl (det_pick_and rfl rfl rfl) rfl ?_ -- r5.10 law.go:39
    refine WS.det rfl rfl rfl (det_assign rfl) rfl ?_ -- r5.11 law.go:39
    refine WS.done ?_
    refine QS.then_code ?_
    refine CS.ret ?_
    exact out1 rfl rfl (retBe (by simp)) -- ret 1

end Go.Proofs.Ytldagbcceefcdaa
