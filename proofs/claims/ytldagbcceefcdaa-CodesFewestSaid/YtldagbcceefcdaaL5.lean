/- Contracts of functions, printed by a program of the prover (gen.py). -/
import Derived.Test.YtldagbcceefcdaaL4
import Derived.Test.YtldagbcceefcdaaC14
namespace Go.Proofs.Ytldagbcceefcdaa
open Go.RowKit Go.Proofs
set_option maxRecDepth 100000
set_option linter.unusedVariables false
set_option linter.unusedSimpArgs false

theorem CodesNext_c (lw ls : Int) (cs : List Clue) (gs : List Value) (cv : Value) (w : World) (hk : ClS w cv cs gs) :
    Calls Try.prog 9 #[.agg #[.int .i64 lw, .int .i64 ls], cv] w (RetB w (.bool true)) := by
  refine enter Try.func9 rfl rfl (Nat.le_of_ble_eq_true rfl) ?_
  refine CS.seq ?_
  refine CS.region ?_
  refine WS.box rfl rfl (fun _ => rfl) ?_; intro b2 hb2 -- r0.0 law.go:123
  refine WS.det rfl rfl rfl (det_assign rfl) rfl ?_ -- r0.1 law.go:123
  refine WS.done ?_
  refine QS.then_code ?_
  refine CS.seq ?_
  refine CS.seq ?_
  refine CS.region ?_
  refine WS.det rfl rfl rfl ((by first | exact det_loadb0 (j := 0) rfl rfl tk23 | exact det_loadbN (j := 0) rfl rfl (by rfl) tk23 | exact det_loadwN rfl (by assumption) (by rfl) tk23 | exact det_loadbK (n := 2) (j := 0) rfl rfl rfl rfl tk23)) rfl ?_ -- r1.0 law.go:124
  refine WS.det rfl rfl rfl (det_move rfl) rfl ?_ -- r1.1 law.go:124
  refine WS.det rfl rfl rfl (det_callB rfl rfl ent37 (fun u hu => RCount_c _ _ _ _ _ u (hk.st hu))) rfl ?_ -- r1.2 law.go:124
  refine WS.det rfl rfl rfl (det_move rfl) rfl ?_ -- r1.3 law.go:124
  refine WS.det rfl rfl rfl (det_extract rfl rfl) rfl ?_ -- r1.4 law.go:124
  refine WS.det rfl rfl rfl (det_extract rfl rfl) rfl ?_ -- r1.5 law.go:124
  refine WS.det rfl rfl rfl (det_assign rfl) rfl ?_ -- r1.6 law.go:124
  refine WS.det rfl rfl rfl (det_assign rfl) rfl ?_ -- r1.7 law.go:124
  refine WS.done ?_
  refine QS.then_code ?_
  refine CS.seq ?_
  refine CS.region ?_
  refine WS.det rfl rfl rfl (det_move rfl) rfl ?_ -- r2.0 law.go:124
  refine WS.det rfl rfl rfl (det_eq rfl rfl) rfl ?_ -- r2.1 law.go:124
  refine WS.det rfl rfl rfl (det_move rfl) rfl ?_ -- r2.2 law.go:124
  refine WS.guardT rfl rfl rfl rfl (fun hg => det_move rfl) rfl ?_ -- r2.3 law.go:124
  refine WS.guardT rfl rfl rfl rfl (fun hg => det_gt (ev_cond hg rfl) rfl) rfl ?_ -- r2.4 law.go:124
  refine WS.det rfl rfl rfl (det_pick_and rfl rfl rfl) rfl ?_ -- r2.5 law.go:124
  refine WS.det rfl rfl rfl (det_move rfl) rfl ?_ -- r2.6 law.go:124
  refine WS.guardT rfl rfl rfl rfl (fun hg => det_move rfl) rfl ?_ -- r2.7 law.go:124
  refine WS.guardT rfl rfl rfl rfl (fun hg => det_le (ev_cond hg rfl) rfl) rfl ?_ -- r2.8 law.go:124
  refine WS.det rfl rfl rfl (det_pick_and rfl rfl rfl) rfl ?_ -- r2.9 law.go:124
  refine WS.done ?_
  refine QS.then_code ?_
  refine CS.cond rfl (fun hc1 => ?_) (fun hc1 => ?_) <;> (try simp only [decide_eq_true_eq, decide_eq_false_iff_not, Bool.and_eq_true, Bool.or_eq_true, Bool.and_eq_false_iff, Bool.or_eq_false_iff, Bool.not_eq_true', Bool.not_eq_false', ne_eq, Decidable.not_not, Bool.not_true, Bool.not_false, bne_iff_ne, bne_eq_false_iff_eq, beq_iff_eq, beq_eq_false_iff_ne] at hc1)
  · skip
    refine CS.seq ?_
    refine CS.region ?_
    refine WS.det rfl rfl rfl (det_callB rfl rfl ent19 (fun u hu => works_c u)) rfl ?_ -- r3.0 law.go:125
    refine WS.det rfl rfl rfl (det_assign rfl) rfl ?_ -- r3.1 law.go:125
    refine WS.done ?_
    refine QS.then_code ?_
    refine CS.ret ?_
    refine QS.then_ret ?_
    exact out1 rfl rfl (retBe (by simp)) -- ret 1
  · skip
    refine CS.skip ?_
    refine QS.then_code ?_
    refine CS.seq ?_
    refine CS.region ?_
    refine WS.det rfl rfl rfl ((by first | exact det_loadb0 (j := 0) rfl rfl tk23 | exact det_loadbN (j := 0) rfl rfl (by rfl) tk23 | exact det_loadwN rfl (by assumption) (by rfl) tk23 | exact det_loadbK (n := 2) (j := 0) rfl rfl rfl rfl tk23)) rfl ?_ -- r4.0 law.go:127
    refine WS.det rfl rfl rfl (det_move rfl) rfl ?_ -- r4.1 law.go:127
    refine WS.callF rfl rfl ent38 (fun u hu => Next_c _ _ _ _ _ u (hk.st hu)) (fun _ => rfl) ?_; rintro vn ⟨un, hvn⟩ -- r4.2 law.go:127
    refine WS.det rfl rfl rfl (det_move rfl) rfl ?_ -- r4.3 law.go:127
    refine WS.det rfl rfl rfl (det_extract rfl rfl) rfl ?_ -- r4.4 law.go:127
    refine WS.det rfl rfl rfl (det_extract rfl rfl) rfl ?_ -- r4.5 law.go:127
    refine WS.det rfl rfl rfl (det_extract rfl rfl) rfl ?_ -- r4.6 law.go:127
    refine WS.det rfl rfl rfl (det_assign rfl) rfl ?_ -- r4.7 law.go:127
    refine WS.det rfl rfl rfl (det_assign rfl) rfl ?_ -- r4.8 law.go:127
    refine WS.det rfl rfl rfl (det_assign rfl) rfl ?_ -- r4.9 law.go:127
    refine WS.done ?_
    refine QS.then_code ?_
    refine CS.seq ?_
    refine CS.region ?_
    refine WS.det rfl rfl rfl ((by first | exact det_loadb0 (j := 1) rfl rfl tk23 | exact det_loadbN (j := 1) rfl rfl (by rfl) tk23 | exact det_loadwN rfl (by assumption) (by rfl) tk23 | exact det_loadbK (n := 2) (j := 1) rfl rfl rfl rfl tk23)) rfl ?_ -- r5.0 law.go:128
    refine WS.det rfl rfl rfl (det_move rfl) rfl ?_ -- r5.1 law.go:128
    refine WS.callF rfl rfl ent39 (fun u hu => RNext_c _ _ _ _ _ u (hk.st hu)) (fun _ => rfl) ?_; rintro vm ⟨um, hvm⟩ -- r5.2 law.go:128
    refine WS.det rfl rfl rfl (det_move rfl) rfl ?_ -- r5.3 law.go:128
    refine WS.det rfl rfl rfl (det_extract rfl rfl) rfl ?_ -- r5.4 law.go:128
    refine WS.det rfl rfl rfl (det_extract rfl rfl) rfl ?_ -- r5.5 law.go:128
    refine WS.det rfl rfl rfl (det_extract rfl rfl) rfl ?_ -- r5.6 law.go:128
    refine WS.det rfl rfl rfl (det_assign rfl) rfl ?_ -- r5.7 law.go:128
    refine WS.det rfl rfl rfl (det_assign rfl) rfl ?_ -- r5.8 law.go:128
    refine WS.det rfl rfl rfl (det_assign rfl) rfl ?_ -- r5.9 law.go:128
    refine WS.done ?_
    refine QS.then_code ?_
    refine CS.seq ?_
    refine CS.region ?_
    refine WS.det rfl rfl rfl (det_move rfl) rfl ?_ -- r6.0 law.go:129
    refine WS.det rfl rfl rfl (det_move rfl) rfl ?_ -- r6.1 law.go:129
    refine WS.det rfl rfl rfl (det_eq rfl rfl) rfl ?_ -- r6.2 law.go:129
    refine WS.det rfl rfl rfl (det_move rfl) rfl ?_ -- r6.3 law.go:129
    refine WS.guardT rfl rfl rfl rfl (fun hg => det_move rfl) rfl ?_ -- r6.4 law.go:129
    refine WS.guardT rfl rfl rfl rfl (fun hg => det_move rfl) rfl ?_ -- r6.5 law.go:129
    refine WS.guardT rfl rfl rfl rfl (fun hg => det_eq (ev_cond hg rfl) (ev_cond hg rfl)) rfl ?_ -- r6.6 law.go:129
    refine WS.det rfl rfl rfl (det_pick_and rfl rfl rfl) rfl ?_ -- r6.7 law.go:129
    refine WS.det rfl rfl rfl (det_move rfl) rfl ?_ -- r6.8 law.go:129
    refine WS.guardT rfl rfl rfl rfl (fun hg => det_move rfl) rfl ?_ -- r6.9 law.go:129
    refine WS.guardT rfl rfl rfl rfl (fun hg => det_move rfl) rfl ?_ -- r6.10 law.go:129
    refine WS.guardT rfl rfl rfl rfl (fun hg => det_callB rfl (evs_cons (ev_cond hg rfl) (evs_cons (ev_cond hg rfl) evs_nil)) ent20 (fun u hu => SameInts_c _ _ _ _ u (hu.roI (j := 1) rfl) (hu.roI (j := 0) rfl))) rfl ?_ -- r6.11 law.go:129
    refine WS.det rfl rfl rfl (det_pick_and rfl rfl rfl) rfl ?_ -- r6.12 law.go:129
    refine WS.det rfl rfl rfl (det_move rfl) rfl ?_ -- r6.13 law.go:129
    refine WS.guardT rfl rfl rfl rfl (fun hg => det_callB rfl rfl ent19 (fun u hu => works_c u)) rfl ?_ -- r6.14 law.go:129
    refine WS.det rfl rfl rfl (det_pick_and rfl rfl rfl) rfl ?_ -- r6.15 law.go:129
    refine WS.det rfl rfl rfl (det_assign rfl) rfl ?_ -- r6.16 law.go:129
    refine WS.done ?_
    refine QS.then_code ?_
    refine CS.ret ?_
    exact out1 rfl rfl (retBe (by simp)) -- ret 2

end Go.Proofs.Ytldagbcceefcdaa
