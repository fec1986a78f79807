/- Contracts of functions, printed by a program of the prover (gen.py). -/
import Derived.Test.YtldagbcceefcdaaL3
import Derived.Test.YtldagbcceefcdaaC13
namespace Go.Proofs.Ytldagbcceefcdaa
open Go.RowKit Go.Proofs
set_option maxRecDepth 100000
set_option linter.unusedVariables false
set_option linter.unusedSimpArgs false

theorem CodesReads_c (lw ls : Int) (cs : List Clue) (gs : List Value) (cv : Value) (most : Int) (w : World) (hk : ClS w cv cs gs) :
    Calls Try.prog 10 #[.agg #[.int .i64 lw, .int .i64 ls], cv, .int .i64 most] w (RetB w (.bool true)) := by
  refine enter Try.func10 rfl rfl (Nat.le_of_ble_eq_true rfl) ?_
  refine CS.seq ?_
  refine CS.region ?_
  refine WS.box rfl rfl (fun _ => rfl) ?_; intro b3 hb3 -- r0.0 law.go:57
  refine WS.det rfl rfl rfl (det_assign rfl) rfl ?_ -- r0.1 law.go:57
  refine WS.done ?_
  refine QS.then_code ?_
  refine CS.seq ?_
  refine CS.region ?_
  refine WS.det rfl rfl rfl ((by first | exact det_loadb0 (j := 0) rfl rfl tk23 | exact det_loadbN (j := 0) rfl rfl (by rfl) tk23 | exact det_loadwN rfl (by assumption) (by rfl) tk23 | exact det_loadbK (n := 2) (j := 0) rfl rfl rfl rfl tk23)) rfl ?_ -- r1.0 law.go:58
  refine WS.det rfl rfl rfl (det_move rfl) rfl ?_ -- r1.1 law.go:58
  refine WS.det rfl rfl rfl (det_callB rfl rfl ent34 (fun u hu => Count_c _ _ _ _ _ u (hk.st hu))) rfl ?_ -- r1.2 law.go:58
  refine WS.det rfl rfl rfl (det_move rfl) rfl ?_ -- r1.3 law.go:58
  refine WS.det rfl rfl rfl (det_extract rfl rfl) rfl ?_ -- r1.4 law.go:58
  refine WS.det rfl rfl rfl (det_extract rfl rfl) rfl ?_ -- r1.5 law.go:58
  refine WS.det rfl rfl rfl (det_assign rfl) rfl ?_ -- r1.6 law.go:58
  refine WS.det rfl rfl rfl (det_assign rfl) rfl ?_ -- r1.7 law.go:58
  refine WS.done ?_
  refine QS.then_code ?_
  refine CS.seq ?_
  refine CS.region ?_
  refine WS.det rfl rfl rfl ((by first | exact det_loadb0 (j := 0) rfl rfl tk23 | exact det_loadbN (j := 0) rfl rfl (by rfl) tk23 | exact det_loadwN rfl (by assumption) (by rfl) tk23 | exact det_loadbK (n := 2) (j := 0) rfl rfl rfl rfl tk23)) rfl ?_ -- r2.0 law.go:59
  refine WS.det rfl rfl rfl (det_move rfl) rfl ?_ -- r2.1 law.go:59
  refine WS.det rfl rfl rfl (det_callB rfl rfl ent37 (fun u hu => RCount_c _ _ _ _ _ u (hk.st hu))) rfl ?_ -- r2.2 law.go:59
  refine WS.det rfl rfl rfl (det_move rfl) rfl ?_ -- r2.3 law.go:59
  refine WS.det rfl rfl rfl (det_extract rfl rfl) rfl ?_ -- r2.4 law.go:59
  refine WS.det rfl rfl rfl (det_extract rfl rfl) rfl ?_ -- r2.5 law.go:59
  refine WS.det rfl rfl rfl (det_assign rfl) rfl ?_ -- r2.6 law.go:59
  refine WS.det rfl rfl rfl (det_assign rfl) rfl ?_ -- r2.7 law.go:59
  refine WS.done ?_
  refine QS.then_code ?_
  refine CS.seq ?_
  refine CS.seq ?_
  refine CS.region ?_
  refine WS.det rfl rfl rfl (det_move rfl) rfl ?_ -- r3.0 law.go:60
  refine WS.det rfl rfl rfl (det_move rfl) rfl ?_ -- r3.1 law.go:60
  refine WS.det rfl rfl rfl (det_ne rfl rfl) rfl ?_ -- r3.2 law.go:60
  refine WS.det rfl rfl rfl (det_move rfl) rfl ?_ -- r3.3 law.go:60
  refine WS.guardF rfl rfl rfl rfl (fun hg => det_move rfl) rfl ?_ -- r3.4 law.go:60
  refine WS.guardF rfl rfl rfl rfl (fun hg => det_move rfl) rfl ?_ -- r3.5 law.go:60
  refine WS.guardF rfl rfl rfl rfl (fun hg => det_ne (ev_cond hg rfl) (ev_cond hg rfl)) rfl ?_ -- r3.6 law.go:60
  refine WS.det rfl rfl rfl (det_pick_or rfl rfl rfl) rfl ?_ -- r3.7 law.go:60
  refine WS.done ?_
  refine QS.then_code ?_
  refine CS.cond rfl (fun hc1 => ?_) (fun hc1 => ?_) <;> (try simp only [decide_eq_true_eq, decide_eq_false_iff_not, Bool.and_eq_true, Bool.or_eq_true, Bool.and_eq_false_iff, Bool.or_eq_false_iff, Bool.not_eq_true', Bool.not_eq_false', ne_eq, Decidable.not_not, Bool.not_true, Bool.not_false, bne_iff_ne, bne_eq_false_iff_eq, beq_iff_eq, beq_eq_false_iff_ne] at hc1)
  · skip
    exact absurd hc1 (by simp)
  · skip
    refine CS.skip ?_
    refine QS.then_code ?_
    refine CS.seq ?_
    refine CS.region ?_
    refine WS.det rfl rfl rfl ((by first | exact det_loadb0 (j := 0) rfl rfl tk23 | exact det_loadbN (j := 0) rfl rfl (by rfl) tk23 | exact det_loadwN rfl (by assumption) (by rfl) tk23 | exact det_loadbK (n := 2) (j := 0) rfl rfl rfl rfl tk23)) rfl ?_ -- r5.0 law.go:63
    refine WS.det rfl rfl rfl (det_move rfl) rfl ?_ -- r5.1 law.go:63
    refine WS.det rfl rfl rfl (det_move rfl) rfl ?_ -- r5.2 law.go:63
    refine WS.callF rfl rfl ent35 (fun u hu => Readings_c _ _ _ _ _ _ u (hk.st hu)) (fun _ => rfl) ?_; rintro ⟨vx, gx⟩ ⟨ux, hvx⟩ -- r5.3 law.go:63
    refine WS.det rfl rfl rfl (det_move rfl) rfl ?_ -- r5.4 law.go:63
    refine WS.det rfl rfl rfl (det_extract rfl rfl) rfl ?_ -- r5.5 law.go:63
    refine WS.det rfl rfl rfl (det_extract rfl rfl) rfl ?_ -- r5.6 law.go:63
    refine WS.det rfl rfl rfl (det_assign rfl) rfl ?_ -- r5.7 law.go:63
    refine WS.det rfl rfl rfl (det_assign rfl) rfl ?_ -- r5.8 law.go:63
    refine WS.done ?_
    refine QS.then_code ?_
    refine CS.seq ?_
    refine CS.region ?_
    refine WS.det rfl rfl rfl ((by first | exact det_loadb0 (j := 1) rfl rfl tk23 | exact det_loadbN (j := 1) rfl rfl (by rfl) tk23 | exact det_loadwN rfl (by assumption) (by rfl) tk23 | exact det_loadbK (n := 2) (j := 1) rfl rfl rfl rfl tk23)) rfl ?_ -- r6.0 law.go:64
    refine WS.det rfl rfl rfl (det_move rfl) rfl ?_ -- r6.1 law.go:64
    refine WS.det rfl rfl rfl (det_move rfl) rfl ?_ -- r6.2 law.go:64
    refine WS.callF rfl rfl ent40 (fun u hu => RReadings_c _ _ _ _ _ _ u (hk.st hu)) (fun _ => rfl) ?_; rintro ⟨vy, gy⟩ ⟨uy, hvy⟩ -- r6.3 law.go:64
    refine WS.det rfl rfl rfl (det_move rfl) rfl ?_ -- r6.4 law.go:64
    refine WS.det rfl rfl rfl (det_extract rfl rfl) rfl ?_ -- r6.5 law.go:64
    refine WS.det rfl rfl rfl (det_extract rfl rfl) rfl ?_ -- r6.6 law.go:64
    refine WS.det rfl rfl rfl (det_assign rfl) rfl ?_ -- r6.7 law.go:64
    refine WS.det rfl rfl rfl (det_assign rfl) rfl ?_ -- r6.8 law.go:64
    refine WS.done ?_
    refine QS.then_code ?_
    refine CS.seq ?_
    refine CS.seq ?_
    refine CS.region ?_
    refine WS.det rfl rfl rfl (det_move rfl) rfl ?_ -- r7.0 law.go:65
    refine WS.det rfl rfl rfl (det_move rfl) rfl ?_ -- r7.1 law.go:65
    refine WS.det rfl rfl rfl (det_ne rfl rfl) rfl ?_ -- r7.2 law.go:65
    refine WS.det rfl rfl rfl (det_move rfl) rfl ?_ -- r7.3 law.go:65
    refine WS.guardF rfl rfl rfl rfl (fun hg => det_move rfl) rfl ?_ -- r7.4 law.go:65
    refine WS.guardF rfl rfl rfl rfl (fun hg => det_move rfl) rfl ?_ -- r7.5 law.go:65
    refine WS.guardF rfl rfl rfl rfl (fun hg => det_callB rfl (evs_cons (ev_cond hg rfl) (evs_cons (ev_cond hg rfl) evs_nil)) ent41 (fun u hu => sameLists_c _ _ _ _ _ _ u (hu.roL (j := 1) rfl) (hu.roL (j := 0) rfl))) rfl ?_ -- r7.6 law.go:65
    refine WS.guardF rfl rfl rfl rfl (fun hg => det_not (ev_cond hg rfl)) rfl ?_ -- r7.7 law.go:65
    refine WS.det rfl rfl rfl (det_pick_or rfl rfl rfl) rfl ?_ -- r7.8 law.go:65
    refine WS.done ?_
    refine QS.then_code ?_
    refine CS.cond rfl (fun hc2 => ?_) (fun hc2 => ?_) <;> (try simp only [decide_eq_true_eq, decide_eq_false_iff_not, Bool.and_eq_true, Bool.or_eq_true, Bool.and_eq_false_iff, Bool.or_eq_false_iff, Bool.not_eq_true', Bool.not_eq_false', ne_eq, Decidable.not_not, Bool.not_true, Bool.not_false, bne_iff_ne, bne_eq_false_iff_eq, beq_iff_eq, beq_eq_false_iff_ne] at hc2)
    · skip
      exact absurd hc2 (by simp)
    · skip
      refine CS.skip ?_
      refine QS.then_code ?_
      refine CS.seq ?_
      refine CS.region ?_
      refine WS.det rfl rfl rfl ((by first | exact det_loadb0 (j := 2) rfl rfl tk23 | exact det_loadbN (j := 2) rfl rfl (by rfl) tk23 | exact det_loadwN rfl (by assumption) (by rfl) tk23 | exact det_loadbK (n := 2) (j := 2) rfl rfl rfl rfl tk23)) rfl ?_ -- r9.0 law.go:68
      refine WS.det rfl rfl rfl (det_move rfl) rfl ?_ -- r9.1 law.go:68
      refine WS.callF rfl rfl ent42 (fun u hu => Shows_c _ _ _ _ _ u (hk.st hu)) (fun _ => rfl) ?_; rintro ⟨vs, gq⟩ ⟨us, hvs⟩ -- r9.2 law.go:68
      refine WS.det rfl rfl rfl (det_move rfl) rfl ?_ -- r9.3 law.go:68
      refine WS.det rfl rfl rfl (det_extract rfl rfl) rfl ?_ -- r9.4 law.go:68
      refine WS.det rfl rfl rfl (det_extract rfl rfl) rfl ?_ -- r9.5 law.go:68
      refine WS.det rfl rfl rfl (det_assign rfl) rfl ?_ -- r9.6 law.go:68
      refine WS.det rfl rfl rfl (det_assign rfl) rfl ?_ -- r9.7 law.go:68
      refine WS.done ?_
      refine QS.then_code ?_
      refine CS.seq ?_
      refine CS.region ?_
      refine WS.det rfl rfl rfl ((by first | exact det_loadb0 (j := 3) rfl rfl tk23 | exact det_loadbN (j := 3) rfl rfl (by rfl) tk23 | exact det_loadwN rfl (by assumption) (by rfl) tk23 | exact det_loadbK (n := 2) (j := 3) rfl rfl rfl rfl tk23)) rfl ?_ -- r10.0 law.go:69
      refine WS.det rfl rfl rfl (det_move rfl) rfl ?_ -- r10.1 law.go:69
      refine WS.callF rfl rfl ent43 (fun u hu => RShows_c _ _ _ _ _ u (hk.st hu)) (fun _ => rfl) ?_; rintro ⟨vt, gt⟩ ⟨ut, hvt⟩ -- r10.2 law.go:69
      refine WS.det rfl rfl rfl (det_move rfl) rfl ?_ -- r10.3 law.go:69
      refine WS.det rfl rfl rfl (det_extract rfl rfl) rfl ?_ -- r10.4 law.go:69
      refine WS.det rfl rfl rfl (det_extract rfl rfl) rfl ?_ -- r10.5 law.go:69
      refine WS.det rfl rfl rfl (det_assign rfl) rfl ?_ -- r10.6 law.go:69
      refine WS.det rfl rfl rfl (det_assign rfl) rfl ?_ -- r10.7 law.go:69
      refine WS.done ?_
      refine QS.then_code ?_
      refine CS.seq ?_
      refine CS.region ?_
      refine WS.det rfl rfl rfl (det_move rfl) rfl ?_ -- r11.0 law.go:70
      refine WS.det rfl rfl rfl (det_move rfl) rfl ?_ -- r11.1 law.go:70
      refine WS.det rfl rfl rfl (det_eq rfl rfl) rfl ?_ -- r11.2 law.go:70
      refine WS.det rfl rfl rfl (det_move rfl) rfl ?_ -- r11.3 law.go:70
      refine WS.guardT rfl rfl rfl rfl (fun hg => det_move rfl) rfl ?_ -- r11.4 law.go:70
      refine WS.guardT rfl rfl rfl rfl (fun hg => det_move rfl) rfl ?_ -- r11.5 law.go:70
      refine WS.guardT rfl rfl rfl rfl (fun hg => det_callB rfl (evs_cons (ev_cond hg rfl) (evs_cons (ev_cond hg rfl) evs_nil)) ent41 (fun u hu => sameLists_c _ _ _ _ _ _ u (hu.roL (j := 1) rfl) (hu.roL (j := 0) rfl))) rfl ?_ -- r11.6 law.go:70
      refine WS.det rfl rfl rfl (det_pick_and rfl rfl rfl) rfl ?_ -- r11.7 law.go:70
      refine WS.det rfl rfl rfl (det_move rfl) rfl ?_ -- r11.8 law.go:70
      refine WS.guardT rfl rfl rfl rfl (fun hg => det_callB rfl rfl ent19 (fun u hu => works_c u)) rfl ?_ -- r11.9 law.go:70
      refine WS.det rfl rfl rfl (det_pick_and rfl rfl rfl) rfl ?_ -- r11.10 law.go:70
      refine WS.det rfl rfl rfl (det_assign rfl) rfl ?_ -- r11.11 law.go:70
      refine WS.done ?_
      refine QS.then_code ?_
      refine CS.ret ?_
      exact out1 rfl rfl (retBe (by simp)) -- ret 1

end Go.Proofs.Ytldagbcceefcdaa
