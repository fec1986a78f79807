/- Contracts of functions, printed by a program of the prover (gen.py). -/
import Derived.Test.YtldagbcceefcdaaL5
import Derived.Test.YtldagbcceefcdaaC17
namespace Go.Proofs.Ytldagbcceefcdaa
open Go.RowKit Go.Proofs
set_option maxRecDepth 100000
set_option linter.unusedVariables false
set_option linter.unusedSimpArgs false

theorem CodesCores_c (lw ls : Int) (cs : List Clue) (gs : List Value) (cv : Value) (w : World) (hk : ClS w cv cs gs) :
    Calls Try.prog 12 #[.agg #[.int .i64 lw, .int .i64 ls], cv] w (RetB w (.bool true)) := by
  refine enter Try.func12 rfl rfl (Nat.le_of_ble_eq_true rfl) ?_
  refine CS.seq ?_
  refine CS.region ?_
  refine WS.box rfl rfl (fun _ => rfl) ?_; intro b2 hb2 -- r0.0 law.go:81
  refine WS.det rfl rfl rfl (det_assign rfl) rfl ?_ -- r0.1 law.go:81
  refine WS.done ?_
  refine QS.then_code ?_
  refine CS.seq ?_
  refine CS.seq ?_
  refine CS.region ?_
  refine WS.det rfl rfl rfl (det_move rfl) rfl ?_ -- r1.0 law.go:82
  refine WS.det rfl rfl rfl ((by first | exact det_lenS sl31 rfl (by assumption) | exact det_lenS sl31 rfl (by first | exact SlL.sp (by assumption) | exact ClS.sp (by assumption)) | exact det_lenO sl31 rfl | exact det_lenV sl31 rfl ⟨_, _, rfl⟩)) rfl ?_ -- r1.1 law.go:82
  refine WS.det rfl rfl rfl (det_gt rfl rfl) rfl ?_ -- r1.2 law.go:82
  refine WS.det rfl rfl rfl (det_move rfl) rfl ?_ -- r1.3 law.go:82
  refine WS.guardT rfl rfl rfl rfl (fun hg => det_move rfl) rfl ?_ -- r1.4 law.go:82
  refine WS.guardT rfl rfl rfl rfl (fun hg => (by first | exact det_lenS sl31 (ev_cond hg rfl) (by assumption) | exact det_lenS sl31 (ev_cond hg rfl) (by first | exact SlL.sp (by assumption) | exact ClS.sp (by assumption)) | exact det_lenO sl31 (ev_cond hg rfl) | exact det_lenV sl31 (ev_cond hg rfl) ⟨_, _, rfl⟩)) rfl ?_ -- r1.5 law.go:82
  refine WS.guardT rfl rfl rfl rfl (fun hg => det_le (ev_cond hg rfl) rfl) rfl ?_ -- r1.6 law.go:82
  refine WS.det rfl rfl rfl (det_pick_and rfl rfl rfl) rfl ?_ -- r1.7 law.go:82
  refine WS.done ?_
  refine QS.then_code ?_
  refine CS.cond rfl (fun hc1 => ?_) (fun hc1 => ?_) <;> (try simp only [decide_eq_true_eq, decide_eq_false_iff_not, Bool.and_eq_true, Bool.or_eq_true, Bool.and_eq_false_iff, Bool.or_eq_false_iff, Bool.not_eq_true', Bool.not_eq_false', ne_eq, Decidable.not_not, Bool.not_true, Bool.not_false, bne_iff_ne, bne_eq_false_iff_eq, beq_iff_eq, beq_eq_false_iff_ne] at hc1)
  · skip
    refine CS.seq ?_
    refine CS.region ?_
    refine WS.det rfl rfl rfl (det_callB rfl rfl ent19 (fun u hu => works_c u)) rfl ?_ -- r2.0 law.go:83
    refine WS.det rfl rfl rfl (det_assign rfl) rfl ?_ -- r2.1 law.go:83
    refine WS.done ?_
    refine QS.then_code ?_
    refine CS.ret ?_
    refine QS.then_ret ?_
    exact out1 rfl rfl (retBe (by simp)) -- ret 1
  · skip
    refine CS.skip ?_
    refine QS.then_code ?_
    refine CS.seq ?_
    refine CS.region ?_
    refine WS.det rfl rfl rfl ((by first | exact det_loadb0 (j := 0) rfl rfl tk23 | exact det_loadbN (j := 0) rfl rfl (by rfl) tk23 | exact det_loadwN rfl (by assumption) (by rfl) tk23 | exact det_loadbK (n := 2) (j := 0) rfl rfl rfl rfl tk23)) rfl ?_ -- r3.0 law.go:85
    refine WS.det rfl rfl rfl (det_move rfl) rfl ?_ -- r3.1 law.go:85
    refine WS.callF rfl rfl ent44 (fun u hu => Idle_c _ _ _ _ _ u (hk.st hu)) (fun _ => rfl) ?_; rintro vi ⟨ui, hvi⟩ -- r3.2 law.go:85
    refine WS.det rfl rfl rfl (det_move rfl) rfl ?_ -- r3.3 law.go:85
    refine WS.det rfl rfl rfl (det_extract rfl rfl) rfl ?_ -- r3.4 law.go:85
    refine WS.det rfl rfl rfl (det_extract rfl rfl) rfl ?_ -- r3.5 law.go:85
    refine WS.det rfl rfl rfl (det_assign rfl) rfl ?_ -- r3.6 law.go:85
    refine WS.det rfl rfl rfl (det_assign rfl) rfl ?_ -- r3.7 law.go:85
    refine WS.done ?_
    refine QS.then_code ?_
    refine CS.seq ?_
    refine CS.region ?_
    refine WS.det rfl rfl rfl ((by first | exact det_loadb0 (j := 1) rfl rfl tk23 | exact det_loadbN (j := 1) rfl rfl (by rfl) tk23 | exact det_loadwN rfl (by assumption) (by rfl) tk23 | exact det_loadbK (n := 2) (j := 1) rfl rfl rfl rfl tk23)) rfl ?_ -- r4.0 law.go:86
    refine WS.det rfl rfl rfl (det_move rfl) rfl ?_ -- r4.1 law.go:86
    refine WS.callF rfl rfl ent45 (fun u hu => RIdle_c _ _ _ _ _ u (hk.st hu)) (fun _ => rfl) ?_; rintro vj ⟨uj, hvj⟩ -- r4.2 law.go:86
    refine WS.det rfl rfl rfl (det_move rfl) rfl ?_ -- r4.3 law.go:86
    refine WS.det rfl rfl rfl (det_extract rfl rfl) rfl ?_ -- r4.4 law.go:86
    refine WS.det rfl rfl rfl (det_extract rfl rfl) rfl ?_ -- r4.5 law.go:86
    refine WS.det rfl rfl rfl (det_assign rfl) rfl ?_ -- r4.6 law.go:86
    refine WS.det rfl rfl rfl (det_assign rfl) rfl ?_ -- r4.7 law.go:86
    refine WS.done ?_
    refine QS.then_code ?_
    refine CS.seq ?_
    refine CS.seq ?_
    refine CS.region ?_
    refine WS.det rfl rfl rfl (det_move rfl) rfl ?_ -- r5.0 law.go:87
    refine WS.det rfl rfl rfl (det_move rfl) rfl ?_ -- r5.1 law.go:87
    refine WS.det rfl rfl rfl (det_ne rfl rfl) rfl ?_ -- r5.2 law.go:87
    refine WS.det rfl rfl rfl (det_move rfl) rfl ?_ -- r5.3 law.go:87
    refine WS.guardF rfl rfl rfl rfl (fun hg => det_move rfl) rfl ?_ -- r5.4 law.go:87
    refine WS.guardF rfl rfl rfl rfl (fun hg => det_move rfl) rfl ?_ -- r5.5 law.go:87
    refine WS.guardF rfl rfl rfl rfl (fun hg => det_callB rfl (evs_cons (ev_cond hg rfl) (evs_cons (ev_cond hg rfl) evs_nil)) ent20 (fun u hu => SameInts_c _ _ _ _ u (hu.roI (j := 1) rfl) (hu.roI (j := 0) rfl))) rfl ?_ -- r5.6 law.go:87
    refine WS.guardF rfl rfl rfl rfl (fun hg => det_not (ev_cond hg rfl)) rfl ?_ -- r5.7 law.go:87
    refine WS.det rfl rfl rfl (det_pick_or rfl rfl rfl) rfl ?_ -- r5.8 law.go:87
    refine WS.done ?_
    refine QS.then_code ?_
    refine CS.cond rfl (fun hc2 => ?_) (fun hc2 => ?_) <;> (try simp only [decide_eq_true_eq, decide_eq_false_iff_not, Bool.and_eq_true, Bool.or_eq_true, Bool.and_eq_false_iff, Bool.or_eq_false_iff, Bool.not_eq_true', Bool.not_eq_false', ne_eq, Decidable.not_not, Bool.not_true, Bool.not_false, bne_iff_ne, bne_eq_false_iff_eq, beq_iff_eq, beq_eq_false_iff_ne] at hc2)
    · skip
      exact absurd hc2 (by simp)
    · skip
      refine CS.skip ?_
      refine QS.then_code ?_
      refine CS.seq ?_
      refine CS.region ?_
      refine WS.det rfl rfl rfl ((by first | exact det_loadb0 (j := 2) rfl rfl tk23 | exact det_loadbN (j := 2) rfl rfl (by rfl) tk23 | exact det_loadwN rfl (by assumption) (by rfl) tk23 | exact det_loadbK (n := 2) (j := 2) rfl rfl rfl rfl tk23)) rfl ?_ -- r7.0 law.go:90
      refine WS.det rfl rfl rfl (det_move rfl) rfl ?_ -- r7.1 law.go:90
      refine WS.callF rfl rfl ent46 (fun u hu => Core_c _ _ _ _ _ u (hk.st hu)) (fun _ => rfl) ?_; rintro vk ⟨uk, hvk⟩ -- r7.2 law.go:90
      refine WS.det rfl rfl rfl (det_move rfl) rfl ?_ -- r7.3 law.go:90
      refine WS.det rfl rfl rfl (det_extract rfl rfl) rfl ?_ -- r7.4 law.go:90
      refine WS.det rfl rfl rfl (det_extract rfl rfl) rfl ?_ -- r7.5 law.go:90
      refine WS.det rfl rfl rfl (det_assign rfl) rfl ?_ -- r7.6 law.go:90
      refine WS.det rfl rfl rfl (det_assign rfl) rfl ?_ -- r7.7 law.go:90
      refine WS.done ?_
      refine QS.then_code ?_
      refine CS.seq ?_
      refine CS.region ?_
      refine WS.det rfl rfl rfl ((by first | exact det_loadb0 (j := 3) rfl rfl tk23 | exact det_loadbN (j := 3) rfl rfl (by rfl) tk23 | exact det_loadwN rfl (by assumption) (by rfl) tk23 | exact det_loadbK (n := 2) (j := 3) rfl rfl rfl rfl tk23)) rfl ?_ -- r8.0 law.go:91
      refine WS.det rfl rfl rfl (det_move rfl) rfl ?_ -- r8.1 law.go:91
      refine WS.callF rfl rfl ent47 (fun u hu => RCore_c _ _ _ _ _ u (hk.st hu)) (fun _ => rfl) ?_; rintro vl ⟨ul, hvl⟩ -- r8.2 law.go:91
      refine WS.det rfl rfl rfl (det_move rfl) rfl ?_ -- r8.3 law.go:91
      refine WS.det rfl rfl rfl (det_extract rfl rfl) rfl ?_ -- r8.4 law.go:91
      refine WS.det rfl rfl rfl (det_extract rfl rfl) rfl ?_ -- r8.5 law.go:91
      refine WS.det rfl rfl rfl (det_assign rfl) rfl ?_ -- r8.6 law.go:91
      refine WS.det rfl rfl rfl (det_assign rfl) rfl ?_ -- r8.7 law.go:91
      refine WS.done ?_
      refine QS.then_code ?_
      refine CS.seq ?_
      refine CS.seq ?_
      refine CS.region ?_
      refine WS.det rfl rfl rfl (det_move rfl) rfl ?_ -- r9.0 law.go:92
      refine WS.det rfl rfl rfl (det_move rfl) rfl ?_ -- r9.1 law.go:92
      refine WS.det rfl rfl rfl (det_ne rfl rfl) rfl ?_ -- r9.2 law.go:92
      refine WS.det rfl rfl rfl (det_move rfl) rfl ?_ -- r9.3 law.go:92
      refine WS.guardF rfl rfl rfl rfl (fun hg => det_move rfl) rfl ?_ -- r9.4 law.go:92
      refine WS.guardF rfl rfl rfl rfl (fun hg => det_move rfl) rfl ?_ -- r9.5 law.go:92
      refine WS.guardF rfl rfl rfl rfl (fun hg => det_callB rfl (evs_cons (ev_cond hg rfl) (evs_cons (ev_cond hg rfl) evs_nil)) ent20 (fun u hu => SameInts_c _ _ _ _ u (hu.roI (j := 1) rfl) (hu.roI (j := 0) rfl))) rfl ?_ -- r9.6 law.go:92
      refine WS.guardF rfl rfl rfl rfl (fun hg => det_not (ev_cond hg rfl)) rfl ?_ -- r9.7 law.go:92
      refine WS.det rfl rfl rfl (det_pick_or rfl rfl rfl) rfl ?_ -- r9.8 law.go:92
      refine WS.done ?_
      refine QS.then_code ?_
      refine CS.cond rfl (fun hc3 => ?_) (fun hc3 => ?_) <;> (try simp only [decide_eq_true_eq, decide_eq_false_iff_not, Bool.and_eq_true, Bool.or_eq_true, Bool.and_eq_false_iff, Bool.or_eq_false_iff, Bool.not_eq_true', Bool.not_eq_false', ne_eq, Decidable.not_not, Bool.not_true, Bool.not_false, bne_iff_ne, bne_eq_false_iff_eq, beq_iff_eq, beq_eq_false_iff_ne] at hc3)
      · skip
        exact absurd hc3 (by simp)
      · skip
        refine CS.skip ?_
        refine QS.then_code ?_
        refine CS.seq ?_
        refine CS.region ?_
        refine WS.det rfl rfl rfl ((by first | exact det_loadb0 (j := 4) rfl rfl tk23 | exact det_loadbN (j := 4) rfl rfl (by rfl) tk23 | exact det_loadwN rfl (by assumption) (by rfl) tk23 | exact det_loadbK (n := 2) (j := 4) rfl rfl rfl rfl tk23)) rfl ?_ -- r11.0 law.go:95
        refine WS.det rfl rfl rfl (det_move rfl) rfl ?_ -- r11.1 law.go:95
        refine WS.callF rfl rfl ent48 (fun u hu => Pair_c _ _ _ _ _ u (hk.st hu)) (fun _ => rfl) ?_; rintro ⟨vp, vq⟩ ⟨up, hvp⟩ -- r11.2 law.go:95
        refine WS.det rfl rfl rfl (det_move rfl) rfl ?_ -- r11.3 law.go:95
        refine WS.det rfl rfl rfl (det_extract rfl rfl) rfl ?_ -- r11.4 law.go:95
        refine WS.det rfl rfl rfl (det_extract rfl rfl) rfl ?_ -- r11.5 law.go:95
        refine WS.det rfl rfl rfl (det_extract rfl rfl) rfl ?_ -- r11.6 law.go:95
        refine WS.det rfl rfl rfl (det_assign rfl) rfl ?_ -- r11.7 law.go:95
        refine WS.det rfl rfl rfl (det_assign rfl) rfl ?_ -- r11.8 law.go:95
        refine WS.det rfl rfl rfl (det_assign rfl) rfl ?_ -- r11.9 law.go:95
        refine WS.done ?_
        refine QS.then_code ?_
        refine CS.seq ?_
        refine CS.region ?_
        refine WS.det rfl rfl rfl ((by first | exact det_loadb0 (j := 5) rfl rfl tk23 | exact det_loadbN (j := 5) rfl rfl (by rfl) tk23 | exact det_loadwN rfl (by assumption) (by rfl) tk23 | exact det_loadbK (n := 2) (j := 5) rfl rfl rfl rfl tk23)) rfl ?_ -- r12.0 law.go:96
        refine WS.det rfl rfl rfl (det_move rfl) rfl ?_ -- r12.1 law.go:96
        refine WS.callF rfl rfl ent49 (fun u hu => RPair_c _ _ _ _ _ u (hk.st hu)) (fun _ => rfl) ?_; rintro ⟨vp, vq⟩ ⟨up, hvp⟩ -- r12.2 law.go:96
        refine WS.det rfl rfl rfl (det_move rfl) rfl ?_ -- r12.3 law.go:96
        refine WS.det rfl rfl rfl (det_extract rfl rfl) rfl ?_ -- r12.4 law.go:96
        refine WS.det rfl rfl rfl (det_extract rfl rfl) rfl ?_ -- r12.5 law.go:96
        refine WS.det rfl rfl rfl (det_extract rfl rfl) rfl ?_ -- r12.6 law.go:96
        refine WS.det rfl rfl rfl (det_assign rfl) rfl ?_ -- r12.7 law.go:96
        refine WS.det rfl rfl rfl (det_assign rfl) rfl ?_ -- r12.8 law.go:96
        refine WS.det rfl rfl rfl (det_assign rfl) rfl ?_ -- r12.9 law.go:96
        refine WS.done ?_
        refine QS.then_code ?_
        refine CS.seq ?_
        refine CS.region ?_
        refine WS.det rfl rfl rfl (det_move rfl) rfl ?_ -- r13.0 law.go:97
        refine WS.det rfl rfl rfl (det_move rfl) rfl ?_ -- r13.1 law.go:97
        refine WS.det rfl rfl rfl (det_eq rfl rfl) rfl ?_ -- r13.2 law.go:97
        refine WS.det rfl rfl rfl (det_move rfl) rfl ?_ -- r13.3 law.go:97
        refine WS.guardT rfl rfl rfl rfl (fun hg => det_move rfl) rfl ?_ -- r13.4 law.go:97
        refine WS.guardT rfl rfl rfl rfl (fun hg => det_move rfl) rfl ?_ -- r13.5 law.go:97
        refine WS.guardT rfl rfl rfl rfl (fun hg => det_callB rfl (evs_cons (ev_cond hg rfl) (evs_cons (ev_cond hg rfl) evs_nil)) ent20 (fun u hu => SameInts_c _ _ _ _ u (roPl (j := 1) rfl hu) (roPl (j := 0) rfl hu))) rfl ?_ -- r13.6 law.go:97
        refine WS.det rfl rfl rfl (det_pick_and rfl rfl rfl) rfl ?_ -- r13.7 law.go:97
        refine WS.det rfl rfl rfl (det_move rfl) rfl ?_ -- r13.8 law.go:97
        refine WS.guardT rfl rfl rfl rfl (fun hg => det_move rfl) rfl ?_ -- r13.9 law.go:97
        refine WS.guardT rfl rfl rfl rfl (fun hg => det_move rfl) rfl ?_ -- r13.10 law.go:97
        refine WS.guardT rfl rfl rfl rfl (fun hg => det_callB rfl (evs_cons (ev_cond hg rfl) (evs_cons (ev_cond hg rfl) evs_nil)) ent20 (fun u hu => SameInts_c _ _ _ _ u (roPr (j := 1) rfl hu) (roPr (j := 0) rfl hu))) rfl ?_ -- r13.11 law.go:97
        refine WS.det rfl rfl rfl (det_pick_and rfl rfl rfl) rfl ?_ -- r13.12 law.go:97
        refine WS.det rfl rfl rfl (det_move rfl) rfl ?_ -- r13.13 law.go:97
        refine WS.guardT rfl rfl rfl rfl (fun hg => det_callB rfl rfl ent19 (fun u hu => works_c u)) rfl ?_ -- r13.14 law.go:97
        refine WS.det rfl rfl rfl (det_pick_and rfl rfl rfl) rfl ?_ -- r13.15 law.go:97
        refine WS.det rfl rfl rfl (det_assign rfl) rfl ?_ -- r13.16 law.go:97
        refine WS.done ?_
        refine QS.then_code ?_
        refine CS.ret ?_
        exact out1 rfl rfl (retBe (by simp)) -- ret 2

end Go.Proofs.Ytldagbcceefcdaa
