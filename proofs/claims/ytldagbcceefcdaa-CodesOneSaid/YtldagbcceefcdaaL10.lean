/- Contracts of functions, printed by a program of the prover (gen.py). -/
import Derived.Test.YtldagbcceefcdaaL8
import Derived.Test.YtldagbcceefcdaaOne
namespace Go.Proofs.Ytldagbcceefcdaa
open Go.RowKit Go.Proofs
set_option maxRecDepth 100000
set_option linter.unusedVariables false
set_option linter.unusedSimpArgs false

set_option maxHeartbeats 2000000 in
theorem CodesOne_c (lw ls : Int) (cs : List Clue) (gs : List Value) (cv : Value) (xs : List Int) (xv : Value) (w : World) (hk : ClS w cv cs gs) (h2 : SlI w xv xs) :
    Calls Try.prog 16 #[.agg #[.int .i64 lw, .int .i64 ls], cv, xv] w (RetB w (.bool true)) := by
  have hkl := hk.le
  refine enter Try.func16 rfl rfl (Nat.le_of_ble_eq_true rfl) ?_
  refine CS.seq ?_
  refine CS.region ?_
  refine WS.box rfl rfl (fun _ => rfl) ?_; intro b3 hb3 -- r0.0 outright.go:64
  refine WS.det rfl rfl rfl (det_assign rfl) rfl ?_ -- r0.1 outright.go:64
  refine WS.done ?_
  refine QS.then_code ?_
  refine CS.seq ?_
  refine CS.seq ?_
  refine CS.region ?_
  refine WS.det rfl rfl rfl ((by first | exact det_loadb0 (j := 0) rfl rfl tk23 | exact det_loadbN (j := 0) rfl rfl (by rfl) tk23 | exact det_loadwN rfl (by assumption) (by rfl) tk23 | exact det_loadbK (n := 2) (j := 0) rfl rfl rfl rfl tk23)) rfl ?_ -- r1.0 outright.go:65
  refine WS.det rfl rfl rfl (det_move rfl) rfl ?_ -- r1.1 outright.go:65
  refine WS.det rfl rfl rfl (det_callB rfl rfl ent33 (fun u hu => RCheckClues_c _ _ _ _ _ u (hk.st hu))) rfl ?_ -- r1.2 outright.go:65
  refine WS.det rfl rfl rfl (det_ne rfl rfl) rfl ?_ -- r1.3 outright.go:65
  refine WS.done ?_
  refine QS.then_code ?_
  refine CS.cond rfl (fun hc1 => ?_) (fun hc1 => ?_) <;> (try simp only [decide_eq_true_eq, decide_eq_false_iff_not, Bool.and_eq_true, Bool.or_eq_true, Bool.and_eq_false_iff, Bool.or_eq_false_iff, Bool.not_eq_true', Bool.not_eq_false', ne_eq, Decidable.not_not, Bool.not_true, Bool.not_false, bne_iff_ne, bne_eq_false_iff_eq, beq_iff_eq, beq_eq_false_iff_ne] at hc1)
  · skip
    refine CS.seq ?_
    refine CS.region ?_
    refine WS.det rfl rfl rfl (det_callB rfl rfl ent19 (fun u hu => works_c u)) rfl ?_ -- r2.0 outright.go:66
    refine WS.det rfl rfl rfl (det_assign rfl) rfl ?_ -- r2.1 outright.go:66
    refine WS.done ?_
    refine QS.then_code ?_
    refine CS.ret ?_
    refine QS.then_ret ?_
    exact out1 rfl rfl (retBe rfl) -- ret 1
  · skip
    have hce : cluesE lw ls cs = 0 := hc1
    have hL := cluesE_lock hce
    have hC := cluesE_clue hce
    have hl := lock_of hL
    have hrb := readL_le hL cs
    have hz0 : (if cluesE lw ls cs = 0 then ((readL lw ls cs).length : Int) else 0) = (readL lw ls cs).length := if_pos hce
    have hRc : ∀ y ∈ readL lw ls cs, codeB lw ls y = true := fun y hy => (readL_mem hL hy).1
    have hpr := prE_of hce
    have hsl : (showL lw ls (readL lw ls cs)).length = lw.toNat := showL_len
    have hre : rdE lw ls cs 1 = 0 := by simp [rdE, hce, within]
    refine CS.skip ?_
    refine QS.then_code ?_
    refine CS.seq ?_
    refine CS.region ?_
    refine WS.det rfl rfl rfl ((by first | exact det_loadb0 (j := 0) rfl rfl tk23 | exact det_loadbN (j := 0) rfl rfl (by rfl) tk23 | exact det_loadwN rfl (by assumption) (by rfl) tk23 | exact det_loadbK (n := 2) (j := 0) rfl rfl rfl rfl tk23)) rfl ?_ -- r3.0 outright.go:68
    refine WS.det rfl rfl rfl (det_move rfl) rfl ?_ -- r3.1 outright.go:68
    refine WS.det rfl rfl rfl (det_callB rfl rfl ent34 (fun u hu => Count_c _ _ _ _ _ u (hk.st hu))) rfl ?_ -- r3.2 outright.go:68
    refine WS.det rfl rfl rfl (det_move rfl) rfl ?_ -- r3.3 outright.go:68
    refine WS.det rfl rfl rfl (det_extract rfl rfl) rfl ?_ -- r3.4 outright.go:68
    refine WS.det rfl rfl rfl (det_extract rfl rfl) rfl ?_ -- r3.5 outright.go:68
    refine WS.det rfl rfl rfl (det_assign rfl) rfl ?_ -- r3.6 outright.go:68
    refine WS.det rfl rfl rfl (det_assign rfl) rfl ?_ -- r3.7 outright.go:68
    refine WS.done ?_
    refine QS.then_code ?_
    refine CS.seq ?_
    refine CS.region ?_
    refine WS.det rfl rfl rfl ((by first | exact det_loadb0 (j := 0) rfl rfl tk23 | exact det_loadbN (j := 0) rfl rfl (by rfl) tk23 | exact det_loadwN rfl (by assumption) (by rfl) tk23 | exact det_loadbK (n := 2) (j := 0) rfl rfl rfl rfl tk23)) rfl ?_ -- r4.0 outright.go:69
    refine WS.det rfl rfl rfl (det_move rfl) rfl ?_ -- r4.1 outright.go:69
    refine WS.callF rfl rfl ent42 (fun u hu => (by have h := Shows_c lw ls cs gs cv u (hk.st hu); simp only [hce, if_true] at h; exact h)) (fun _ => rfl) ?_; rintro ⟨vs, gq⟩ ⟨us, hvs⟩ -- r4.2 outright.go:69
    refine WS.det rfl rfl rfl (det_move rfl) rfl ?_ -- r4.3 outright.go:69
    refine WS.det rfl rfl rfl (det_extract rfl rfl) rfl ?_ -- r4.4 outright.go:69
    refine WS.det rfl rfl rfl (det_extract rfl rfl) rfl ?_ -- r4.5 outright.go:69
    refine WS.det rfl rfl rfl (det_assign rfl) rfl ?_ -- r4.6 outright.go:69
    refine WS.det rfl rfl rfl (det_assign rfl) rfl ?_ -- r4.7 outright.go:69
    refine WS.done ?_
    refine QS.then_code ?_
    refine CS.seq ?_
    refine CS.region ?_
    refine WS.det rfl rfl rfl ((by first | exact det_loadb0 (j := 1) rfl rfl tk23 | exact det_loadbN (j := 1) rfl rfl (by rfl) tk23 | exact det_loadwN rfl (by assumption) (by rfl) tk23 | exact det_loadbK (n := 2) (j := 1) rfl rfl rfl rfl tk23)) rfl ?_ -- r5.0 outright.go:70
    refine WS.det rfl rfl rfl (det_move rfl) rfl ?_ -- r5.1 outright.go:70
    refine WS.callF rfl rfl ent48 (fun u hu => Pair_c _ _ _ _ _ u (hk.st hu)) (fun _ => rfl) ?_; rintro ⟨vp, vq⟩ ⟨up, hvp⟩ -- r5.2 outright.go:70
    refine WS.det rfl rfl rfl (det_move rfl) rfl ?_ -- r5.3 outright.go:70
    refine WS.det rfl rfl rfl (det_extract rfl rfl) rfl ?_ -- r5.4 outright.go:70
    refine WS.det rfl rfl rfl (det_extract rfl rfl) rfl ?_ -- r5.5 outright.go:70
    refine WS.det rfl rfl rfl (det_extract rfl rfl) rfl ?_ -- r5.6 outright.go:70
    refine WS.det rfl rfl rfl (det_assign rfl) rfl ?_ -- r5.7 outright.go:70
    refine WS.det rfl rfl rfl (det_assign rfl) rfl ?_ -- r5.8 outright.go:70
    refine WS.det rfl rfl rfl (det_assign rfl) rfl ?_ -- r5.9 outright.go:70
    refine WS.done ?_
    refine QS.then_code ?_
    refine CS.seq ?_
    refine CS.seq ?_
    refine CS.region ?_
    refine WS.det rfl rfl rfl (det_move rfl) rfl ?_ -- r6.0 outright.go:71
    refine WS.det rfl rfl rfl (det_ne rfl rfl) rfl ?_ -- r6.1 outright.go:71
    refine WS.det rfl rfl rfl (det_move rfl) rfl ?_ -- r6.2 outright.go:71
    refine WS.guardF rfl rfl rfl rfl (fun hg => det_move rfl) rfl ?_ -- r6.3 outright.go:71
    refine WS.guardF rfl rfl rfl rfl (fun hg => det_ne (ev_cond hg rfl) rfl) rfl ?_ -- r6.4 outright.go:71
    refine WS.det rfl rfl rfl (det_pick_or rfl rfl rfl) rfl ?_ -- r6.5 outright.go:71
    refine WS.done ?_
    refine QS.then_code ?_
    refine CS.cond rfl (fun hc2 => ?_) (fun hc2 => ?_) <;> (try simp only [decide_eq_true_eq, decide_eq_false_iff_not, Bool.and_eq_true, Bool.or_eq_true, Bool.and_eq_false_iff, Bool.or_eq_false_iff, Bool.not_eq_true', Bool.not_eq_false', ne_eq, Decidable.not_not, Bool.not_true, Bool.not_false, bne_iff_ne, bne_eq_false_iff_eq, beq_iff_eq, beq_eq_false_iff_ne] at hc2)
    · skip
      exact absurd hc2 (by simp [hce])
    · skip
      refine CS.skip ?_
      refine QS.then_code ?_
      refine CS.seq ?_
      refine CS.seq ?_
      refine CS.region ?_
      refine WS.det rfl rfl rfl (det_move rfl) rfl ?_ -- r8.0 outright.go:74
      refine WS.det rfl rfl rfl (det_eq rfl rfl) rfl ?_ -- r8.1 outright.go:74
      refine WS.det rfl rfl rfl (det_move rfl) rfl ?_ -- r8.2 outright.go:74
      refine WS.det rfl rfl rfl (det_gt rfl rfl) rfl ?_ -- r8.3 outright.go:74
      refine WS.det rfl rfl rfl (det_neb rfl rfl Try.underlying4) rfl ?_ -- r8.4 outright.go:74
      refine WS.det rfl rfl rfl (det_move rfl) rfl ?_ -- r8.5 outright.go:74
      refine WS.guardF rfl rfl rfl rfl (fun hg => det_move rfl) rfl ?_ -- r8.6 outright.go:74
      refine WS.guardF rfl rfl rfl rfl (fun hg => det_ne (ev_cond hg rfl) rfl) rfl ?_ -- r8.7 outright.go:74
      refine WS.guardF rfl rfl rfl rfl (fun hg => det_move (ev_cond hg rfl)) rfl ?_ -- r8.8 outright.go:74
      refine WS.guardN rfl rfl rfl rfl rfl (fun hg => det_move rfl) rfl ?_ -- r8.9 outright.go:74
      refine WS.guardN rfl rfl rfl rfl rfl (fun hg => det_ne (ev_cond hg rfl) rfl) rfl ?_ -- r8.10 outright.go:74
      refine WS.guardF rfl rfl rfl rfl (fun hg => det_pick_and (ev_cond hg rfl) (ev_nestT hg rfl) rfl) rfl ?_ -- r8.11 outright.go:74
      refine WS.det rfl rfl rfl (det_pick_or rfl rfl rfl) rfl ?_ -- r8.12 outright.go:74
      refine WS.det rfl rfl rfl (det_move rfl) rfl ?_ -- r8.13 outright.go:74
      refine WS.guardF rfl rfl rfl rfl (fun hg => det_move rfl) rfl ?_ -- r8.14 outright.go:74
      refine WS.guardF rfl rfl rfl rfl (fun hg => (by first | exact det_lenS sl51 (ev_cond hg rfl) (by assumption) | exact det_lenS sl51 (ev_cond hg rfl) (by first | exact SlL.sp (by assumption) | exact ClS.sp (by assumption)) | exact det_lenO sl51 (ev_cond hg rfl) | exact det_lenV sl51 (ev_cond hg rfl) ⟨_, _, rfl⟩)) rfl ?_ -- r8.15 outright.go:74
      refine WS.guardF rfl rfl rfl rfl (fun hg => (by first | exact det_fieldAddr rfl fo23_0 | exact det_fieldAddrS rfl fo23_0)) rfl ?_ -- r8.16 outright.go:74
      refine WS.guardF rfl rfl rfl rfl (fun hg => (by first | exact det_loadb (j := 2) (ev_cond hg rfl) rfl rfl tk3 | exact det_loadw (ev_cond hg rfl) (by assumption) rfl tk3)) rfl ?_ -- r8.17 outright.go:74
      refine WS.guardF rfl rfl rfl rfl (fun hg => det_ne (ev_cond hg rfl) (ev_cond hg rfl)) rfl ?_ -- r8.18 outright.go:74
      refine WS.det rfl rfl rfl (det_pick_or rfl rfl rfl) rfl ?_ -- r8.19 outright.go:74
      refine WS.done ?_
      refine QS.then_code ?_
      refine CS.cond rfl (fun hc3 => ?_) (fun hc3 => ?_) <;> (try simp only [decide_eq_true_eq, decide_eq_false_iff_not, Bool.and_eq_true, Bool.or_eq_true, Bool.and_eq_false_iff, Bool.or_eq_false_iff, Bool.not_eq_true', Bool.not_eq_false', ne_eq, Decidable.not_not, Bool.not_true, Bool.not_false, bne_iff_ne, bne_eq_false_iff_eq, beq_iff_eq, beq_eq_false_iff_ne] at hc3)
      · skip
        exfalso
        rw [hz0] at hc3
        rcases hc3 with (h | h) | h
        · by_cases hp : prE lw ls cs = 0
          · rw [decide_eq_true hp, decide_eq_true (show (1 : Int) < (readL lw ls cs).length by have := hpr.1.1 hp; omega)] at h; exact h rfl
          · rw [decide_eq_false hp, decide_eq_false (show ¬ (1 : Int) < (readL lw ls cs).length by have := fun h => hp (hpr.1.2 h); omega)] at h; exact h rfl
        · omega
        · omega
      · skip
        refine CS.skip ?_
        refine QS.then_code ?_
        refine CS.cut (σ := Unit) [6, 14, 15, 16, 17, 18, 19, 87, 88, 89, 90, 91, 92, 93, 94, 95, 96, 97, 98, 99, 100, 101, 102, 103, 104, 105, 106, 107, 108, 109, 110, 111, 112, 113, 114, 115, 116, 117, 118, 119, 120, 121, 122, 123, 124] (fun s => []) (fun s => [roL vs (showL lw ls (readL lw ls cs)) gq, blk b3 [.int .i64 lw, .int .i64 ls] 23]) (fun s => True) (fun _ _ => rfl) ?_ ?_
        · skip
          refine CS.seq ?_
          refine CS.region ?_
          refine WS.det rfl rfl rfl (det_move rfl) rfl ?_ -- r10.0 outright.go:77
          refine WS.det rfl rfl rfl (det_eq rfl rfl) rfl ?_ -- r10.1 outright.go:77
          refine WS.done ?_
          refine QS.then_code ?_
          refine CS.cond rfl (fun hc4 => ?_) (fun hc4 => ?_) <;> (try simp only [decide_eq_true_eq, decide_eq_false_iff_not, Bool.and_eq_true, Bool.or_eq_true, Bool.and_eq_false_iff, Bool.or_eq_false_iff, Bool.not_eq_true', Bool.not_eq_false', ne_eq, Decidable.not_not, Bool.not_true, Bool.not_false, bne_iff_ne, bne_eq_false_iff_eq, beq_iff_eq, beq_eq_false_iff_ne] at hc4)
          · skip
            have hlen := hpr.1.1 hc4
            have hab := readL_before hL cs (i := 0) (j := (readL lw ls cs).length - 1) (by omega) (by omega) (by omega)
            have hA := readL_mem hL (nth_mem (xs := readL lw ls cs) (i := 0) (by omega) (by omega))
            have hB := readL_mem hL (nth_mem (xs := readL lw ls cs) (i := (readL lw ls cs).length - 1) (by omega) (by omega))
            have hfa : fitsE lw ls cs (nth (readL lw ls cs) 0) = 0 := by unfold fitsE; rw [if_pos hce, codeE_of hL hA.1]
            have hfb : fitsE lw ls cs (nth (readL lw ls cs) ((readL lw ls cs).length - 1)) = 0 := by unfold fitsE; rw [if_pos hce, codeE_of hL hB.1]
            refine CS.weak (L' := [roS fun u => SlI u vp (nth (readL lw ls cs) 0) ∧ SlI u vq (nth (readL lw ls cs) ((readL lw ls cs).length - 1)), roL vs (showL lw ls (readL lw ls cs)) gq, blk b3 [.int .i64 lw, .int .i64 ls] 23]) (fun u hu => by simp only [if_pos hc4] at hu; exact hu) ?_
            refine CS.seq ?_
            refine CS.region ?_
            refine WS.det rfl rfl rfl ((by first | exact det_loadb0 (j := 2) rfl rfl tk23 | exact det_loadbN (j := 2) rfl rfl (by rfl) tk23 | exact det_loadwN rfl (by assumption) (by rfl) tk23 | exact det_loadbK (n := 2) (j := 2) rfl rfl rfl rfl tk23)) rfl ?_ -- r11.0 outright.go:78
            refine WS.det rfl rfl rfl (det_move rfl) rfl ?_ -- r11.1 outright.go:78
            refine WS.det rfl rfl rfl (det_move rfl) rfl ?_ -- r11.2 outright.go:78
            refine WS.det rfl rfl rfl (det_callB rfl rfl ent21 (fun u hu => Fits_c _ _ _ _ _ _ _ u (hk.st hu) (roPl (j := 0) rfl hu))) rfl ?_ -- r11.3 outright.go:78
            refine WS.det rfl rfl rfl (det_move rfl) rfl ?_ -- r11.4 outright.go:78
            refine WS.det rfl rfl rfl (det_extract rfl rfl) rfl ?_ -- r11.5 outright.go:78
            refine WS.det rfl rfl rfl (det_extract rfl rfl) rfl ?_ -- r11.6 outright.go:78
            refine WS.det rfl rfl rfl (det_extract rfl rfl) rfl ?_ -- r11.7 outright.go:78
            refine WS.det rfl rfl rfl (det_assign rfl) rfl ?_ -- r11.8 outright.go:78
            refine WS.det rfl rfl rfl (det_assign rfl) rfl ?_ -- r11.9 outright.go:78
            refine WS.det rfl rfl rfl (det_assign rfl) rfl ?_ -- r11.10 outright.go:78
            refine WS.done ?_
            refine QS.then_code ?_
            refine CS.seq ?_
            refine CS.region ?_
            refine WS.det rfl rfl rfl ((by first | exact det_loadb0 (j := 2) rfl rfl tk23 | exact det_loadbN (j := 2) rfl rfl (by rfl) tk23 | exact det_loadwN rfl (by assumption) (by rfl) tk23 | exact det_loadbK (n := 2) (j := 2) rfl rfl rfl rfl tk23)) rfl ?_ -- r12.0 outright.go:79
            refine WS.det rfl rfl rfl (det_move rfl) rfl ?_ -- r12.1 outright.go:79
            refine WS.det rfl rfl rfl (det_move rfl) rfl ?_ -- r12.2 outright.go:79
            refine WS.det rfl rfl rfl (det_callB rfl rfl ent21 (fun u hu => Fits_c _ _ _ _ _ _ _ u (hk.st hu) (roPr (j := 0) rfl hu))) rfl ?_ -- r12.3 outright.go:79
            refine WS.det rfl rfl rfl (det_move rfl) rfl ?_ -- r12.4 outright.go:79
            refine WS.det rfl rfl rfl (det_extract rfl rfl) rfl ?_ -- r12.5 outright.go:79
            refine WS.det rfl rfl rfl (det_extract rfl rfl) rfl ?_ -- r12.6 outright.go:79
            refine WS.det rfl rfl rfl (det_extract rfl rfl) rfl ?_ -- r12.7 outright.go:79
            refine WS.det rfl rfl rfl (det_assign rfl) rfl ?_ -- r12.8 outright.go:79
            refine WS.det rfl rfl rfl (det_assign rfl) rfl ?_ -- r12.9 outright.go:79
            refine WS.det rfl rfl rfl (det_assign rfl) rfl ?_ -- r12.10 outright.go:79
            refine WS.done ?_
            refine QS.then_code ?_
            refine CS.seq ?_
            refine CS.region ?_
            refine WS.det rfl rfl rfl (det_move rfl) rfl ?_ -- r13.0 outright.go:80
            refine WS.det rfl rfl rfl (det_ne rfl rfl) rfl ?_ -- r13.1 outright.go:80
            refine WS.det rfl rfl rfl (det_move rfl) rfl ?_ -- r13.2 outright.go:80
            refine WS.guardF rfl rfl rfl rfl (fun hg => det_move rfl) rfl ?_ -- r13.3 outright.go:80
            refine WS.guardF rfl rfl rfl rfl (fun hg => det_ne (ev_cond hg rfl) rfl) rfl ?_ -- r13.4 outright.go:80
            refine WS.det rfl rfl rfl (det_pick_or rfl rfl rfl) rfl ?_ -- r13.5 outright.go:80
            refine WS.det rfl rfl rfl (det_move rfl) rfl ?_ -- r13.6 outright.go:80
            refine WS.guardF rfl rfl rfl rfl (fun hg => det_move rfl) rfl ?_ -- r13.7 outright.go:80
            refine WS.guardF rfl rfl rfl rfl (fun hg => det_not (ev_cond hg rfl)) rfl ?_ -- r13.8 outright.go:80
            refine WS.det rfl rfl rfl (det_pick_or rfl rfl rfl) rfl ?_ -- r13.9 outright.go:80
            refine WS.det rfl rfl rfl (det_move rfl) rfl ?_ -- r13.10 outright.go:80
            refine WS.guardF rfl rfl rfl rfl (fun hg => det_move rfl) rfl ?_ -- r13.11 outright.go:80
            refine WS.guardF rfl rfl rfl rfl (fun hg => det_not (ev_cond hg rfl)) rfl ?_ -- r13.12 outright.go:80
            refine WS.det rfl rfl rfl (det_pick_or rfl rfl rfl) rfl ?_ -- r13.13 outright.go:80
            refine WS.det rfl rfl rfl (det_move rfl) rfl ?_ -- r13.14 outright.go:80
            refine WS.guardF rfl rfl rfl rfl (fun hg => det_move rfl) rfl ?_ -- r13.15 outright.go:80
            refine WS.guardF rfl rfl rfl rfl (fun hg => det_move rfl) rfl ?_ -- r13.16 outright.go:80
            refine WS.guardF rfl rfl rfl rfl (fun hg => det_callB rfl (evs_cons (ev_cond hg rfl) (evs_cons (ev_cond hg rfl) evs_nil)) ent36 (fun u hu => before_c _ _ _ _ u (roPl (j := 0) rfl hu) (roPr (j := 0) rfl hu))) rfl ?_ -- r13.17 outright.go:80
            refine WS.guardF rfl rfl rfl rfl (fun hg => det_not (ev_cond hg rfl)) rfl ?_ -- r13.18 outright.go:80
            refine WS.det rfl rfl rfl (det_pick_or rfl rfl rfl) rfl ?_ -- r13.19 outright.go:80
            refine WS.done ?_
            refine QS.then_code ?_
            refine CS.cond rfl (fun hc5 => ?_) (fun hc5 => ?_) <;> (try simp only [decide_eq_true_eq, decide_eq_false_iff_not, Bool.and_eq_true, Bool.or_eq_true, Bool.and_eq_false_iff, Bool.or_eq_false_iff, Bool.not_eq_true', Bool.not_eq_false', ne_eq, Decidable.not_not, Bool.not_true, Bool.not_false, bne_iff_ne, bne_eq_false_iff_eq, beq_iff_eq, beq_eq_false_iff_ne] at hc5)
            · skip
              exfalso
              rw [hfa, hfb, if_pos rfl, if_pos rfl, hab, decide_eq_true hA.2, decide_eq_true hB.2] at hc5
              simp at hc5
            · skip
              refine CS.skip ?_
              refine QS.sel [1, 1] rfl ?_
              exact QS.head (()) rfl rfl trivial
          · skip
            refine CS.skip ?_
            refine QS.sel [1, 1] rfl ?_
            exact QS.head (()) rfl rfl trivial
        · intro s t hs
          refine CS.seq ?_
          refine CS.seq ?_
          refine CS.region ?_
          refine WS.det rfl rfl rfl (det_assign rfl) rfl ?_ -- r15.0 outright.go:84
          refine WS.done ?_
          refine QS.then_code ?_
          refine CS.block ?_
          refine CS.loopM (σ := Int) [6, 21, 22, 23, 24, 125, 126, 127, 128, 129, 130, 131, 132, 133, 134, 135, 136, 137, 138, 139, 140, 141, 142, 143, 144, 145, 146, 147, 148, 149, 150, 151, 152, 153, 154, 155, 156, 157, 158, 159, 160, 161, 162, 163, 164, 165, 166, 167, 168, 169, 170, 171, 172, 173, 174, 175, 176, 177, 178, 179, 180, 181, 182, 183, 184, 185, 186, 187, 188, 189, 190, 191] (fun s => [(20, .int .i64 s)]) (fun _ => _) (fun s => 0 ≤ s ∧ s ≤ lw) (fun s => (lw - s).toNat) 0 (fun _ _ => rfl) rfl rfl ⟨by omega, by omega⟩ ?_
          intro p t hs
          obtain ⟨hp1, hp2⟩ := hs
          refine CS.seq ?_
          refine CS.seq ?_
          refine CS.region ?_
          refine WS.det rfl rfl rfl (det_move rfl) rfl ?_ -- r16.0 outright.go:84
          refine WS.det rfl rfl rfl ((by first | exact det_fieldAddr rfl fo23_0 | exact det_fieldAddrS rfl fo23_0)) rfl ?_ -- r16.1 outright.go:84
          refine WS.det rfl rfl rfl ((by first | exact det_loadb (j := 1) rfl rfl rfl tk3 | exact det_loadw rfl (by assumption) rfl tk3)) rfl ?_ -- r16.2 outright.go:84
          refine WS.det rfl rfl rfl (det_lt rfl rfl) rfl ?_ -- r16.3 outright.go:84
          refine WS.done ?_
          refine QS.then_code ?_
          refine CS.cond rfl (fun hc6 => ?_) (fun hc6 => ?_) <;> (try simp only [decide_eq_true_eq, decide_eq_false_iff_not, Bool.and_eq_true, Bool.or_eq_true, Bool.and_eq_false_iff, Bool.or_eq_false_iff, Bool.not_eq_true', Bool.not_eq_false', ne_eq, Decidable.not_not, Bool.not_true, Bool.not_false, bne_iff_ne, bne_eq_false_iff_eq, beq_iff_eq, beq_eq_false_iff_ne] at hc6)
          · skip
            have hel := hvs.el p (by omega) (by omega)
            have hsa := show_at (w := lw) (s := ls) (L := readL lw ls cs) (i := p) hp1 hc6
            have hrs := row_some (w := lw) (s := ls) hRc (i := p.toNat) (by omega)
            have hrl : (nth (showL lw ls (readL lw ls cs)) p).length = (rowTo lw (readL lw ls cs) p.toNat ls.toNat).length := by rw [hsa]
            have hrb2 := rowTo_len lw (readL lw ls cs) p.toNat ls.toNat
            refine CS.skip ?_
            refine QS.then_code ?_
            refine CS.seq ?_
            refine CS.block ?_
            refine CS.seq ?_
            refine CS.seq ?_
            refine CS.region ?_
            refine WS.det rfl rfl rfl (det_move rfl) rfl ?_ -- r18.0 outright.go:85
            refine WS.det rfl rfl rfl (det_move rfl) rfl ?_ -- r18.1 outright.go:85
            refine WS.det rfl rfl rfl ((by first | exact det_idxL sl51 rfl rfl (by assumption) (by omega) (by omega) | exact det_idxO sl51 rfl rfl (by omega) (by omega))) rfl ?_ -- r18.2 outright.go:85
            refine WS.det rfl rfl rfl ((by first | exact det_ldL rfl (by assumption) (by omega) tk24 | exact det_ldLR (j := 0) rfl rfl (by assumption) (by omega) tk24 | exact det_loadb (j := 0) rfl rfl rfl tk24 | exact det_loadb (j := 1) rfl rfl rfl tk24 | exact det_loadb (j := 2) rfl rfl rfl tk24 | exact det_loadb (j := 3) rfl rfl rfl tk24 | exact det_loadw rfl (by assumption) rfl tk24)) rfl ?_ -- r18.3 outright.go:85
            refine WS.det rfl rfl rfl ((by first | exact det_lenS sl24 rfl (by assumption) | exact det_lenS sl24 rfl (by first | exact SlL.sp (by assumption) | exact ClS.sp (by assumption)) | exact det_lenO sl24 rfl | exact det_lenV sl24 rfl ⟨_, _, rfl⟩)) rfl ?_ -- r18.4 outright.go:85
            refine WS.det rfl rfl rfl (det_gt rfl rfl) rfl ?_ -- r18.5 outright.go:85
            refine WS.det rfl rfl rfl (det_move rfl) rfl ?_ -- r18.6 outright.go:85
            refine WS.det rfl rfl rfl (det_gt rfl rfl) rfl ?_ -- r18.7 outright.go:85
            refine WS.det rfl rfl rfl (det_neb rfl rfl Try.underlying4) rfl ?_ -- r18.8 outright.go:85
            refine WS.done ?_
            refine QS.then_code ?_
            refine CS.cond rfl (fun hc7 => ?_) (fun hc7 => ?_) <;> (try simp only [decide_eq_true_eq, decide_eq_false_iff_not, Bool.and_eq_true, Bool.or_eq_true, Bool.and_eq_false_iff, Bool.or_eq_false_iff, Bool.not_eq_true', Bool.not_eq_false', ne_eq, Decidable.not_not, Bool.not_true, Bool.not_false, bne_iff_ne, bne_eq_false_iff_eq, beq_iff_eq, beq_eq_false_iff_ne] at hc7)
            · skip
              exfalso
              rw [hz0, hsa] at hc7
              by_cases hp : 0 < (readL lw ls cs).length
              · rw [decide_eq_true (show (0 : Int) < (readL lw ls cs).length by omega), decide_eq_true (show (0 : Int) < (rowTo lw (readL lw ls cs) p.toNat ls.toNat).length by have := hrs.2 hp; omega)] at hc7; exact hc7 rfl
              · rw [decide_eq_false (show ¬ (0 : Int) < (readL lw ls cs).length by omega), decide_eq_false (show ¬ (0 : Int) < (rowTo lw (readL lw ls cs) p.toNat ls.toNat).length by have := fun h => hp (hrs.1 h); omega)] at hc7; exact hc7 rfl
            · skip
              refine CS.skip ?_
              refine QS.then_code ?_
              refine CS.seq ?_
              refine CS.region ?_
              refine WS.det rfl rfl rfl (det_assign rfl) rfl ?_ -- r20.0 outright.go:88
              refine WS.done ?_
              refine QS.then_code ?_
              refine CS.block ?_
              refine CS.loopM (σ := Int) [6, 22, 23, 24, 140, 141, 142, 143, 144, 145, 146, 147, 148, 149, 150, 151, 152, 153, 154, 155, 156, 157, 158, 159, 160, 161, 162, 163, 164, 165, 166, 167, 168, 169, 170, 171, 172, 173, 174, 175, 176, 177, 178, 179, 180, 181, 182, 183, 184, 185, 186, 187, 188, 189, 190, 191] (fun s => [(21, .int .i64 s)]) (fun _ => _) (fun s => 0 ≤ s ∧ s ≤ (nth (showL lw ls (readL lw ls cs)) p).length) (fun s => ((nth (showL lw ls (readL lw ls cs)) p).length - s).toNat) 0 (fun _ _ => rfl) rfl rfl ⟨by omega, by omega⟩ ?_
              intro q t hs
              obtain ⟨hq1, hq2⟩ := hs
              refine CS.seq ?_
              refine CS.seq ?_
              refine CS.region ?_
              refine WS.det rfl rfl rfl (det_move rfl) rfl ?_ -- r21.0 outright.go:88
              refine WS.det rfl rfl rfl (det_move rfl) rfl ?_ -- r21.1 outright.go:88
              refine WS.det rfl rfl rfl (det_move rfl) rfl ?_ -- r21.2 outright.go:88
              refine WS.det rfl rfl rfl ((by first | exact det_idxL sl51 rfl rfl (by assumption) (by omega) (by omega) | exact det_idxO sl51 rfl rfl (by omega) (by omega))) rfl ?_ -- r21.3 outright.go:88
              refine WS.det rfl rfl rfl ((by first | exact det_ldL rfl (by assumption) (by omega) tk24 | exact det_ldLR (j := 0) rfl rfl (by assumption) (by omega) tk24 | exact det_loadb (j := 0) rfl rfl rfl tk24 | exact det_loadb (j := 1) rfl rfl rfl tk24 | exact det_loadb (j := 2) rfl rfl rfl tk24 | exact det_loadb (j := 3) rfl rfl rfl tk24 | exact det_loadw rfl (by assumption) rfl tk24)) rfl ?_ -- r21.4 outright.go:88
              refine WS.det rfl rfl rfl ((by first | exact det_lenS sl24 rfl (by assumption) | exact det_lenS sl24 rfl (by first | exact SlL.sp (by assumption) | exact ClS.sp (by assumption)) | exact det_lenO sl24 rfl | exact det_lenV sl24 rfl ⟨_, _, rfl⟩)) rfl ?_ -- r21.5 outright.go:88
              refine WS.det rfl rfl rfl (det_lt rfl rfl) rfl ?_ -- r21.6 outright.go:88
              refine WS.done ?_
              refine QS.then_code ?_
              refine CS.cond rfl (fun hc8 => ?_) (fun hc8 => ?_) <;> (try simp only [decide_eq_true_eq, decide_eq_false_iff_not, Bool.and_eq_true, Bool.or_eq_true, Bool.and_eq_false_iff, Bool.or_eq_false_iff, Bool.not_eq_true', Bool.not_eq_false', ne_eq, Decidable.not_not, Bool.not_true, Bool.not_false, bne_iff_ne, bne_eq_false_iff_eq, beq_iff_eq, beq_eq_false_iff_ne] at hc8)
              · skip
                have hqm := row_mem (nth_mem (xs := (rowTo lw (readL lw ls cs) p.toNat ls.toNat)) hq1 (by omega))
                rw [← hsa] at hqm
                have hnc := notAt_clue hL (i := p) (n := nth (nth (showL lw ls (readL lw ls cs)) p) q) hp1 hc6 hqm.1 (by omega)
                have hcc : clueE lw ls (notAt p (nth (nth (showL lw ls (readL lw ls cs)) p) q)) = 0 := by simp [clueE, hL, hnc]
                have hie : impE lw ls cs (notAt p (nth (nth (showL lw ls (readL lw ls cs)) p) q)) = 0 := by simp [impE, hce, hcc]
                have hin : (impL lw ls cs (notAt p (nth (nth (showL lw ls (readL lw ls cs)) p) q))).isNone = false := notAt_imp (by
                  obtain ⟨y, hy, hn⟩ := hqm.2.2.2
                  rw [show ((p.toNat : Nat) : Int) = p by omega] at hn
                  exact ⟨y, hy, hn⟩)
                refine CS.skip ?_
                refine QS.then_code ?_
                refine CS.seq ?_
                refine CS.block ?_
                refine CS.seq ?_
                refine CS.drawnAll (k := 19) mixed rfl rfl ?_
                refine AS.take 0 rfl (by kernel_rfl) (by kernel_rfl) (by kernel_rfl) rfl rfl ((by first | exact det_loadb0 (j := 1) rfl rfl tk23 | exact det_loadbN (j := 1) rfl rfl (by rfl) tk23 | exact det_loadwN rfl (by assumption) (by rfl) tk23 | exact det_loadbK (n := 2) (j := 1) rfl rfl rfl rfl tk23)) rfl rfl ?_ -- r23.0 outright.go:89
                refine AS.take 1 rfl (by kernel_rfl) (by kernel_rfl) (by kernel_rfl) rfl rfl (det_move rfl) rfl rfl ?_ -- r23.1 outright.go:89
                refine AS.take 2 rfl (by kernel_rfl) (by kernel_rfl) (by kernel_rfl) rfl rfl (det_move rfl) rfl rfl ?_ -- r23.2 outright.go:89
                refine AS.take 3 rfl (by kernel_rfl) (by kernel_rfl) (by kernel_rfl) rfl rfl (det_move rfl) rfl rfl ?_ -- r23.3 outright.go:89
                refine AS.take 4 rfl (by kernel_rfl) (by kernel_rfl) (by kernel_rfl) rfl rfl (det_move rfl) rfl rfl ?_ -- r23.4 outright.go:89
                refine AS.take 5 rfl (by kernel_rfl) (by kernel_rfl) (by kernel_rfl) rfl rfl ((by first | exact det_idxL sl51 rfl rfl (by assumption) (by omega) (by omega) | exact det_idxO sl51 rfl rfl (by omega) (by omega))) rfl rfl ?_ -- r23.5 outright.go:89
                refine AS.take 6 rfl (by kernel_rfl) (by kernel_rfl) (by kernel_rfl) rfl rfl ((by first | exact det_ldL rfl (by assumption) (by omega) tk24 | exact det_ldLR (j := 0) rfl rfl (by assumption) (by omega) tk24 | exact det_loadb (j := 0) rfl rfl rfl tk24 | exact det_loadb (j := 1) rfl rfl rfl tk24 | exact det_loadb (j := 2) rfl rfl rfl tk24 | exact det_loadb (j := 3) rfl rfl rfl tk24 | exact det_loadw rfl (by assumption) rfl tk24)) rfl rfl ?_ -- r23.6 outright.go:89
                refine AS.take 7 rfl (by kernel_rfl) (by kernel_rfl) (by kernel_rfl) rfl rfl (det_move rfl) rfl rfl ?_ -- r23.7 outright.go:89
                refine AS.take 8 rfl (by kernel_rfl) (by kernel_rfl) (by kernel_rfl) rfl rfl ((by first | exact det_idxI sl24 rfl rfl (by assumption) (by omega) (by omega) | exact det_idxO sl24 rfl rfl (by omega) (by omega))) rfl rfl ?_ -- r23.8 outright.go:89
                refine AS.take 9 rfl (by kernel_rfl) (by kernel_rfl) (by kernel_rfl) rfl rfl ((by first | exact det_ldI rfl (by assumption) (by omega) tk3 | exact det_loadb (j := 0) rfl rfl rfl tk3 | exact det_loadb (j := 1) rfl rfl rfl tk3 | exact det_loadb (j := 2) rfl rfl rfl tk3 | exact det_loadb (j := 3) rfl rfl rfl tk3 | exact det_loadw rfl (by assumption) rfl tk3 | exact det_ldLI (j := 0) rfl rfl (by omega) (by omega) tk3 | exact det_ldIR (j := 0) rfl rfl (by omega) tk3)) rfl rfl ?_ -- r23.9 outright.go:89
                refine AS.take 10 rfl (by kernel_rfl) (by kernel_rfl) (by kernel_rfl) rfl rfl ((det_build1 plc36 zv36 rfl rfl (by simp [Value.oneCell']))) rfl rfl ?_ -- r23.10 outright.go:89
                refine AS.one (i := 11) (by kernel_rfl) rfl (by first | exact fun _ h => h | exact fun _ h => h.sub (by repeat first | exact List.Sublist.refl _ | apply List.Sublist.cons_cons | apply List.Sublist.cons)) rfl ?_
                refine WS.callF rfl rfl ent31 (fun u hu => (by have h := Implies_c lw ls cs gs cv (notAt p (nth (nth (showL lw ls (readL lw ls cs)) p) q)) (.slice none 0 0) u (hk.st hu) (SlI.none u); exact h)) (fun _ => rfl) ?_; rintro vm ⟨um, hvm⟩ -- r23.11 outright.go:89
                refine WS.done ?_
                refine QS.then_AS ?_
                refine AS.take 12 rfl (by kernel_rfl) (by kernel_rfl) (by kernel_rfl) rfl rfl (det_move rfl) rfl rfl ?_ -- r23.12 outright.go:89
                refine AS.take 13 rfl (by kernel_rfl) (by kernel_rfl) (by kernel_rfl) rfl rfl (det_extract rfl rfl) rfl rfl ?_ -- r23.13 outright.go:89
                refine AS.take 14 rfl (by kernel_rfl) (by kernel_rfl) (by kernel_rfl) rfl rfl (det_extract rfl rfl) rfl rfl ?_ -- r23.14 outright.go:89
                refine AS.take 15 rfl (by kernel_rfl) (by kernel_rfl) (by kernel_rfl) rfl rfl (det_extract rfl rfl) rfl rfl ?_ -- r23.15 outright.go:89
                refine AS.take 16 rfl (by kernel_rfl) (by kernel_rfl) (by kernel_rfl) rfl rfl (det_assign rfl) rfl rfl ?_ -- r23.16 outright.go:89
                refine AS.take 17 rfl (by kernel_rfl) (by kernel_rfl) (by kernel_rfl) rfl rfl (det_assign rfl) rfl rfl ?_ -- r23.17 outright.go:89
                refine AS.take 18 rfl (by kernel_rfl) (by kernel_rfl) (by kernel_rfl) rfl rfl (det_assign rfl) rfl rfl ?_ -- r23.18 outright.go:89
                refine AS.done (by kernel_rfl) (by first | exact fun _ h => h | exact fun _ h => h.sub (by repeat first | exact List.Sublist.refl _ | apply List.Sublist.cons_cons | apply List.Sublist.cons)) ?_
                refine QS.then_code ?_
                refine CS.seq ?_
                refine CS.draw mixed (by kernel_rfl) (by kernel_rfl) ?_
                refine DS.det rfl rfl (det_move rfl) rfl ?_ -- r24.0 outright.go:90
                refine DS.det rfl rfl (det_ne rfl rfl) rfl ?_ -- r24.1 outright.go:90
                refine DS.det rfl rfl (det_move rfl) rfl ?_ -- r24.2 outright.go:90
                refine DS.guardF rfl rfl rfl (fun hg => det_move rfl) rfl ?_ -- r24.3 outright.go:90
                refine DS.det rfl rfl (det_pick_or rfl rfl rfl) rfl ?_ -- r24.4 outright.go:90
                refine DS.det rfl rfl (det_move rfl) rfl ?_ -- r24.5 outright.go:90
                refine DS.guardF rfl rfl rfl (fun hg => det_move rfl) rfl ?_ -- r24.6 outright.go:90
                refine DS.guardF rfl rfl rfl (fun hg => det_gt (ev_cond hg rfl) rfl) rfl ?_ -- r24.7 outright.go:90
                refine DS.guardF rfl rfl rfl (fun hg => det_move (ev_cond hg rfl)) rfl ?_ -- r24.8 outright.go:90
                refine DS.guardN rfl rfl rfl rfl (fun hg => det_move rfl) rfl ?_ -- r24.9 outright.go:90
                refine DS.guardN rfl rfl rfl rfl (fun hg => det_move rfl) rfl ?_ -- r24.10 outright.go:90
                refine DS.guardN rfl rfl rfl rfl (fun hg => (by first | exact det_idxL sl51 (ev_cond hg rfl) (ev_cond hg rfl) (by assumption) (by (try simp only [decide_eq_true_eq, decide_eq_false_iff_not, Bool.and_eq_true, Bool.or_eq_true, Bool.and_eq_false_iff, Bool.or_eq_false_iff, Bool.not_eq_true', Bool.not_eq_false', ne_eq, Decidable.not_not, Bool.not_true, Bool.not_false, bne_iff_ne, bne_eq_false_iff_eq, beq_iff_eq, beq_eq_false_iff_ne] at hg); omega) (by (try simp only [decide_eq_true_eq, decide_eq_false_iff_not, Bool.and_eq_true, Bool.or_eq_true, Bool.and_eq_false_iff, Bool.or_eq_false_iff, Bool.not_eq_true', Bool.not_eq_false', ne_eq, Decidable.not_not, Bool.not_true, Bool.not_false, bne_iff_ne, bne_eq_false_iff_eq, beq_iff_eq, beq_eq_false_iff_ne] at hg); omega) | exact det_idxO sl51 (ev_cond hg rfl) (ev_cond hg rfl) (by (try simp only [decide_eq_true_eq, decide_eq_false_iff_not, Bool.and_eq_true, Bool.or_eq_true, Bool.and_eq_false_iff, Bool.or_eq_false_iff, Bool.not_eq_true', Bool.not_eq_false', ne_eq, Decidable.not_not, Bool.not_true, Bool.not_false, bne_iff_ne, bne_eq_false_iff_eq, beq_iff_eq, beq_eq_false_iff_ne] at hg); omega) (by (try simp only [decide_eq_true_eq, decide_eq_false_iff_not, Bool.and_eq_true, Bool.or_eq_true, Bool.and_eq_false_iff, Bool.or_eq_false_iff, Bool.not_eq_true', Bool.not_eq_false', ne_eq, Decidable.not_not, Bool.not_true, Bool.not_false, bne_iff_ne, bne_eq_false_iff_eq, beq_iff_eq, beq_eq_false_iff_ne] at hg); omega))) rfl ?_ -- r24.11 outright.go:90
                refine DS.guardN rfl rfl rfl rfl (fun hg => (by first | exact det_ldL (ev_cond hg rfl) (by assumption) (by (try simp only [decide_eq_true_eq, decide_eq_false_iff_not, Bool.and_eq_true, Bool.or_eq_true, Bool.and_eq_false_iff, Bool.or_eq_false_iff, Bool.not_eq_true', Bool.not_eq_false', ne_eq, Decidable.not_not, Bool.not_true, Bool.not_false, bne_iff_ne, bne_eq_false_iff_eq, beq_iff_eq, beq_eq_false_iff_ne] at hg); omega) tk24 | exact det_ldLR (j := 0) (ev_cond hg rfl) rfl (by assumption) (by (try simp only [decide_eq_true_eq, decide_eq_false_iff_not, Bool.and_eq_true, Bool.or_eq_true, Bool.and_eq_false_iff, Bool.or_eq_false_iff, Bool.not_eq_true', Bool.not_eq_false', ne_eq, Decidable.not_not, Bool.not_true, Bool.not_false, bne_iff_ne, bne_eq_false_iff_eq, beq_iff_eq, beq_eq_false_iff_ne] at hg); omega) tk24 | exact det_ldLR (j := 1) (ev_cond hg rfl) rfl (by assumption) (by (try simp only [decide_eq_true_eq, decide_eq_false_iff_not, Bool.and_eq_true, Bool.or_eq_true, Bool.and_eq_false_iff, Bool.or_eq_false_iff, Bool.not_eq_true', Bool.not_eq_false', ne_eq, Decidable.not_not, Bool.not_true, Bool.not_false, bne_iff_ne, bne_eq_false_iff_eq, beq_iff_eq, beq_eq_false_iff_ne] at hg); omega) tk24 | exact det_loadb (j := 0) (ev_cond hg rfl) rfl rfl tk24 | exact det_loadb (j := 1) (ev_cond hg rfl) rfl rfl tk24 | exact det_loadb (j := 2) (ev_cond hg rfl) rfl rfl tk24 | exact det_loadb (j := 3) (ev_cond hg rfl) rfl rfl tk24 | exact det_loadw (ev_cond hg rfl) (by assumption) rfl tk24)) rfl ?_ -- r24.12 outright.go:90
                refine DS.guardN rfl rfl rfl rfl (fun hg => det_move rfl) rfl ?_ -- r24.13 outright.go:90
                refine DS.guardN rfl rfl rfl rfl (fun hg => (by first | exact det_idxI sl24 (ev_cond hg rfl) (ev_cond hg rfl) (by assumption) (by (try simp only [decide_eq_true_eq, decide_eq_false_iff_not, Bool.and_eq_true, Bool.or_eq_true, Bool.and_eq_false_iff, Bool.or_eq_false_iff, Bool.not_eq_true', Bool.not_eq_false', ne_eq, Decidable.not_not, Bool.not_true, Bool.not_false, bne_iff_ne, bne_eq_false_iff_eq, beq_iff_eq, beq_eq_false_iff_ne] at hg); omega) (by (try simp only [decide_eq_true_eq, decide_eq_false_iff_not, Bool.and_eq_true, Bool.or_eq_true, Bool.and_eq_false_iff, Bool.or_eq_false_iff, Bool.not_eq_true', Bool.not_eq_false', ne_eq, Decidable.not_not, Bool.not_true, Bool.not_false, bne_iff_ne, bne_eq_false_iff_eq, beq_iff_eq, beq_eq_false_iff_ne] at hg); omega) | exact det_idxO sl24 (ev_cond hg rfl) (ev_cond hg rfl) (by (try simp only [decide_eq_true_eq, decide_eq_false_iff_not, Bool.and_eq_true, Bool.or_eq_true, Bool.and_eq_false_iff, Bool.or_eq_false_iff, Bool.not_eq_true', Bool.not_eq_false', ne_eq, Decidable.not_not, Bool.not_true, Bool.not_false, bne_iff_ne, bne_eq_false_iff_eq, beq_iff_eq, beq_eq_false_iff_ne] at hg); omega) (by (try simp only [decide_eq_true_eq, decide_eq_false_iff_not, Bool.and_eq_true, Bool.or_eq_true, Bool.and_eq_false_iff, Bool.or_eq_false_iff, Bool.not_eq_true', Bool.not_eq_false', ne_eq, Decidable.not_not, Bool.not_true, Bool.not_false, bne_iff_ne, bne_eq_false_iff_eq, beq_iff_eq, beq_eq_false_iff_ne] at hg); omega))) rfl ?_ -- r24.14 outright.go:90
                refine DS.guardN rfl rfl rfl rfl (fun hg => (by first | exact det_ldI (ev_cond hg rfl) (by assumption) (by (try simp only [decide_eq_true_eq, decide_eq_false_iff_not, Bool.and_eq_true, Bool.or_eq_true, Bool.and_eq_false_iff, Bool.or_eq_false_iff, Bool.not_eq_true', Bool.not_eq_false', ne_eq, Decidable.not_not, Bool.not_true, Bool.not_false, bne_iff_ne, bne_eq_false_iff_eq, beq_iff_eq, beq_eq_false_iff_ne] at hg); omega) tk3 | exact det_loadb (j := 0) (ev_cond hg rfl) rfl rfl tk3 | exact det_loadb (j := 1) (ev_cond hg rfl) rfl rfl tk3 | exact det_loadb (j := 2) (ev_cond hg rfl) rfl rfl tk3 | exact det_loadb (j := 3) (ev_cond hg rfl) rfl rfl tk3 | exact det_loadw (ev_cond hg rfl) (by assumption) rfl tk3 | exact det_ldLI (j := 0) (ev_cond hg rfl) rfl (by (try simp only [decide_eq_true_eq, decide_eq_false_iff_not, Bool.and_eq_true, Bool.or_eq_true, Bool.and_eq_false_iff, Bool.or_eq_false_iff, Bool.not_eq_true', Bool.not_eq_false', ne_eq, Decidable.not_not, Bool.not_true, Bool.not_false, bne_iff_ne, bne_eq_false_iff_eq, beq_iff_eq, beq_eq_false_iff_ne] at hg); omega) (by (try simp only [decide_eq_true_eq, decide_eq_false_iff_not, Bool.and_eq_true, Bool.or_eq_true, Bool.and_eq_false_iff, Bool.or_eq_false_iff, Bool.not_eq_true', Bool.not_eq_false', ne_eq, Decidable.not_not, Bool.not_true, Bool.not_false, bne_iff_ne, bne_eq_false_iff_eq, beq_iff_eq, beq_eq_false_iff_ne] at hg); omega) tk3 | exact det_ldLI (j := 1) (ev_cond hg rfl) rfl (by (try simp only [decide_eq_true_eq, decide_eq_false_iff_not, Bool.and_eq_true, Bool.or_eq_true, Bool.and_eq_false_iff, Bool.or_eq_false_iff, Bool.not_eq_true', Bool.not_eq_false', ne_eq, Decidable.not_not, Bool.not_true, Bool.not_false, bne_iff_ne, bne_eq_false_iff_eq, beq_iff_eq, beq_eq_false_iff_ne] at hg); omega) (by (try simp only [decide_eq_true_eq, decide_eq_false_iff_not, Bool.and_eq_true, Bool.or_eq_true, Bool.and_eq_false_iff, Bool.or_eq_false_iff, Bool.not_eq_true', Bool.not_eq_false', ne_eq, Decidable.not_not, Bool.not_true, Bool.not_false, bne_iff_ne, bne_eq_false_iff_eq, beq_iff_eq, beq_eq_false_iff_ne] at hg); omega) tk3 | exact det_ldIR (j := 0) (ev_cond hg rfl) rfl (by (try simp only [decide_eq_true_eq, decide_eq_false_iff_not, Bool.and_eq_true, Bool.or_eq_true, Bool.and_eq_false_iff, Bool.or_eq_false_iff, Bool.not_eq_true', Bool.not_eq_false', ne_eq, Decidable.not_not, Bool.not_true, Bool.not_false, bne_iff_ne, bne_eq_false_iff_eq, beq_iff_eq, beq_eq_false_iff_ne] at hg); omega) tk3 | exact det_ldIR (j := 1) (ev_cond hg rfl) rfl (by (try simp only [decide_eq_true_eq, decide_eq_false_iff_not, Bool.and_eq_true, Bool.or_eq_true, Bool.and_eq_false_iff, Bool.or_eq_false_iff, Bool.not_eq_true', Bool.not_eq_false', ne_eq, Decidable.not_not, Bool.not_true, Bool.not_false, bne_iff_ne, bne_eq_false_iff_eq, beq_iff_eq, beq_eq_false_iff_ne] at hg); omega) tk3)) rfl ?_ -- r24.15 outright.go:90
                refine DS.guardN rfl rfl rfl rfl (fun hg => det_move rfl) rfl ?_ -- r24.16 outright.go:90
                refine DS.guardN rfl rfl rfl rfl (fun hg => det_move rfl) rfl ?_ -- r24.17 outright.go:90
                refine DS.guardN rfl rfl rfl rfl (fun hg => (by first | exact det_idxL sl51 (ev_cond hg rfl) (ev_cond hg rfl) (by assumption) (by (try simp only [decide_eq_true_eq, decide_eq_false_iff_not, Bool.and_eq_true, Bool.or_eq_true, Bool.and_eq_false_iff, Bool.or_eq_false_iff, Bool.not_eq_true', Bool.not_eq_false', ne_eq, Decidable.not_not, Bool.not_true, Bool.not_false, bne_iff_ne, bne_eq_false_iff_eq, beq_iff_eq, beq_eq_false_iff_ne] at hg); omega) (by (try simp only [decide_eq_true_eq, decide_eq_false_iff_not, Bool.and_eq_true, Bool.or_eq_true, Bool.and_eq_false_iff, Bool.or_eq_false_iff, Bool.not_eq_true', Bool.not_eq_false', ne_eq, Decidable.not_not, Bool.not_true, Bool.not_false, bne_iff_ne, bne_eq_false_iff_eq, beq_iff_eq, beq_eq_false_iff_ne] at hg); omega) | exact det_idxO sl51 (ev_cond hg rfl) (ev_cond hg rfl) (by (try simp only [decide_eq_true_eq, decide_eq_false_iff_not, Bool.and_eq_true, Bool.or_eq_true, Bool.and_eq_false_iff, Bool.or_eq_false_iff, Bool.not_eq_true', Bool.not_eq_false', ne_eq, Decidable.not_not, Bool.not_true, Bool.not_false, bne_iff_ne, bne_eq_false_iff_eq, beq_iff_eq, beq_eq_false_iff_ne] at hg); omega) (by (try simp only [decide_eq_true_eq, decide_eq_false_iff_not, Bool.and_eq_true, Bool.or_eq_true, Bool.and_eq_false_iff, Bool.or_eq_false_iff, Bool.not_eq_true', Bool.not_eq_false', ne_eq, Decidable.not_not, Bool.not_true, Bool.not_false, bne_iff_ne, bne_eq_false_iff_eq, beq_iff_eq, beq_eq_false_iff_ne] at hg); omega))) rfl ?_ -- r24.18 outright.go:90
                refine DS.guardN rfl rfl rfl rfl (fun hg => (by first | exact det_ldL (ev_cond hg rfl) (by assumption) (by (try simp only [decide_eq_true_eq, decide_eq_false_iff_not, Bool.and_eq_true, Bool.or_eq_true, Bool.and_eq_false_iff, Bool.or_eq_false_iff, Bool.not_eq_true', Bool.not_eq_false', ne_eq, Decidable.not_not, Bool.not_true, Bool.not_false, bne_iff_ne, bne_eq_false_iff_eq, beq_iff_eq, beq_eq_false_iff_ne] at hg); omega) tk24 | exact det_ldLR (j := 0) (ev_cond hg rfl) rfl (by assumption) (by (try simp only [decide_eq_true_eq, decide_eq_false_iff_not, Bool.and_eq_true, Bool.or_eq_true, Bool.and_eq_false_iff, Bool.or_eq_false_iff, Bool.not_eq_true', Bool.not_eq_false', ne_eq, Decidable.not_not, Bool.not_true, Bool.not_false, bne_iff_ne, bne_eq_false_iff_eq, beq_iff_eq, beq_eq_false_iff_ne] at hg); omega) tk24 | exact det_ldLR (j := 1) (ev_cond hg rfl) rfl (by assumption) (by (try simp only [decide_eq_true_eq, decide_eq_false_iff_not, Bool.and_eq_true, Bool.or_eq_true, Bool.and_eq_false_iff, Bool.or_eq_false_iff, Bool.not_eq_true', Bool.not_eq_false', ne_eq, Decidable.not_not, Bool.not_true, Bool.not_false, bne_iff_ne, bne_eq_false_iff_eq, beq_iff_eq, beq_eq_false_iff_ne] at hg); omega) tk24 | exact det_loadb (j := 0) (ev_cond hg rfl) rfl rfl tk24 | exact det_loadb (j := 1) (ev_cond hg rfl) rfl rfl tk24 | exact det_loadb (j := 2) (ev_cond hg rfl) rfl rfl tk24 | exact det_loadb (j := 3) (ev_cond hg rfl) rfl rfl tk24 | exact det_loadw (ev_cond hg rfl) (by assumption) rfl tk24)) rfl ?_ -- r24.19 outright.go:90
                refine DS.guardN rfl rfl rfl rfl (fun hg => det_move rfl) rfl ?_ -- r24.20 outright.go:90
                refine DS.guardN rfl rfl rfl rfl (fun hg => det_sub (ev_cond hg rfl) rfl (by (try simp only [decide_eq_true_eq, decide_eq_false_iff_not, Bool.and_eq_true, Bool.or_eq_true, Bool.and_eq_false_iff, Bool.or_eq_false_iff, Bool.not_eq_true', Bool.not_eq_false', ne_eq, Decidable.not_not, Bool.not_true, Bool.not_false, bne_iff_ne, bne_eq_false_iff_eq, beq_iff_eq, beq_eq_false_iff_ne] at hg); omega)) rfl ?_ -- r24.21 outright.go:90
                refine DS.guardN rfl rfl rfl rfl (fun hg => (by first | exact det_idxI sl24 (ev_cond hg rfl) (ev_cond hg rfl) (by assumption) (by (try simp only [decide_eq_true_eq, decide_eq_false_iff_not, Bool.and_eq_true, Bool.or_eq_true, Bool.and_eq_false_iff, Bool.or_eq_false_iff, Bool.not_eq_true', Bool.not_eq_false', ne_eq, Decidable.not_not, Bool.not_true, Bool.not_false, bne_iff_ne, bne_eq_false_iff_eq, beq_iff_eq, beq_eq_false_iff_ne] at hg); omega) (by (try simp only [decide_eq_true_eq, decide_eq_false_iff_not, Bool.and_eq_true, Bool.or_eq_true, Bool.and_eq_false_iff, Bool.or_eq_false_iff, Bool.not_eq_true', Bool.not_eq_false', ne_eq, Decidable.not_not, Bool.not_true, Bool.not_false, bne_iff_ne, bne_eq_false_iff_eq, beq_iff_eq, beq_eq_false_iff_ne] at hg); omega) | exact det_idxO sl24 (ev_cond hg rfl) (ev_cond hg rfl) (by (try simp only [decide_eq_true_eq, decide_eq_false_iff_not, Bool.and_eq_true, Bool.or_eq_true, Bool.and_eq_false_iff, Bool.or_eq_false_iff, Bool.not_eq_true', Bool.not_eq_false', ne_eq, Decidable.not_not, Bool.not_true, Bool.not_false, bne_iff_ne, bne_eq_false_iff_eq, beq_iff_eq, beq_eq_false_iff_ne] at hg); omega) (by (try simp only [decide_eq_true_eq, decide_eq_false_iff_not, Bool.and_eq_true, Bool.or_eq_true, Bool.and_eq_false_iff, Bool.or_eq_false_iff, Bool.not_eq_true', Bool.not_eq_false', ne_eq, Decidable.not_not, Bool.not_true, Bool.not_false, bne_iff_ne, bne_eq_false_iff_eq, beq_iff_eq, beq_eq_false_iff_ne] at hg); omega))) rfl ?_ -- r24.22 outright.go:90
                refine DS.guardN rfl rfl rfl rfl (fun hg => (by first | exact det_ldI (ev_cond hg rfl) (by assumption) (by (try simp only [decide_eq_true_eq, decide_eq_false_iff_not, Bool.and_eq_true, Bool.or_eq_true, Bool.and_eq_false_iff, Bool.or_eq_false_iff, Bool.not_eq_true', Bool.not_eq_false', ne_eq, Decidable.not_not, Bool.not_true, Bool.not_false, bne_iff_ne, bne_eq_false_iff_eq, beq_iff_eq, beq_eq_false_iff_ne] at hg); omega) tk3 | exact det_loadb (j := 0) (ev_cond hg rfl) rfl rfl tk3 | exact det_loadb (j := 1) (ev_cond hg rfl) rfl rfl tk3 | exact det_loadb (j := 2) (ev_cond hg rfl) rfl rfl tk3 | exact det_loadb (j := 3) (ev_cond hg rfl) rfl rfl tk3 | exact det_loadw (ev_cond hg rfl) (by assumption) rfl tk3 | exact det_ldLI (j := 0) (ev_cond hg rfl) rfl (by (try simp only [decide_eq_true_eq, decide_eq_false_iff_not, Bool.and_eq_true, Bool.or_eq_true, Bool.and_eq_false_iff, Bool.or_eq_false_iff, Bool.not_eq_true', Bool.not_eq_false', ne_eq, Decidable.not_not, Bool.not_true, Bool.not_false, bne_iff_ne, bne_eq_false_iff_eq, beq_iff_eq, beq_eq_false_iff_ne] at hg); omega) (by (try simp only [decide_eq_true_eq, decide_eq_false_iff_not, Bool.and_eq_true, Bool.or_eq_true, Bool.and_eq_false_iff, Bool.or_eq_false_iff, Bool.not_eq_true', Bool.not_eq_false', ne_eq, Decidable.not_not, Bool.not_true, Bool.not_false, bne_iff_ne, bne_eq_false_iff_eq, beq_iff_eq, beq_eq_false_iff_ne] at hg); omega) tk3 | exact det_ldLI (j := 1) (ev_cond hg rfl) rfl (by (try simp only [decide_eq_true_eq, decide_eq_false_iff_not, Bool.and_eq_true, Bool.or_eq_true, Bool.and_eq_false_iff, Bool.or_eq_false_iff, Bool.not_eq_true', Bool.not_eq_false', ne_eq, Decidable.not_not, Bool.not_true, Bool.not_false, bne_iff_ne, bne_eq_false_iff_eq, beq_iff_eq, beq_eq_false_iff_ne] at hg); omega) (by (try simp only [decide_eq_true_eq, decide_eq_false_iff_not, Bool.and_eq_true, Bool.or_eq_true, Bool.and_eq_false_iff, Bool.or_eq_false_iff, Bool.not_eq_true', Bool.not_eq_false', ne_eq, Decidable.not_not, Bool.not_true, Bool.not_false, bne_iff_ne, bne_eq_false_iff_eq, beq_iff_eq, beq_eq_false_iff_ne] at hg); omega) tk3 | exact det_ldIR (j := 0) (ev_cond hg rfl) rfl (by (try simp only [decide_eq_true_eq, decide_eq_false_iff_not, Bool.and_eq_true, Bool.or_eq_true, Bool.and_eq_false_iff, Bool.or_eq_false_iff, Bool.not_eq_true', Bool.not_eq_false', ne_eq, Decidable.not_not, Bool.not_true, Bool.not_false, bne_iff_ne, bne_eq_false_iff_eq, beq_iff_eq, beq_eq_false_iff_ne] at hg); omega) tk3 | exact det_ldIR (j := 1) (ev_cond hg rfl) rfl (by (try simp only [decide_eq_true_eq, decide_eq_false_iff_not, Bool.and_eq_true, Bool.or_eq_true, Bool.and_eq_false_iff, Bool.or_eq_false_iff, Bool.not_eq_true', Bool.not_eq_false', ne_eq, Decidable.not_not, Bool.not_true, Bool.not_false, bne_iff_ne, bne_eq_false_iff_eq, beq_iff_eq, beq_eq_false_iff_ne] at hg); omega) tk3)) rfl ?_ -- r24.23 outright.go:90
                refine DS.guardN rfl rfl rfl rfl (fun hg => det_le (ev_cond hg rfl) (ev_cond hg rfl)) rfl ?_ -- r24.24 outright.go:90
                refine DS.guardF rfl rfl rfl (fun hg => det_pick_and (ev_cond hg rfl) (ev_nestT hg rfl) rfl) rfl ?_ -- r24.25 outright.go:90
                refine DS.det rfl rfl (det_pick_or rfl rfl rfl) rfl ?_ -- r24.26 outright.go:90
                refine DS.done ?_
                refine QS.then_code ?_
                refine CS.cond rfl (fun hc9 => ?_) (fun hc9 => ?_) <;> (try simp only [decide_eq_true_eq, decide_eq_false_iff_not, Bool.and_eq_true, Bool.or_eq_true, Bool.and_eq_false_iff, Bool.or_eq_false_iff, Bool.not_eq_true', Bool.not_eq_false', ne_eq, Decidable.not_not, Bool.not_true, Bool.not_false, bne_iff_ne, bne_eq_false_iff_eq, beq_iff_eq, beq_eq_false_iff_ne] at hc9)
                · skip
                  exfalso
                  rw [hie, if_pos rfl, hin] at hc9
                  rcases hc9 with (h | h) | h
                  · exact h rfl
                  · cases h
                  · have := row_inc (k := q) (w := lw) (L := readL lw ls cs) (i := p.toNat) (m := ls.toNat) h.1 (by omega)
                    rw [← hsa] at this
                    omega
                · skip
                  refine CS.skip ?_
                  refine QS.block_normal ?_
                  refine QS.then_code ?_
                  refine CS.region ?_
                  refine WS.det rfl rfl rfl (det_move rfl) rfl ?_ -- r22.0 outright.go:88
                  refine WS.det rfl rfl rfl (det_add rfl rfl (by omega)) rfl ?_ -- r22.1 outright.go:88
                  refine WS.det rfl rfl rfl (det_assign rfl) rfl ?_ -- r22.2 outright.go:88
                  refine WS.done ?_
                  refine QS.sel [1, 1] rfl ?_
                  exact QS.head (q + 1) rfl rfl ⟨⟨by omega, by omega⟩, by omega⟩
              · skip
                refine CS.leave ?_
                refine QS.then_exit ?_
                refine QS.then_exit ?_
                refine QS.block_exit ?_
                refine QS.block_normal ?_
                refine QS.then_code ?_
                refine CS.region ?_
                refine WS.det rfl rfl rfl (det_move rfl) rfl ?_ -- r17.0 outright.go:84
                refine WS.det rfl rfl rfl (det_add rfl rfl (by omega)) rfl ?_ -- r17.1 outright.go:84
                refine WS.det rfl rfl rfl (det_assign rfl) rfl ?_ -- r17.2 outright.go:84
                refine WS.done ?_
                exact QS.head (p + 1) rfl rfl ⟨⟨by omega, by omega⟩, by omega⟩
          · skip
            refine CS.leave ?_
            refine QS.then_exit ?_
            refine QS.then_exit ?_
            refine QS.block_exit ?_
            refine QS.then_code ?_
            refine CS.seq ?_
            refine CS.region ?_
            refine WS.det rfl rfl rfl ((by first | exact det_loadb0 (j := 1) rfl rfl tk23 | exact det_loadbN (j := 1) rfl rfl (by rfl) tk23 | exact det_loadwN rfl (by assumption) (by rfl) tk23 | exact det_loadbK (n := 2) (j := 1) rfl rfl rfl rfl tk23)) rfl ?_ -- r26.0 outright.go:95
            refine WS.det rfl rfl rfl (det_move rfl) rfl ?_ -- r26.1 outright.go:95
            refine WS.det rfl rfl rfl (det_move rfl) rfl ?_ -- r26.2 outright.go:95
            refine WS.det rfl rfl rfl (det_callB rfl rfl ent21 (fun u hu => Fits_c _ _ _ _ _ _ _ u (hk.st hu) (h2.st hu))) rfl ?_ -- r26.3 outright.go:95
            refine WS.det rfl rfl rfl (det_move rfl) rfl ?_ -- r26.4 outright.go:95
            refine WS.det rfl rfl rfl (det_extract rfl rfl) rfl ?_ -- r26.5 outright.go:95
            refine WS.det rfl rfl rfl (det_extract rfl rfl) rfl ?_ -- r26.6 outright.go:95
            refine WS.det rfl rfl rfl (det_extract rfl rfl) rfl ?_ -- r26.7 outright.go:95
            refine WS.det rfl rfl rfl (det_assign rfl) rfl ?_ -- r26.8 outright.go:95
            refine WS.det rfl rfl rfl (det_assign rfl) rfl ?_ -- r26.9 outright.go:95
            refine WS.det rfl rfl rfl (det_assign rfl) rfl ?_ -- r26.10 outright.go:95
            refine WS.done ?_
            refine QS.then_code ?_
            refine CS.seq ?_
            refine CS.seq ?_
            refine CS.region ?_
            refine WS.det rfl rfl rfl (det_move rfl) rfl ?_ -- r27.0 outright.go:96
            refine WS.det rfl rfl rfl (det_ne rfl rfl) rfl ?_ -- r27.1 outright.go:96
            refine WS.det rfl rfl rfl (det_move rfl) rfl ?_ -- r27.2 outright.go:96
            refine WS.guardF rfl rfl rfl rfl (fun hg => det_move rfl) rfl ?_ -- r27.3 outright.go:96
            refine WS.guardF rfl rfl rfl rfl (fun hg => det_not (ev_cond hg rfl)) rfl ?_ -- r27.4 outright.go:96
            refine WS.det rfl rfl rfl (det_pick_or rfl rfl rfl) rfl ?_ -- r27.5 outright.go:96
            refine WS.det rfl rfl rfl (det_move rfl) rfl ?_ -- r27.6 outright.go:96
            refine WS.guardF rfl rfl rfl rfl (fun hg => (by first | exact det_loadb0 (j := 1) rfl rfl tk23 | exact det_loadbN (j := 1) rfl rfl (by rfl) tk23 | exact det_loadwN rfl (by assumption) (by rfl) tk23 | exact det_loadbK (n := 2) (j := 1) rfl rfl rfl rfl tk23)) rfl ?_ -- r27.7 outright.go:96
            refine WS.guardF rfl rfl rfl rfl (fun hg => det_move rfl) rfl ?_ -- r27.8 outright.go:96
            refine WS.guardF rfl rfl rfl rfl (fun hg => det_callB rfl (evs_cons (ev_cond hg rfl) (evs_cons (ev_cond hg rfl) evs_nil)) ent28 (fun u hu => RCheckCode_c _ _ _ _ u (h2.st hu))) rfl ?_ -- r27.9 outright.go:96
            refine WS.guardF rfl rfl rfl rfl (fun hg => det_ne (ev_cond hg rfl) rfl) rfl ?_ -- r27.10 outright.go:96
            refine WS.det rfl rfl rfl (det_pick_or rfl rfl rfl) rfl ?_ -- r27.11 outright.go:96
            refine WS.done ?_
            refine QS.then_code ?_
            refine CS.cond rfl (fun hc10 => ?_) (fun hc10 => ?_) <;> (try simp only [decide_eq_true_eq, decide_eq_false_iff_not, Bool.and_eq_true, Bool.or_eq_true, Bool.and_eq_false_iff, Bool.or_eq_false_iff, Bool.not_eq_true', Bool.not_eq_false', ne_eq, Decidable.not_not, Bool.not_true, Bool.not_false, bne_iff_ne, bne_eq_false_iff_eq, beq_iff_eq, beq_eq_false_iff_ne] at hc10)
            · skip
              refine CS.seq ?_
              refine CS.region ?_
              refine WS.det rfl rfl rfl (det_callB rfl rfl ent19 (fun u hu => works_c u)) rfl ?_ -- r28.0 outright.go:97
              refine WS.det rfl rfl rfl (det_assign rfl) rfl ?_ -- r28.1 outright.go:97
              refine WS.done ?_
              refine QS.then_code ?_
              refine CS.ret ?_
              refine QS.then_ret ?_
              exact out1 rfl rfl (retBe rfl) -- ret 2
            · skip
              have hxe : fitsE lw ls cs xs = 0 := hc10.1.1
              have hxb : codeB lw ls xs = true := codeE_code hc10.2
              have hxf : failsT cs xs < 0 := by have := hc10.1.2; rw [if_pos hxe] at this; simpa using this
              have hxm := (mem_readL (cs := cs) hL hxb).2 hxf
              have hxl := (code_of hxb).1
              have hpos := List.length_pos_of_mem hxm
              have htl : ((readL lw ls cs).take (1 : Int).toNat).length = 1 := by rw [List.length_take]; have : (1 : Int).toNat = 1 := rfl; omega
              refine CS.skip ?_
              refine QS.then_code ?_
              refine CS.seq ?_
              refine CS.seq ?_
              refine CS.region ?_
              refine WS.det rfl rfl rfl (det_assign rfl) rfl ?_ -- r29.0 outright.go:99
              refine WS.done ?_
              refine QS.then_code ?_
              refine CS.block ?_
              refine CS.loopM (σ := Int) [6, 28, 29, 213, 214, 215, 216, 217, 218, 219, 220, 221, 222, 223, 224, 225, 226, 227, 228, 229, 230, 231, 232, 233, 234, 235, 236, 237, 238, 239, 240, 241, 242, 243, 244] (fun s => [(27, .int .i64 s)]) (fun _ => _) (fun s => 0 ≤ s ∧ s ≤ lw) (fun s => (lw - s).toNat) 0 (fun _ _ => rfl) rfl rfl ⟨by omega, by omega⟩ ?_
              intro r t hs
              obtain ⟨hr1, hr2⟩ := hs
              refine CS.seq ?_
              refine CS.seq ?_
              refine CS.region ?_
              refine WS.det rfl rfl rfl (det_move rfl) rfl ?_ -- r30.0 outright.go:99
              refine WS.det rfl rfl rfl ((by first | exact det_fieldAddr rfl fo23_0 | exact det_fieldAddrS rfl fo23_0)) rfl ?_ -- r30.1 outright.go:99
              refine WS.det rfl rfl rfl ((by first | exact det_loadb (j := 1) rfl rfl rfl tk3 | exact det_loadw rfl (by assumption) rfl tk3)) rfl ?_ -- r30.2 outright.go:99
              refine WS.det rfl rfl rfl (det_lt rfl rfl) rfl ?_ -- r30.3 outright.go:99
              refine WS.done ?_
              refine QS.then_code ?_
              refine CS.cond rfl (fun hc11 => ?_) (fun hc11 => ?_) <;> (try simp only [decide_eq_true_eq, decide_eq_false_iff_not, Bool.and_eq_true, Bool.or_eq_true, Bool.and_eq_false_iff, Bool.or_eq_false_iff, Bool.not_eq_true', Bool.not_eq_false', ne_eq, Decidable.not_not, Bool.not_true, Bool.not_false, bne_iff_ne, bne_eq_false_iff_eq, beq_iff_eq, beq_eq_false_iff_ne] at hc11)
              · skip
                have hel := hvs.el r (by omega) (by omega)
                have hsa := show_at (w := lw) (s := ls) (L := readL lw ls cs) hr1 hc11
                have hxn := (code_of hxb).2 _ (nth_mem (xs := xs) hr1 (by omega))
                have hrl : (nth (showL lw ls (readL lw ls cs)) r).length = (rowTo lw (readL lw ls cs) r.toNat ls.toNat).length := by rw [hsa]
                have hrb2 := rowTo_len lw (readL lw ls cs) r.toNat ls.toNat
                have hhas := row_has (w := lw) (L := readL lw ls cs) (i := r.toNat) (m := ls.toNat) (by omega) hxm (by rw [show ((r.toNat : Nat) : Int) = r by omega]; exact hxn.1) (by rw [show ((r.toNat : Nat) : Int) = r by omega]; omega)
                rw [show ((r.toNat : Nat) : Int) = r by omega] at hhas
                refine CS.skip ?_
                refine QS.then_code ?_
                refine CS.seq ?_
                refine CS.block ?_
                refine CS.seq ?_
                refine CS.region ?_
                refine WS.det rfl rfl rfl (det_assign rfl) rfl ?_ -- r32.0 outright.go:100
                refine WS.done ?_
                refine QS.then_code ?_
                refine CS.seq ?_
                refine CS.seq ?_
                refine CS.region ?_
                refine WS.det rfl rfl rfl (det_assign rfl) rfl ?_ -- r33.0 outright.go:101
                refine WS.done ?_
                refine QS.then_code ?_
                refine CS.block ?_
                refine CS.loopM (σ := Bool × Int) [219, 220, 221, 222, 223, 224, 225, 226, 227, 228, 229, 230, 231, 232, 233, 234, 235, 236, 237, 238, 239, 240, 241, 242] (fun s => [(28, .bool s.1), (29, .int .i64 s.2)]) (fun _ => _) (fun s => 0 ≤ s.2 ∧ s.2 ≤ (nth (showL lw ls (readL lw ls cs)) r).length ∧ s.1 = ((nth (showL lw ls (readL lw ls cs)) r).take s.2.toNat).any (fun y => decide (y = nth xs r))) (fun s => ((nth (showL lw ls (readL lw ls cs)) r).length - s.2).toNat) (false, 0) (fun _ _ => rfl) rfl rfl ⟨by simp, by simp, by simp⟩ ?_
                intro z t hs
                obtain ⟨hz1, hz2, hz3⟩ := hs
                refine CS.seq ?_
                refine CS.seq ?_
                refine CS.region ?_
                refine WS.det rfl rfl rfl (det_move rfl) rfl ?_ -- r34.0 outright.go:101
                refine WS.det rfl rfl rfl (det_move rfl) rfl ?_ -- r34.1 outright.go:101
                refine WS.det rfl rfl rfl (det_move rfl) rfl ?_ -- r34.2 outright.go:101
                refine WS.det rfl rfl rfl ((by first | exact det_idxL sl51 rfl rfl (by assumption) (by omega) (by omega) | exact det_idxO sl51 rfl rfl (by omega) (by omega))) rfl ?_ -- r34.3 outright.go:101
                refine WS.det rfl rfl rfl ((by first | exact det_ldL rfl (by assumption) (by omega) tk24 | exact det_ldLR (j := 0) rfl rfl (by assumption) (by omega) tk24 | exact det_loadb (j := 0) rfl rfl rfl tk24 | exact det_loadb (j := 1) rfl rfl rfl tk24 | exact det_loadb (j := 2) rfl rfl rfl tk24 | exact det_loadb (j := 3) rfl rfl rfl tk24 | exact det_loadw rfl (by assumption) rfl tk24)) rfl ?_ -- r34.4 outright.go:101
                refine WS.det rfl rfl rfl ((by first | exact det_lenS sl24 rfl (by assumption) | exact det_lenS sl24 rfl (by first | exact SlL.sp (by assumption) | exact ClS.sp (by assumption)) | exact det_lenO sl24 rfl | exact det_lenV sl24 rfl ⟨_, _, rfl⟩)) rfl ?_ -- r34.5 outright.go:101
                refine WS.det rfl rfl rfl (det_lt rfl rfl) rfl ?_ -- r34.6 outright.go:101
                refine WS.done ?_
                refine QS.then_code ?_
                refine CS.cond rfl (fun hc12 => ?_) (fun hc12 => ?_) <;> (try simp only [decide_eq_true_eq, decide_eq_false_iff_not, Bool.and_eq_true, Bool.or_eq_true, Bool.and_eq_false_iff, Bool.or_eq_false_iff, Bool.not_eq_true', Bool.not_eq_false', ne_eq, Decidable.not_not, Bool.not_true, Bool.not_false, bne_iff_ne, bne_eq_false_iff_eq, beq_iff_eq, beq_eq_false_iff_ne] at hc12)
                · skip
                  have hz5 : z.2 < (nth (showL lw ls (readL lw ls cs)) r).length := by omega
                  refine CS.skip ?_
                  refine QS.then_code ?_
                  refine CS.seq ?_
                  refine CS.block ?_
                  refine CS.draw mixed (by kernel_rfl) (by kernel_rfl) ?_
                  refine DS.det rfl rfl (det_move rfl) rfl ?_ -- r36.0 outright.go:102
                  refine DS.det rfl rfl (det_move rfl) rfl ?_ -- r36.1 outright.go:102
                  refine DS.guardF rfl rfl rfl (fun hg => det_move rfl) rfl ?_ -- r36.2 outright.go:102
                  refine DS.guardF rfl rfl rfl (fun hg => det_move rfl) rfl ?_ -- r36.3 outright.go:102
                  refine DS.guardF rfl rfl rfl (fun hg => (by first | exact det_idxL sl51 (ev_cond hg rfl) (ev_cond hg rfl) (by assumption) (by (try simp only [decide_eq_true_eq, decide_eq_false_iff_not, Bool.and_eq_true, Bool.or_eq_true, Bool.and_eq_false_iff, Bool.or_eq_false_iff, Bool.not_eq_true', Bool.not_eq_false', ne_eq, Decidable.not_not, Bool.not_true, Bool.not_false, bne_iff_ne, bne_eq_false_iff_eq, beq_iff_eq, beq_eq_false_iff_ne] at hg); omega) (by (try simp only [decide_eq_true_eq, decide_eq_false_iff_not, Bool.and_eq_true, Bool.or_eq_true, Bool.and_eq_false_iff, Bool.or_eq_false_iff, Bool.not_eq_true', Bool.not_eq_false', ne_eq, Decidable.not_not, Bool.not_true, Bool.not_false, bne_iff_ne, bne_eq_false_iff_eq, beq_iff_eq, beq_eq_false_iff_ne] at hg); omega) | exact det_idxO sl51 (ev_cond hg rfl) (ev_cond hg rfl) (by (try simp only [decide_eq_true_eq, decide_eq_false_iff_not, Bool.and_eq_true, Bool.or_eq_true, Bool.and_eq_false_iff, Bool.or_eq_false_iff, Bool.not_eq_true', Bool.not_eq_false', ne_eq, Decidable.not_not, Bool.not_true, Bool.not_false, bne_iff_ne, bne_eq_false_iff_eq, beq_iff_eq, beq_eq_false_iff_ne] at hg); omega) (by (try simp only [decide_eq_true_eq, decide_eq_false_iff_not, Bool.and_eq_true, Bool.or_eq_true, Bool.and_eq_false_iff, Bool.or_eq_false_iff, Bool.not_eq_true', Bool.not_eq_false', ne_eq, Decidable.not_not, Bool.not_true, Bool.not_false, bne_iff_ne, bne_eq_false_iff_eq, beq_iff_eq, beq_eq_false_iff_ne] at hg); omega))) rfl ?_ -- r36.4 outright.go:102
                  refine DS.guardF rfl rfl rfl (fun hg => (by first | exact det_ldL (ev_cond hg rfl) (by assumption) (by (try simp only [decide_eq_true_eq, decide_eq_false_iff_not, Bool.and_eq_true, Bool.or_eq_true, Bool.and_eq_false_iff, Bool.or_eq_false_iff, Bool.not_eq_true', Bool.not_eq_false', ne_eq, Decidable.not_not, Bool.not_true, Bool.not_false, bne_iff_ne, bne_eq_false_iff_eq, beq_iff_eq, beq_eq_false_iff_ne] at hg); omega) tk24 | exact det_ldLR (j := 0) (ev_cond hg rfl) rfl (by assumption) (by (try simp only [decide_eq_true_eq, decide_eq_false_iff_not, Bool.and_eq_true, Bool.or_eq_true, Bool.and_eq_false_iff, Bool.or_eq_false_iff, Bool.not_eq_true', Bool.not_eq_false', ne_eq, Decidable.not_not, Bool.not_true, Bool.not_false, bne_iff_ne, bne_eq_false_iff_eq, beq_iff_eq, beq_eq_false_iff_ne] at hg); omega) tk24 | exact det_loadb (j := 0) (ev_cond hg rfl) rfl rfl tk24 | exact det_loadb (j := 1) (ev_cond hg rfl) rfl rfl tk24 | exact det_loadb (j := 2) (ev_cond hg rfl) rfl rfl tk24 | exact det_loadb (j := 3) (ev_cond hg rfl) rfl rfl tk24 | exact det_loadw (ev_cond hg rfl) (by assumption) rfl tk24)) rfl ?_ -- r36.5 outright.go:102
                  refine DS.guardF rfl rfl rfl (fun hg => det_move rfl) rfl ?_ -- r36.6 outright.go:102
                  refine DS.guardF rfl rfl rfl (fun hg => (by first | exact det_idxI sl24 (ev_cond hg rfl) (ev_cond hg rfl) (by assumption) (by (try simp only [decide_eq_true_eq, decide_eq_false_iff_not, Bool.and_eq_true, Bool.or_eq_true, Bool.and_eq_false_iff, Bool.or_eq_false_iff, Bool.not_eq_true', Bool.not_eq_false', ne_eq, Decidable.not_not, Bool.not_true, Bool.not_false, bne_iff_ne, bne_eq_false_iff_eq, beq_iff_eq, beq_eq_false_iff_ne] at hg); omega) (by (try simp only [decide_eq_true_eq, decide_eq_false_iff_not, Bool.and_eq_true, Bool.or_eq_true, Bool.and_eq_false_iff, Bool.or_eq_false_iff, Bool.not_eq_true', Bool.not_eq_false', ne_eq, Decidable.not_not, Bool.not_true, Bool.not_false, bne_iff_ne, bne_eq_false_iff_eq, beq_iff_eq, beq_eq_false_iff_ne] at hg); omega) | exact det_idxO sl24 (ev_cond hg rfl) (ev_cond hg rfl) (by (try simp only [decide_eq_true_eq, decide_eq_false_iff_not, Bool.and_eq_true, Bool.or_eq_true, Bool.and_eq_false_iff, Bool.or_eq_false_iff, Bool.not_eq_true', Bool.not_eq_false', ne_eq, Decidable.not_not, Bool.not_true, Bool.not_false, bne_iff_ne, bne_eq_false_iff_eq, beq_iff_eq, beq_eq_false_iff_ne] at hg); omega) (by (try simp only [decide_eq_true_eq, decide_eq_false_iff_not, Bool.and_eq_true, Bool.or_eq_true, Bool.and_eq_false_iff, Bool.or_eq_false_iff, Bool.not_eq_true', Bool.not_eq_false', ne_eq, Decidable.not_not, Bool.not_true, Bool.not_false, bne_iff_ne, bne_eq_false_iff_eq, beq_iff_eq, beq_eq_false_iff_ne] at hg); omega))) rfl ?_ -- r36.7 outright.go:102
                  refine DS.guardF rfl rfl rfl (fun hg => (by first | exact det_ldI (ev_cond hg rfl) (by assumption) (by (try simp only [decide_eq_true_eq, decide_eq_false_iff_not, Bool.and_eq_true, Bool.or_eq_true, Bool.and_eq_false_iff, Bool.or_eq_false_iff, Bool.not_eq_true', Bool.not_eq_false', ne_eq, Decidable.not_not, Bool.not_true, Bool.not_false, bne_iff_ne, bne_eq_false_iff_eq, beq_iff_eq, beq_eq_false_iff_ne] at hg); omega) tk3 | exact det_loadb (j := 0) (ev_cond hg rfl) rfl rfl tk3 | exact det_loadb (j := 1) (ev_cond hg rfl) rfl rfl tk3 | exact det_loadb (j := 2) (ev_cond hg rfl) rfl rfl tk3 | exact det_loadb (j := 3) (ev_cond hg rfl) rfl rfl tk3 | exact det_loadw (ev_cond hg rfl) (by assumption) rfl tk3 | exact det_ldLI (j := 0) (ev_cond hg rfl) rfl (by (try simp only [decide_eq_true_eq, decide_eq_false_iff_not, Bool.and_eq_true, Bool.or_eq_true, Bool.and_eq_false_iff, Bool.or_eq_false_iff, Bool.not_eq_true', Bool.not_eq_false', ne_eq, Decidable.not_not, Bool.not_true, Bool.not_false, bne_iff_ne, bne_eq_false_iff_eq, beq_iff_eq, beq_eq_false_iff_ne] at hg); omega) (by (try simp only [decide_eq_true_eq, decide_eq_false_iff_not, Bool.and_eq_true, Bool.or_eq_true, Bool.and_eq_false_iff, Bool.or_eq_false_iff, Bool.not_eq_true', Bool.not_eq_false', ne_eq, Decidable.not_not, Bool.not_true, Bool.not_false, bne_iff_ne, bne_eq_false_iff_eq, beq_iff_eq, beq_eq_false_iff_ne] at hg); omega) tk3 | exact det_ldIR (j := 0) (ev_cond hg rfl) rfl (by (try simp only [decide_eq_true_eq, decide_eq_false_iff_not, Bool.and_eq_true, Bool.or_eq_true, Bool.and_eq_false_iff, Bool.or_eq_false_iff, Bool.not_eq_true', Bool.not_eq_false', ne_eq, Decidable.not_not, Bool.not_true, Bool.not_false, bne_iff_ne, bne_eq_false_iff_eq, beq_iff_eq, beq_eq_false_iff_ne] at hg); omega) tk3)) rfl ?_ -- r36.8 outright.go:102
                  refine DS.guardF rfl rfl rfl (fun hg => det_move rfl) rfl ?_ -- r36.9 outright.go:102
                  refine DS.guardF rfl rfl rfl (fun hg => det_move rfl) rfl ?_ -- r36.10 outright.go:102
                  refine DS.guardF rfl rfl rfl (fun hg => (by first | exact det_idxI sl24 (ev_cond hg rfl) (ev_cond hg rfl) (by assumption) (by (try simp only [decide_eq_true_eq, decide_eq_false_iff_not, Bool.and_eq_true, Bool.or_eq_true, Bool.and_eq_false_iff, Bool.or_eq_false_iff, Bool.not_eq_true', Bool.not_eq_false', ne_eq, Decidable.not_not, Bool.not_true, Bool.not_false, bne_iff_ne, bne_eq_false_iff_eq, beq_iff_eq, beq_eq_false_iff_ne] at hg); omega) (by (try simp only [decide_eq_true_eq, decide_eq_false_iff_not, Bool.and_eq_true, Bool.or_eq_true, Bool.and_eq_false_iff, Bool.or_eq_false_iff, Bool.not_eq_true', Bool.not_eq_false', ne_eq, Decidable.not_not, Bool.not_true, Bool.not_false, bne_iff_ne, bne_eq_false_iff_eq, beq_iff_eq, beq_eq_false_iff_ne] at hg); omega) | exact det_idxO sl24 (ev_cond hg rfl) (ev_cond hg rfl) (by (try simp only [decide_eq_true_eq, decide_eq_false_iff_not, Bool.and_eq_true, Bool.or_eq_true, Bool.and_eq_false_iff, Bool.or_eq_false_iff, Bool.not_eq_true', Bool.not_eq_false', ne_eq, Decidable.not_not, Bool.not_true, Bool.not_false, bne_iff_ne, bne_eq_false_iff_eq, beq_iff_eq, beq_eq_false_iff_ne] at hg); omega) (by (try simp only [decide_eq_true_eq, decide_eq_false_iff_not, Bool.and_eq_true, Bool.or_eq_true, Bool.and_eq_false_iff, Bool.or_eq_false_iff, Bool.not_eq_true', Bool.not_eq_false', ne_eq, Decidable.not_not, Bool.not_true, Bool.not_false, bne_iff_ne, bne_eq_false_iff_eq, beq_iff_eq, beq_eq_false_iff_ne] at hg); omega))) rfl ?_ -- r36.11 outright.go:102
                  refine DS.guardF rfl rfl rfl (fun hg => (by first | exact det_ldI (ev_cond hg rfl) (by assumption) (by (try simp only [decide_eq_true_eq, decide_eq_false_iff_not, Bool.and_eq_true, Bool.or_eq_true, Bool.and_eq_false_iff, Bool.or_eq_false_iff, Bool.not_eq_true', Bool.not_eq_false', ne_eq, Decidable.not_not, Bool.not_true, Bool.not_false, bne_iff_ne, bne_eq_false_iff_eq, beq_iff_eq, beq_eq_false_iff_ne] at hg); omega) tk3 | exact det_loadb (j := 0) (ev_cond hg rfl) rfl rfl tk3 | exact det_loadb (j := 1) (ev_cond hg rfl) rfl rfl tk3 | exact det_loadb (j := 2) (ev_cond hg rfl) rfl rfl tk3 | exact det_loadb (j := 3) (ev_cond hg rfl) rfl rfl tk3 | exact det_loadw (ev_cond hg rfl) (by assumption) rfl tk3 | exact det_ldLI (j := 0) (ev_cond hg rfl) rfl (by (try simp only [decide_eq_true_eq, decide_eq_false_iff_not, Bool.and_eq_true, Bool.or_eq_true, Bool.and_eq_false_iff, Bool.or_eq_false_iff, Bool.not_eq_true', Bool.not_eq_false', ne_eq, Decidable.not_not, Bool.not_true, Bool.not_false, bne_iff_ne, bne_eq_false_iff_eq, beq_iff_eq, beq_eq_false_iff_ne] at hg); omega) (by (try simp only [decide_eq_true_eq, decide_eq_false_iff_not, Bool.and_eq_true, Bool.or_eq_true, Bool.and_eq_false_iff, Bool.or_eq_false_iff, Bool.not_eq_true', Bool.not_eq_false', ne_eq, Decidable.not_not, Bool.not_true, Bool.not_false, bne_iff_ne, bne_eq_false_iff_eq, beq_iff_eq, beq_eq_false_iff_ne] at hg); omega) tk3 | exact det_ldIR (j := 0) (ev_cond hg rfl) rfl (by (try simp only [decide_eq_true_eq, decide_eq_false_iff_not, Bool.and_eq_true, Bool.or_eq_true, Bool.and_eq_false_iff, Bool.or_eq_false_iff, Bool.not_eq_true', Bool.not_eq_false', ne_eq, Decidable.not_not, Bool.not_true, Bool.not_false, bne_iff_ne, bne_eq_false_iff_eq, beq_iff_eq, beq_eq_false_iff_ne] at hg); omega) tk3)) rfl ?_ -- r36.12 outright.go:102
                  refine DS.guardF rfl rfl rfl (fun hg => det_eq (ev_cond hg rfl) (ev_cond hg rfl)) rfl ?_ -- r36.13 outright.go:102
                  refine DS.det rfl rfl (det_pick_or rfl rfl rfl) rfl ?_ -- r36.14 outright.go:102
                  refine DS.det rfl rfl (det_assign rfl) rfl ?_ -- r36.15 outright.go:102
                  refine DS.done ?_
                  refine QS.block_normal ?_
                  refine QS.then_code ?_
                  refine CS.region ?_
                  refine WS.det rfl rfl rfl (det_move rfl) rfl ?_ -- r35.0 outright.go:101
                  refine WS.det rfl rfl rfl (det_add rfl rfl (by omega)) rfl ?_ -- r35.1 outright.go:101
                  refine WS.det rfl rfl rfl (det_assign rfl) rfl ?_ -- r35.2 outright.go:101
                  refine WS.done ?_
                  exact QS.head ((z.1 || decide (nth (nth (showL lw ls (readL lw ls cs)) r) z.2 = nth xs r), z.2 + 1)) rfl rfl ⟨⟨by simp; omega, by simp; omega, by simp only; rw [take_snocI _ hz1 hz5, List.any_append, ← hz3]; simp⟩, by simp; omega⟩
                · skip
                  refine CS.leave ?_
                  refine QS.then_exit ?_
                  refine QS.then_exit ?_
                  refine QS.block_exit ?_
                  refine QS.then_code ?_
                  refine CS.seq ?_
                  refine CS.region ?_
                  refine WS.det rfl rfl rfl (det_move rfl) rfl ?_ -- r37.0 outright.go:104
                  refine WS.det rfl rfl rfl (det_not rfl) rfl ?_ -- r37.1 outright.go:104
                  refine WS.done ?_
                  refine QS.then_code ?_
                  refine CS.cond rfl (fun hc13 => ?_) (fun hc13 => ?_) <;> (try simp only [decide_eq_true_eq, decide_eq_false_iff_not, Bool.and_eq_true, Bool.or_eq_true, Bool.and_eq_false_iff, Bool.or_eq_false_iff, Bool.not_eq_true', Bool.not_eq_false', ne_eq, Decidable.not_not, Bool.not_true, Bool.not_false, bne_iff_ne, bne_eq_false_iff_eq, beq_iff_eq, beq_eq_false_iff_ne] at hc13)
                  · skip
                    exfalso
                    rw [hz3, take_all _ (by omega), hsa] at hc13
                    rw [List.any_eq_false] at hc13
                    exact hc13 _ hhas (by simp)
                  · skip
                    refine CS.skip ?_
                    refine QS.block_normal ?_
                    refine QS.then_code ?_
                    refine CS.region ?_
                    refine WS.det rfl rfl rfl (det_move rfl) rfl ?_ -- r31.0 outright.go:99
                    refine WS.det rfl rfl rfl (det_add rfl rfl (by omega)) rfl ?_ -- r31.1 outright.go:99
                    refine WS.det rfl rfl rfl (det_assign rfl) rfl ?_ -- r31.2 outright.go:99
                    refine WS.done ?_
                    exact QS.head (r + 1) rfl rfl ⟨⟨by omega, by omega⟩, by omega⟩
              · skip
                refine CS.leave ?_
                refine QS.then_exit ?_
                refine QS.then_exit ?_
                refine QS.block_exit ?_
                refine QS.then_code ?_
                refine CS.seq ?_
                refine CS.region ?_
                refine WS.det rfl rfl rfl ((by first | exact det_loadb0 (j := 1) rfl rfl tk23 | exact det_loadbN (j := 1) rfl rfl (by rfl) tk23 | exact det_loadwN rfl (by assumption) (by rfl) tk23 | exact det_loadbK (n := 2) (j := 1) rfl rfl rfl rfl tk23)) rfl ?_ -- r39.0 outright.go:108
                refine WS.det rfl rfl rfl (det_move rfl) rfl ?_ -- r39.1 outright.go:108
                refine WS.callF rfl rfl ent35 (fun u hu => (by have h := Readings_c lw ls cs gs cv 1 u (hk.st hu); simp only [hre, if_true] at h; exact h)) (fun _ => rfl) ?_; rintro ⟨vx, gx⟩ ⟨ux, hvx⟩ -- r39.2 outright.go:108
                refine WS.det rfl rfl rfl (det_move rfl) rfl ?_ -- r39.3 outright.go:108
                refine WS.det rfl rfl rfl (det_extract rfl rfl) rfl ?_ -- r39.4 outright.go:108
                refine WS.det rfl rfl rfl (det_extract rfl rfl) rfl ?_ -- r39.5 outright.go:108
                refine WS.det rfl rfl rfl (det_assign rfl) rfl ?_ -- r39.6 outright.go:108
                refine WS.det rfl rfl rfl (det_assign rfl) rfl ?_ -- r39.7 outright.go:108
                refine WS.done ?_
                refine QS.then_code ?_
                refine CS.seq ?_
                refine CS.region ?_
                refine WS.det rfl rfl rfl (det_move rfl) rfl ?_ -- r40.0 outright.go:109
                refine WS.det rfl rfl rfl (det_eq rfl rfl) rfl ?_ -- r40.1 outright.go:109
                refine WS.det rfl rfl rfl (det_move rfl) rfl ?_ -- r40.2 outright.go:109
                refine WS.guardT rfl rfl rfl rfl (fun hg => det_move rfl) rfl ?_ -- r40.3 outright.go:109
                refine WS.guardT rfl rfl rfl rfl (fun hg => (by first | exact det_lenS sl51 (ev_cond hg rfl) (by assumption) | exact det_lenS sl51 (ev_cond hg rfl) (by first | exact SlL.sp (by assumption) | exact ClS.sp (by assumption)) | exact det_lenO sl51 (ev_cond hg rfl) | exact det_lenV sl51 (ev_cond hg rfl) ⟨_, _, rfl⟩)) rfl ?_ -- r40.4 outright.go:109
                refine WS.guardT rfl rfl rfl rfl (fun hg => det_eq (ev_cond hg rfl) rfl) rfl ?_ -- r40.5 outright.go:109
                refine WS.det rfl rfl rfl (det_pick_and rfl rfl rfl) rfl ?_ -- r40.6 outright.go:109
                refine WS.det rfl rfl rfl (det_move rfl) rfl ?_ -- r40.7 outright.go:109
                refine WS.guardT rfl rfl rfl rfl (fun hg => det_move rfl) rfl ?_ -- r40.8 outright.go:109
                refine WS.guardT rfl rfl rfl rfl (fun hg => det_gt (ev_cond hg rfl) rfl) rfl ?_ -- r40.9 outright.go:109
                refine WS.guardT rfl rfl rfl rfl (fun hg => det_move (ev_cond hg rfl)) rfl ?_ -- r40.10 outright.go:109
                refine WS.guardN rfl rfl rfl rfl rfl (fun hg => det_move rfl) rfl ?_ -- r40.11 outright.go:109
                refine WS.guardN rfl rfl rfl rfl rfl (fun hg => (by first | exact det_idxL sl51 (ev_cond hg rfl) rfl (by assumption) (by (try simp only [decide_eq_true_eq, decide_eq_false_iff_not, Bool.and_eq_true, Bool.or_eq_true, Bool.and_eq_false_iff, Bool.or_eq_false_iff, Bool.not_eq_true', Bool.not_eq_false', ne_eq, Decidable.not_not, Bool.not_true, Bool.not_false, bne_iff_ne, bne_eq_false_iff_eq, beq_iff_eq, beq_eq_false_iff_ne] at hg); omega) (by (try simp only [decide_eq_true_eq, decide_eq_false_iff_not, Bool.and_eq_true, Bool.or_eq_true, Bool.and_eq_false_iff, Bool.or_eq_false_iff, Bool.not_eq_true', Bool.not_eq_false', ne_eq, Decidable.not_not, Bool.not_true, Bool.not_false, bne_iff_ne, bne_eq_false_iff_eq, beq_iff_eq, beq_eq_false_iff_ne] at hg); omega) | exact det_idxO sl51 (ev_cond hg rfl) rfl (by (try simp only [decide_eq_true_eq, decide_eq_false_iff_not, Bool.and_eq_true, Bool.or_eq_true, Bool.and_eq_false_iff, Bool.or_eq_false_iff, Bool.not_eq_true', Bool.not_eq_false', ne_eq, Decidable.not_not, Bool.not_true, Bool.not_false, bne_iff_ne, bne_eq_false_iff_eq, beq_iff_eq, beq_eq_false_iff_ne] at hg); omega) (by (try simp only [decide_eq_true_eq, decide_eq_false_iff_not, Bool.and_eq_true, Bool.or_eq_true, Bool.and_eq_false_iff, Bool.or_eq_false_iff, Bool.not_eq_true', Bool.not_eq_false', ne_eq, Decidable.not_not, Bool.not_true, Bool.not_false, bne_iff_ne, bne_eq_false_iff_eq, beq_iff_eq, beq_eq_false_iff_ne] at hg); omega))) rfl ?_ -- r40.12 outright.go:109
                refine WS.guardN rfl rfl rfl rfl rfl (fun hg => (by first | exact det_ldL (ev_cond hg rfl) (by assumption) (by (try simp only [decide_eq_true_eq, decide_eq_false_iff_not, Bool.and_eq_true, Bool.or_eq_true, Bool.and_eq_false_iff, Bool.or_eq_false_iff, Bool.not_eq_true', Bool.not_eq_false', ne_eq, Decidable.not_not, Bool.not_true, Bool.not_false, bne_iff_ne, bne_eq_false_iff_eq, beq_iff_eq, beq_eq_false_iff_ne] at hg); omega) tk24 | exact det_ldLR (j := 0) (ev_cond hg rfl) rfl (by assumption) (by (try simp only [decide_eq_true_eq, decide_eq_false_iff_not, Bool.and_eq_true, Bool.or_eq_true, Bool.and_eq_false_iff, Bool.or_eq_false_iff, Bool.not_eq_true', Bool.not_eq_false', ne_eq, Decidable.not_not, Bool.not_true, Bool.not_false, bne_iff_ne, bne_eq_false_iff_eq, beq_iff_eq, beq_eq_false_iff_ne] at hg); omega) tk24 | exact det_ldLR (j := 1) (ev_cond hg rfl) rfl (by assumption) (by (try simp only [decide_eq_true_eq, decide_eq_false_iff_not, Bool.and_eq_true, Bool.or_eq_true, Bool.and_eq_false_iff, Bool.or_eq_false_iff, Bool.not_eq_true', Bool.not_eq_false', ne_eq, Decidable.not_not, Bool.not_true, Bool.not_false, bne_iff_ne, bne_eq_false_iff_eq, beq_iff_eq, beq_eq_false_iff_ne] at hg); omega) tk24 | exact det_loadb (j := 0) (ev_cond hg rfl) rfl rfl tk24 | exact det_loadb (j := 1) (ev_cond hg rfl) rfl rfl tk24 | exact det_loadb (j := 2) (ev_cond hg rfl) rfl rfl tk24 | exact det_loadb (j := 3) (ev_cond hg rfl) rfl rfl tk24 | exact det_loadw (ev_cond hg rfl) (by assumption) rfl tk24)) rfl ?_ -- r40.13 outright.go:109
                refine WS.guardN rfl rfl rfl rfl rfl (fun hg => det_move rfl) rfl ?_ -- r40.14 outright.go:109
                refine WS.guardN rfl rfl rfl rfl rfl (fun hg => det_callB rfl (evs_cons (ev_cond hg rfl) (evs_cons (ev_cond hg rfl) evs_nil)) ent20 (fun u hu => SameInts_c _ _ _ _ u ((hu.roL (j := 0) rfl).el 0 (by omega) (by omega)) (h2.st hu))) rfl ?_ -- r40.15 outright.go:109
                refine WS.guardT rfl rfl rfl rfl (fun hg => det_pick_or (ev_cond hg rfl) (ev_nestF hg rfl) rfl) rfl ?_ -- r40.16 outright.go:109
                refine WS.det rfl rfl rfl (det_pick_and rfl rfl rfl) rfl ?_ -- r40.17 outright.go:109
                refine WS.det rfl rfl rfl (det_move rfl) rfl ?_ -- r40.18 outright.go:109
                refine WS.guardT rfl rfl rfl rfl (fun hg => det_callB rfl rfl ent19 (fun u hu => works_c u)) rfl ?_ -- r40.19 outright.go:109
                refine WS.det rfl rfl rfl (det_pick_and rfl rfl rfl) rfl ?_ -- r40.20 outright.go:109
                refine WS.det rfl rfl rfl (det_assign rfl) rfl ?_ -- r40.21 outright.go:109
                refine WS.done ?_
                refine QS.then_code ?_
                refine CS.ret ?_
                exact out1 rfl rfl (retBe (by
                      rw [hz0, htl]
                      by_cases h1 : (1 : Int) < (readL lw ls cs).length
                      · rw [decide_eq_true h1]; rfl
                      · rw [one_only (show (readL lw ls cs).length = 1 by omega) hxm]; simp)) -- ret 3

end Go.Proofs.Ytldagbcceefcdaa
