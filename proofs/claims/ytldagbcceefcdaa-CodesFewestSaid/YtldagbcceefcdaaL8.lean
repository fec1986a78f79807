/- Contracts of functions, printed by a program of the prover (gen.py). -/
import Derived.Test.YtldagbcceefcdaaL7
import Derived.Test.YtldagbcceefcdaaLeft
namespace Go.Proofs.Ytldagbcceefcdaa
open Go.RowKit Go.Proofs
set_option maxRecDepth 100000
set_option linter.unusedVariables false
set_option linter.unusedSimpArgs false

set_option maxHeartbeats 1000000 in
theorem CodesLeft_c (lw ls : Int) (cs : List Clue) (gs : List Value) (cv : Value) (xs : List Int) (xv : Value) (w : World) (hk : ClS w cv cs gs) (h2 : SlI w xv xs) :
    Calls Try.prog 11 #[.agg #[.int .i64 lw, .int .i64 ls], cv, xv] w (RetB w (.bool true)) := by
  have hkl := hk.le
  have hal := clFlat_one (cs := cs) hk.one
  refine enter Try.func11 rfl rfl (Nat.le_of_ble_eq_true rfl) ?_
  refine CS.seq ?_
  refine CS.region ?_
  refine WS.box rfl rfl (fun _ => rfl) ?_; intro b3 hb3 -- r0.0 outright.go:211
  refine WS.det rfl rfl rfl (det_assign rfl) rfl ?_ -- r0.1 outright.go:211
  refine WS.done ?_
  refine QS.then_code ?_
  refine CS.seq ?_
  refine CS.region ?_
  refine WS.det rfl rfl rfl ((by first | exact det_loadb0 (j := 0) rfl rfl tk23 | exact det_loadbN (j := 0) rfl rfl (by rfl) tk23 | exact det_loadwN rfl (by assumption) (by rfl) tk23 | exact det_loadbK (n := 2) (j := 0) rfl rfl rfl rfl tk23)) rfl ?_ -- r1.0 outright.go:212
  refine WS.det rfl rfl rfl (det_move rfl) rfl ?_ -- r1.1 outright.go:212
  refine WS.det rfl rfl rfl (det_callB rfl rfl ent34 (fun u hu => Count_c _ _ _ _ _ u (hk.st hu))) rfl ?_ -- r1.2 outright.go:212
  refine WS.det rfl rfl rfl (det_move rfl) rfl ?_ -- r1.3 outright.go:212
  refine WS.det rfl rfl rfl (det_extract rfl rfl) rfl ?_ -- r1.4 outright.go:212
  refine WS.det rfl rfl rfl (det_extract rfl rfl) rfl ?_ -- r1.5 outright.go:212
  refine WS.det rfl rfl rfl (det_assign rfl) rfl ?_ -- r1.6 outright.go:212
  refine WS.det rfl rfl rfl (det_assign rfl) rfl ?_ -- r1.7 outright.go:212
  refine WS.done ?_
  refine QS.then_code ?_
  refine CS.seq ?_
  refine CS.seq ?_
  refine CS.region ?_
  refine WS.det rfl rfl rfl (det_move rfl) rfl ?_ -- r2.0 outright.go:213
  refine WS.det rfl rfl rfl (det_ne rfl rfl) rfl ?_ -- r2.1 outright.go:213
  refine WS.det rfl rfl rfl (det_move rfl) rfl ?_ -- r2.2 outright.go:213
  refine WS.guardF rfl rfl rfl rfl (fun hg => det_move rfl) rfl ?_ -- r2.3 outright.go:213
  refine WS.guardF rfl rfl rfl rfl (fun hg => det_gt (ev_cond hg rfl) rfl) rfl ?_ -- r2.4 outright.go:213
  refine WS.det rfl rfl rfl (det_pick_or rfl rfl rfl) rfl ?_ -- r2.5 outright.go:213
  refine WS.det rfl rfl rfl (det_move rfl) rfl ?_ -- r2.6 outright.go:213
  refine WS.guardF rfl rfl rfl rfl (fun hg => det_move rfl) rfl ?_ -- r2.7 outright.go:213
  refine WS.guardF rfl rfl rfl rfl (fun hg => (by first | exact det_lenS sl31 (ev_cond hg rfl) (by assumption) | exact det_lenS sl31 (ev_cond hg rfl) (by first | exact SlL.sp (by assumption) | exact ClS.sp (by assumption)) | exact det_lenO sl31 (ev_cond hg rfl) | exact det_lenV sl31 (ev_cond hg rfl) ⟨_, _, rfl⟩)) rfl ?_ -- r2.8 outright.go:213
  refine WS.guardF rfl rfl rfl rfl (fun hg => det_ge (ev_cond hg rfl) rfl) rfl ?_ -- r2.9 outright.go:213
  refine WS.det rfl rfl rfl (det_pick_or rfl rfl rfl) rfl ?_ -- r2.10 outright.go:213
  refine WS.done ?_
  refine QS.then_code ?_
  refine CS.cond rfl (fun hc1 => ?_) (fun hc1 => ?_) <;> (try simp only [decide_eq_true_eq, decide_eq_false_iff_not, Bool.and_eq_true, Bool.or_eq_true, Bool.and_eq_false_iff, Bool.or_eq_false_iff, Bool.not_eq_true', Bool.not_eq_false', ne_eq, Decidable.not_not, Bool.not_true, Bool.not_false, bne_iff_ne, bne_eq_false_iff_eq, beq_iff_eq, beq_eq_false_iff_ne] at hc1)
  · skip
    refine CS.seq ?_
    refine CS.region ?_
    refine WS.det rfl rfl rfl (det_callB rfl rfl ent19 (fun u hu => works_c u)) rfl ?_ -- r3.0 outright.go:214
    refine WS.det rfl rfl rfl (det_assign rfl) rfl ?_ -- r3.1 outright.go:214
    refine WS.done ?_
    refine QS.then_code ?_
    refine CS.ret ?_
    refine QS.then_ret ?_
    exact out1 rfl rfl (retBe rfl) -- ret 1
  · skip
    have hce : cluesE lw ls cs = 0 := hc1.1.1
    have hL := cluesE_lock hce
    have hC := cluesE_clue hce
    have hrb := readL_le hL cs
    have hz0 : (if cluesE lw ls cs = 0 then ((readL lw ls cs).length : Int) else 0) = (readL lw ls cs).length := if_pos hce
    rw [hz0] at hc1
    refine CS.skip ?_
    refine QS.then_code ?_
    refine CS.seq ?_
    refine CS.region ?_
    refine WS.det rfl rfl rfl ((by first | exact det_loadb0 (j := 0) rfl rfl tk23 | exact det_loadbN (j := 0) rfl rfl (by rfl) tk23 | exact det_loadwN rfl (by assumption) (by rfl) tk23 | exact det_loadbK (n := 2) (j := 0) rfl rfl rfl rfl tk23)) rfl ?_ -- r4.0 outright.go:216
    refine WS.det rfl rfl rfl (det_move rfl) rfl ?_ -- r4.1 outright.go:216
    refine WS.callF rfl rfl ent38 (fun u hu => Next_c _ _ _ _ _ u (hk.st hu)) (fun _ => rfl) ?_; rintro vn ⟨un, hvn⟩; have hvo : vn.oneCell' = true := (by obtain ⟨pn, capn, rfl⟩ := hvn.shape; rfl) -- r4.2 outright.go:216
    refine WS.det rfl rfl rfl (det_move rfl) rfl ?_ -- r4.3 outright.go:216
    refine WS.det rfl rfl rfl (det_extract rfl rfl) rfl ?_ -- r4.4 outright.go:216
    refine WS.det rfl rfl rfl (det_extract rfl rfl) rfl ?_ -- r4.5 outright.go:216
    refine WS.det rfl rfl rfl (det_extract rfl rfl) rfl ?_ -- r4.6 outright.go:216
    refine WS.det rfl rfl rfl (det_assign rfl) rfl ?_ -- r4.7 outright.go:216
    refine WS.det rfl rfl rfl (det_assign rfl) rfl ?_ -- r4.8 outright.go:216
    refine WS.det rfl rfl rfl (det_assign rfl) rfl ?_ -- r4.9 outright.go:216
    refine WS.done ?_
    refine QS.then_code ?_
    refine CS.seq ?_
    refine CS.seq ?_
    refine CS.region ?_
    refine WS.det rfl rfl rfl (det_move rfl) rfl ?_ -- r5.0 outright.go:217
    refine WS.det rfl rfl rfl (det_ne rfl rfl) rfl ?_ -- r5.1 outright.go:217
    refine WS.done ?_
    refine QS.then_code ?_
    refine CS.cond rfl (fun hc2 => ?_) (fun hc2 => ?_) <;> (try simp only [decide_eq_true_eq, decide_eq_false_iff_not, Bool.and_eq_true, Bool.or_eq_true, Bool.and_eq_false_iff, Bool.or_eq_false_iff, Bool.not_eq_true', Bool.not_eq_false', ne_eq, Decidable.not_not, Bool.not_true, Bool.not_false, bne_iff_ne, bne_eq_false_iff_eq, beq_iff_eq, beq_eq_false_iff_ne] at hc2)
    · skip
      have hno := nx_not hce hc2 (by omega)
      refine CS.seq ?_
      refine CS.region ?_
      refine WS.det rfl rfl rfl (det_move rfl) rfl ?_ -- r6.0 outright.go:218
      refine WS.det rfl rfl rfl (det_eq rfl rfl) rfl ?_ -- r6.1 outright.go:218
      refine WS.det rfl rfl rfl (det_move rfl) rfl ?_ -- r6.2 outright.go:218
      refine WS.guardT rfl rfl rfl rfl (fun hg => det_move rfl) rfl ?_ -- r6.3 outright.go:218
      refine WS.guardT rfl rfl rfl rfl (fun hg => det_eq (ev_cond hg rfl) rfl) rfl ?_ -- r6.4 outright.go:218
      refine WS.det rfl rfl rfl (det_pick_and rfl rfl rfl) rfl ?_ -- r6.5 outright.go:218
      refine WS.det rfl rfl rfl (det_move rfl) rfl ?_ -- r6.6 outright.go:218
      refine WS.guardT rfl rfl rfl rfl (fun hg => det_callB rfl rfl ent19 (fun u hu => works_c u)) rfl ?_ -- r6.7 outright.go:218
      refine WS.det rfl rfl rfl (det_pick_and rfl rfl rfl) rfl ?_ -- r6.8 outright.go:218
      refine WS.det rfl rfl rfl (det_assign rfl) rfl ?_ -- r6.9 outright.go:218
      refine WS.done ?_
      refine QS.then_code ?_
      refine CS.ret ?_
      refine QS.then_ret ?_
      exact out1 rfl rfl (retBe (by rw [hz0, hno.1, hno.2]; rfl)) -- ret 2
    · skip
      have hnx := nx_of hce hc2
      have hmem := nxG_mem hnx.1
      have hGb := (readL_mem hL hmem).1
      have hGf := (readL_mem hL hmem).2
      have hfe : fitsE lw ls cs (nxG lw ls cs) = 0 := by unfold fitsE; rw [if_pos hce, codeE_of hL hGb]
      have hw1 := wN_pos (x := nxG lw ls cs) hnx.1
      have hw2 := wN_lt hL hmem
      rw [if_pos hc2] at hvn
      refine CS.weak (L' := [roI vn (nxG lw ls cs), blk b3 [.int .i64 lw, .int .i64 ls] 23]) (fun u hu => by rw [if_pos hc2] at hu; exact hu) ?_
      refine CS.skip ?_
      refine QS.then_code ?_
      refine CS.seq ?_
      refine CS.region ?_
      refine WS.det rfl rfl rfl ((by first | exact det_loadb0 (j := 1) rfl rfl tk23 | exact det_loadbN (j := 1) rfl rfl (by rfl) tk23 | exact det_loadwN rfl (by assumption) (by rfl) tk23 | exact det_loadbK (n := 2) (j := 1) rfl rfl rfl rfl tk23)) rfl ?_ -- r7.0 outright.go:220
      refine WS.det rfl rfl rfl (det_move rfl) rfl ?_ -- r7.1 outright.go:220
      refine WS.det rfl rfl rfl (det_move rfl) rfl ?_ -- r7.2 outright.go:220
      refine WS.det rfl rfl rfl (det_callB rfl rfl ent21 (fun u hu => Fits_c _ _ _ _ _ _ _ u (hk.st hu) (hu.roI (j := 0) rfl))) rfl ?_ -- r7.3 outright.go:220
      refine WS.det rfl rfl rfl (det_move rfl) rfl ?_ -- r7.4 outright.go:220
      refine WS.det rfl rfl rfl (det_extract rfl rfl) rfl ?_ -- r7.5 outright.go:220
      refine WS.det rfl rfl rfl (det_extract rfl rfl) rfl ?_ -- r7.6 outright.go:220
      refine WS.det rfl rfl rfl (det_extract rfl rfl) rfl ?_ -- r7.7 outright.go:220
      refine WS.det rfl rfl rfl (det_assign rfl) rfl ?_ -- r7.8 outright.go:220
      refine WS.det rfl rfl rfl (det_assign rfl) rfl ?_ -- r7.9 outright.go:220
      refine WS.det rfl rfl rfl (det_assign rfl) rfl ?_ -- r7.10 outright.go:220
      refine WS.done ?_
      refine QS.then_code ?_
      refine CS.seq ?_
      refine CS.seq ?_
      refine CS.region ?_
      refine WS.det rfl rfl rfl (det_move rfl) rfl ?_ -- r8.0 outright.go:221
      refine WS.det rfl rfl rfl (det_ne rfl rfl) rfl ?_ -- r8.1 outright.go:221
      refine WS.det rfl rfl rfl (det_move rfl) rfl ?_ -- r8.2 outright.go:221
      refine WS.guardF rfl rfl rfl rfl (fun hg => det_move rfl) rfl ?_ -- r8.3 outright.go:221
      refine WS.guardF rfl rfl rfl rfl (fun hg => det_not (ev_cond hg rfl)) rfl ?_ -- r8.4 outright.go:221
      refine WS.det rfl rfl rfl (det_pick_or rfl rfl rfl) rfl ?_ -- r8.5 outright.go:221
      refine WS.det rfl rfl rfl (det_move rfl) rfl ?_ -- r8.6 outright.go:221
      refine WS.guardF rfl rfl rfl rfl (fun hg => det_move rfl) rfl ?_ -- r8.7 outright.go:221
      refine WS.guardF rfl rfl rfl rfl (fun hg => det_lt (ev_cond hg rfl) rfl) rfl ?_ -- r8.8 outright.go:221
      refine WS.det rfl rfl rfl (det_pick_or rfl rfl rfl) rfl ?_ -- r8.9 outright.go:221
      refine WS.det rfl rfl rfl (det_move rfl) rfl ?_ -- r8.10 outright.go:221
      refine WS.guardF rfl rfl rfl rfl (fun hg => det_move rfl) rfl ?_ -- r8.11 outright.go:221
      refine WS.guardF rfl rfl rfl rfl (fun hg => det_gt (ev_cond hg rfl) rfl) rfl ?_ -- r8.12 outright.go:221
      refine WS.guardF rfl rfl rfl rfl (fun hg => det_move (ev_cond hg rfl)) rfl ?_ -- r8.13 outright.go:221
      refine WS.guardN rfl rfl rfl rfl rfl (fun hg => det_move rfl) rfl ?_ -- r8.14 outright.go:221
      refine WS.guardN rfl rfl rfl rfl rfl (fun hg => det_move rfl) rfl ?_ -- r8.15 outright.go:221
      refine WS.guardN rfl rfl rfl rfl rfl (fun hg => det_ge (ev_cond hg rfl) (ev_cond hg rfl)) rfl ?_ -- r8.16 outright.go:221
      refine WS.guardF rfl rfl rfl rfl (fun hg => det_pick_and (ev_cond hg rfl) (ev_nestT hg rfl) rfl) rfl ?_ -- r8.17 outright.go:221
      refine WS.det rfl rfl rfl (det_pick_or rfl rfl rfl) rfl ?_ -- r8.18 outright.go:221
      refine WS.done ?_
      refine QS.then_code ?_
      refine CS.cond rfl (fun hc3 => ?_) (fun hc3 => ?_) <;> (try simp only [decide_eq_true_eq, decide_eq_false_iff_not, Bool.and_eq_true, Bool.or_eq_true, Bool.and_eq_false_iff, Bool.or_eq_false_iff, Bool.not_eq_true', Bool.not_eq_false', ne_eq, Decidable.not_not, Bool.not_true, Bool.not_false, bne_iff_ne, bne_eq_false_iff_eq, beq_iff_eq, beq_eq_false_iff_ne] at hc3)
      · skip
        exfalso
        have hz3 : (if fitsE lw ls cs (nxG lw ls cs) = 0 then decide (failsT cs (nxG lw ls cs) < 0) else false) = true := by rw [if_pos hfe]; simpa using hGf
        have hz4 : (if nxE lw ls cs = 0 then wN (readL lw ls cs) (nxG lw ls cs) else 0) = wN (readL lw ls cs) (nxG lw ls cs) := if_pos hc2
        rw [hz3, hz4, hz0, hfe] at hc3
        rcases hc3 with ((h | h) | h) | h
        · exact h rfl
        · cases h
        · omega
        · have := hw2 (by omega)
          omega
      · skip
        refine CS.skip ?_
        refine QS.then_code ?_
        refine CS.seq ?_
        refine CS.region ?_
        refine WS.det rfl rfl rfl ((by first | exact det_loadb0 (j := 1) rfl rfl tk23 | exact det_loadbN (j := 1) rfl rfl (by rfl) tk23 | exact det_loadwN rfl (by assumption) (by rfl) tk23 | exact det_loadbK (n := 2) (j := 1) rfl rfl rfl rfl tk23)) rfl ?_ -- r10.0 outright.go:224
        refine WS.det rfl rfl rfl (det_move rfl) rfl ?_ -- r10.1 outright.go:224
        refine WS.det rfl rfl rfl (det_move rfl) rfl ?_ -- r10.2 outright.go:224
        refine WS.det rfl rfl rfl (det_callB rfl rfl ent21 (fun u hu => Fits_c _ _ _ _ _ _ _ u (hk.st hu) (h2.st hu))) rfl ?_ -- r10.3 outright.go:224
        refine WS.det rfl rfl rfl (det_move rfl) rfl ?_ -- r10.4 outright.go:224
        refine WS.det rfl rfl rfl (det_extract rfl rfl) rfl ?_ -- r10.5 outright.go:224
        refine WS.det rfl rfl rfl (det_extract rfl rfl) rfl ?_ -- r10.6 outright.go:224
        refine WS.det rfl rfl rfl (det_extract rfl rfl) rfl ?_ -- r10.7 outright.go:224
        refine WS.det rfl rfl rfl (det_assign rfl) rfl ?_ -- r10.8 outright.go:224
        refine WS.det rfl rfl rfl (det_assign rfl) rfl ?_ -- r10.9 outright.go:224
        refine WS.done ?_
        refine QS.then_code ?_
        refine CS.seq ?_
        refine CS.seq ?_
        refine CS.region ?_
        refine WS.det rfl rfl rfl (det_move rfl) rfl ?_ -- r11.0 outright.go:225
        refine WS.det rfl rfl rfl (det_ne rfl rfl) rfl ?_ -- r11.1 outright.go:225
        refine WS.det rfl rfl rfl (det_move rfl) rfl ?_ -- r11.2 outright.go:225
        refine WS.guardF rfl rfl rfl rfl (fun hg => det_move rfl) rfl ?_ -- r11.3 outright.go:225
        refine WS.guardF rfl rfl rfl rfl (fun hg => det_not (ev_cond hg rfl)) rfl ?_ -- r11.4 outright.go:225
        refine WS.det rfl rfl rfl (det_pick_or rfl rfl rfl) rfl ?_ -- r11.5 outright.go:225
        refine WS.done ?_
        refine QS.then_code ?_
        refine CS.cond rfl (fun hc4 => ?_) (fun hc4 => ?_) <;> (try simp only [decide_eq_true_eq, decide_eq_false_iff_not, Bool.and_eq_true, Bool.or_eq_true, Bool.and_eq_false_iff, Bool.or_eq_false_iff, Bool.not_eq_true', Bool.not_eq_false', ne_eq, Decidable.not_not, Bool.not_true, Bool.not_false, bne_iff_ne, bne_eq_false_iff_eq, beq_iff_eq, beq_eq_false_iff_ne] at hc4)
        · skip
          refine CS.seq ?_
          refine CS.region ?_
          refine WS.det rfl rfl rfl (det_callB rfl rfl ent19 (fun u hu => works_c u)) rfl ?_ -- r12.0 outright.go:226
          refine WS.det rfl rfl rfl (det_assign rfl) rfl ?_ -- r12.1 outright.go:226
          refine WS.done ?_
          refine QS.then_code ?_
          refine CS.ret ?_
          refine QS.then_ret ?_
          exact out1 rfl rfl (retBe rfl) -- ret 3
        · skip
          have hxe : fitsE lw ls cs xs = 0 := hc4.1
          have hxb : codeB lw ls xs = true := by unfold fitsE at hxe; rw [if_pos hce] at hxe; exact codeE_code hxe
          have hxf : failsT cs xs < 0 := by have := hc4.2; rw [if_pos hxe] at this; simpa using this
          have hxm := (mem_readL (cs := cs) hL hxb).2 hxf
          have hse := cluesE_snoc hce (ansC_clue hL hGb hxb) (by omega)
          have hae : ansE lw ls xs (nxG lw ls cs) = 0 := ansE_0.2 ⟨hL, hxb, hGb⟩
          have hct := ansC_count (w := lw) (s := ls) (cs := cs) (nxG lw ls cs) xs
          have hc1p := cA_pos (x := nxG lw ls cs) hxm
          have hc2p := cA_le (x := nxG lw ls cs) hxm
          refine CS.skip ?_
          refine QS.then_code ?_
          refine CS.seq ?_
          refine CS.region ?_
          refine WS.det rfl rfl rfl ((by first | exact det_loadb0 (j := 1) rfl rfl tk23 | exact det_loadbN (j := 1) rfl rfl (by rfl) tk23 | exact det_loadwN rfl (by assumption) (by rfl) tk23 | exact det_loadbK (n := 2) (j := 1) rfl rfl rfl rfl tk23)) rfl ?_ -- r13.0 outright.go:228
          refine WS.det rfl rfl rfl (det_move rfl) rfl ?_ -- r13.1 outright.go:228
          refine WS.det rfl rfl rfl (det_move rfl) rfl ?_ -- r13.2 outright.go:228
          refine WS.det rfl rfl rfl (det_callB rfl rfl ent17 (fun u hu => Answer_c _ _ _ _ _ _ u (h2.st hu) (hu.roI (j := 0) rfl))) rfl ?_ -- r13.3 outright.go:228
          refine WS.det rfl rfl rfl (det_move rfl) rfl ?_ -- r13.4 outright.go:228
          refine WS.det rfl rfl rfl (det_extract rfl rfl) rfl ?_ -- r13.5 outright.go:228
          refine WS.det rfl rfl rfl (det_extract rfl rfl) rfl ?_ -- r13.6 outright.go:228
          refine WS.det rfl rfl rfl (det_extract rfl rfl) rfl ?_ -- r13.7 outright.go:228
          refine WS.det rfl rfl rfl (det_assign rfl) rfl ?_ -- r13.8 outright.go:228
          refine WS.det rfl rfl rfl (det_assign rfl) rfl ?_ -- r13.9 outright.go:228
          refine WS.det rfl rfl rfl (det_assign rfl) rfl ?_ -- r13.10 outright.go:228
          refine WS.done ?_
          refine QS.then_code ?_
          refine CS.cut (σ := Unit) [104, 105, 106, 107, 108, 109, 110, 111, 112, 113, 114, 115, 116] (fun s => [(16, .int .i64 (if cluesE lw ls (cs ++ [(ansC (nxG lw ls cs) xs)]) = 0 then ((readL lw ls (cs ++ [(ansC (nxG lw ls cs) xs)])).length : Int) else 0)), (17, .int .i64 (cluesE lw ls (cs ++ [(ansC (nxG lw ls cs) xs)])))]) (fun s => [roI vn (nxG lw ls cs), blk b3 [.int .i64 lw, .int .i64 ls] 23]) (fun s => True) (fun _ _ => rfl) ?_ ?_
          · skip
            refine CS.drawnAll (k := 15) mixed rfl rfl ?_
            refine AS.take 0 rfl (by kernel_rfl) (by kernel_rfl) (by kernel_rfl) rfl rfl ((by first | exact det_loadb0 (j := 1) rfl rfl tk23 | exact det_loadbN (j := 1) rfl rfl (by rfl) tk23 | exact det_loadwN rfl (by assumption) (by rfl) tk23 | exact det_loadbK (n := 2) (j := 1) rfl rfl rfl rfl tk23)) rfl rfl ?_ -- r14.0 outright.go:229
            refine AS.take 1 rfl (by kernel_rfl) (by kernel_rfl) (by kernel_rfl) rfl rfl (det_move rfl) rfl rfl ?_ -- r14.1 outright.go:229
            refine AS.take 3 rfl (by kernel_rfl) (by kernel_rfl) (by kernel_rfl) rfl rfl (det_move rfl) rfl rfl ?_ -- r14.3 outright.go:229
            refine AS.take 4 rfl (by kernel_rfl) (by kernel_rfl) (by kernel_rfl) rfl rfl (det_move rfl) rfl rfl ?_ -- r14.4 outright.go:229
            refine AS.take 5 rfl (by kernel_rfl) (by kernel_rfl) (by kernel_rfl) rfl rfl (det_move rfl) rfl rfl ?_ -- r14.5 outright.go:229
            refine AS.take 6 rfl (by kernel_rfl) (by kernel_rfl) (by kernel_rfl) rfl rfl ((det_build1 plc36 zv36 rfl rfl (by intro p hp; simp at hp; rcases hp with rfl | rfl | rfl | rfl <;> first | rfl | exact hvo))) rfl rfl ?_ -- r14.6 outright.go:229
            refine AS.two (i := 2) (j := 7) (by kernel_rfl) rfl rfl (by first | exact fun _ h => h | exact fun _ h => h.sub (by repeat first | exact List.Sublist.refl _ | apply List.Sublist.cons_cons | apply List.Sublist.cons)) rfl rfl ?_ ?_
            · skip
              refine WS.appendNil (news := clFlat cs gs) sl31 zv36 rfl (by decide) rfl rfl (fun u hu => (hk.st hu).sp) hal (by omega) (by omega) (fun _ => rfl) ?_; intro v107 hv107 -- r14.2 outright.go:229
              refine WS.done ?_
              refine QS.then_AS ?_
              refine AS.one (i := 7) (by kernel_rfl) rfl (by first | exact fun _ h => h | exact fun _ h => h.sub (by repeat first | exact List.Sublist.refl _ | apply List.Sublist.cons_cons | apply List.Sublist.cons)) rfl ?_
              refine WS.buildC1 sl31 zv36 (c := (ansC (nxG lw ls cs) xs)) (gv := vn) (by simp only [if_pos hae]; rfl) (fun _ => rfl) ?_; intro v112 -- r14.7 outright.go:229
              refine WS.done ?_
              refine QS.then_AS ?_
              refine AS.one (i := 8) (by kernel_rfl) rfl (by first | exact fun _ h => h | exact fun _ h => h.sub (by repeat first | exact List.Sublist.refl _ | apply List.Sublist.cons_cons | apply List.Sublist.cons)) rfl ?_
              refine WS.appendCl (j := 1) (jz := 0) sl31 zv36 rfl rfl rfl hk.len rfl rfl hvo (by omega) (by omega) (fun _ => rfl) (fun _ => rfl) ?_; intro v113 hv113 -- r14.8 outright.go:229
              refine WS.done ?_
              refine QS.then_AS ?_
              refine AS.one (i := 9) (by kernel_rfl) rfl (by first | exact fun _ h => h | exact fun _ h => h.sub (by repeat first | exact List.Sublist.refl _ | apply List.Sublist.cons_cons | apply List.Sublist.cons)) rfl ?_
              refine WS.det rfl rfl rfl (det_callB rfl rfl ent34 (fun u hu => Count_c _ _ _ _ _ u (ClS.snoc (c := (ansC (nxG lw ls cs) xs)) (hk.st hu) (hu.roI (j := 2) rfl) (osl_SlC hu (j := 1) rfl)))) rfl ?_ -- r14.9 outright.go:229
              refine WS.done ?_
              refine QS.then_AS ?_
              refine AS.take 10 rfl (by kernel_rfl) (by kernel_rfl) (by kernel_rfl) rfl rfl (det_move rfl) rfl rfl ?_ -- r14.10 outright.go:229
              refine AS.take 11 rfl (by kernel_rfl) (by kernel_rfl) (by kernel_rfl) rfl rfl (det_extract rfl rfl) rfl rfl ?_ -- r14.11 outright.go:229
              refine AS.take 12 rfl (by kernel_rfl) (by kernel_rfl) (by kernel_rfl) rfl rfl (det_extract rfl rfl) rfl rfl ?_ -- r14.12 outright.go:229
              refine AS.take 13 rfl (by kernel_rfl) (by kernel_rfl) (by kernel_rfl) rfl rfl (det_assign rfl) rfl rfl ?_ -- r14.13 outright.go:229
              refine AS.take 14 rfl (by kernel_rfl) (by kernel_rfl) (by kernel_rfl) rfl rfl (det_assign rfl) rfl rfl ?_ -- r14.14 outright.go:229
              refine AS.done (by kernel_rfl) (by first | exact fun _ h => h | exact fun _ h => h.sub (by repeat first | exact List.Sublist.refl _ | apply List.Sublist.cons_cons | apply List.Sublist.cons)) ?_
              refine QS.sel [2, 2] rfl ?_
              exact QS.head (()) rfl rfl trivial
            · skip
              refine WS.buildC1 sl31 zv36 (c := (ansC (nxG lw ls cs) xs)) (gv := vn) (by simp only [if_pos hae]; rfl) (fun _ => rfl) ?_; intro v112 -- r14.7 outright.go:229
              refine WS.done ?_
              refine QS.then_AS ?_
              refine AS.one (i := 2) (by kernel_rfl) rfl (by first | exact fun _ h => h | exact fun _ h => h.sub (by repeat first | exact List.Sublist.refl _ | apply List.Sublist.cons_cons | apply List.Sublist.cons)) rfl ?_
              refine WS.appendNil (news := clFlat cs gs) sl31 zv36 rfl (by decide) rfl rfl (fun u hu => (hk.st hu).sp) hal (by omega) (by omega) (fun _ => rfl) ?_; intro v107 hv107 -- r14.2 outright.go:229
              refine WS.done ?_
              refine QS.then_AS ?_
              refine AS.one (i := 8) (by kernel_rfl) rfl (by first | exact fun _ h => h | exact fun _ h => h.sub (by repeat first | exact List.Sublist.refl _ | apply List.Sublist.cons_cons | apply List.Sublist.cons)) rfl ?_
              refine WS.appendCl (j := 0) (jz := 1) sl31 zv36 rfl rfl rfl hk.len rfl rfl hvo (by omega) (by omega) (fun _ => rfl) (fun _ => rfl) ?_; intro v113 hv113 -- r14.8 outright.go:229
              refine WS.done ?_
              refine QS.then_AS ?_
              refine AS.one (i := 9) (by kernel_rfl) rfl (by first | exact fun _ h => h | exact fun _ h => h.sub (by repeat first | exact List.Sublist.refl _ | apply List.Sublist.cons_cons | apply List.Sublist.cons)) rfl ?_
              refine WS.det rfl rfl rfl (det_callB rfl rfl ent34 (fun u hu => Count_c _ _ _ _ _ u (ClS.snoc (c := (ansC (nxG lw ls cs) xs)) (hk.st hu) (hu.roI (j := 2) rfl) (osl_SlC hu (j := 0) rfl)))) rfl ?_ -- r14.9 outright.go:229
              refine WS.done ?_
              refine QS.then_AS ?_
              refine AS.take 10 rfl (by kernel_rfl) (by kernel_rfl) (by kernel_rfl) rfl rfl (det_move rfl) rfl rfl ?_ -- r14.10 outright.go:229
              refine AS.take 11 rfl (by kernel_rfl) (by kernel_rfl) (by kernel_rfl) rfl rfl (det_extract rfl rfl) rfl rfl ?_ -- r14.11 outright.go:229
              refine AS.take 12 rfl (by kernel_rfl) (by kernel_rfl) (by kernel_rfl) rfl rfl (det_extract rfl rfl) rfl rfl ?_ -- r14.12 outright.go:229
              refine AS.take 13 rfl (by kernel_rfl) (by kernel_rfl) (by kernel_rfl) rfl rfl (det_assign rfl) rfl rfl ?_ -- r14.13 outright.go:229
              refine AS.take 14 rfl (by kernel_rfl) (by kernel_rfl) (by kernel_rfl) rfl rfl (det_assign rfl) rfl rfl ?_ -- r14.14 outright.go:229
              refine AS.done (by kernel_rfl) (by first | exact fun _ h => h | exact fun _ h => h.sub (by repeat first | exact List.Sublist.refl _ | apply List.Sublist.cons_cons | apply List.Sublist.cons)) ?_
              refine QS.sel [2, 2] rfl ?_
              exact QS.head (()) rfl rfl trivial
          · intro s t hs
            refine CS.seq ?_
            refine CS.region ?_
            refine WS.det rfl rfl rfl (det_move rfl) rfl ?_ -- r15.0 outright.go:230
            refine WS.det rfl rfl rfl (det_eq rfl rfl) rfl ?_ -- r15.1 outright.go:230
            refine WS.det rfl rfl rfl (det_move rfl) rfl ?_ -- r15.2 outright.go:230
            refine WS.guardT rfl rfl rfl rfl (fun hg => det_move rfl) rfl ?_ -- r15.3 outright.go:230
            refine WS.guardT rfl rfl rfl rfl (fun hg => det_eq (ev_cond hg rfl) rfl) rfl ?_ -- r15.4 outright.go:230
            refine WS.det rfl rfl rfl (det_pick_and rfl rfl rfl) rfl ?_ -- r15.5 outright.go:230
            refine WS.det rfl rfl rfl (det_move rfl) rfl ?_ -- r15.6 outright.go:230
            refine WS.guardT rfl rfl rfl rfl (fun hg => det_move rfl) rfl ?_ -- r15.7 outright.go:230
            refine WS.guardT rfl rfl rfl rfl (fun hg => det_ge (ev_cond hg rfl) rfl) rfl ?_ -- r15.8 outright.go:230
            refine WS.det rfl rfl rfl (det_pick_and rfl rfl rfl) rfl ?_ -- r15.9 outright.go:230
            refine WS.det rfl rfl rfl (det_move rfl) rfl ?_ -- r15.10 outright.go:230
            refine WS.guardT rfl rfl rfl rfl (fun hg => det_move rfl) rfl ?_ -- r15.11 outright.go:230
            refine WS.guardT rfl rfl rfl rfl (fun hg => det_move rfl) rfl ?_ -- r15.12 outright.go:230
            refine WS.guardT rfl rfl rfl rfl (fun hg => det_le (ev_cond hg rfl) (ev_cond hg rfl)) rfl ?_ -- r15.13 outright.go:230
            refine WS.det rfl rfl rfl (det_pick_and rfl rfl rfl) rfl ?_ -- r15.14 outright.go:230
            refine WS.det rfl rfl rfl (det_move rfl) rfl ?_ -- r15.15 outright.go:230
            refine WS.guardT rfl rfl rfl rfl (fun hg => det_callB rfl rfl ent19 (fun u hu => works_c u)) rfl ?_ -- r15.16 outright.go:230
            refine WS.det rfl rfl rfl (det_pick_and rfl rfl rfl) rfl ?_ -- r15.17 outright.go:230
            refine WS.det rfl rfl rfl (det_assign rfl) rfl ?_ -- r15.18 outright.go:230
            refine WS.done ?_
            refine QS.then_code ?_
            refine CS.ret ?_
            exact out1 rfl rfl (retBe (by simp only [hae, hse, if_true, if_pos hc2, hct]; simp; omega)) -- ret 4

end Go.Proofs.Ytldagbcceefcdaa
