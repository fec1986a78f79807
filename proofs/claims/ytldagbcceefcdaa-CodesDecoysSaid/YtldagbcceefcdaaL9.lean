/- Contracts of functions, printed by a program of the prover (gen.py). -/
import Derived.Test.YtldagbcceefcdaaL8
namespace Go.Proofs.Ytldagbcceefcdaa
open Go.RowKit Go.Proofs
set_option maxRecDepth 100000
set_option linter.unusedVariables false
set_option linter.unusedSimpArgs false

set_option maxHeartbeats 1000000 in
theorem CodesDecoys_c (lw ls : Int) (cs : List Clue) (gs : List Value) (cv : Value) (w : World) (hk : ClS w cv cs gs) :
    Calls Try.prog 14 #[.agg #[.int .i64 lw, .int .i64 ls], cv] w (RetB w (.bool true)) := by
  have hkl := hk.le
  have hgl := hk.len
  have hal := clFlat_one (cs := cs) hk.one
  refine enter Try.func14 rfl rfl (Nat.le_of_ble_eq_true rfl) ?_
  refine CS.seq ?_
  refine CS.region ?_
  refine WS.box rfl rfl (fun _ => rfl) ?_; intro b2 hb2 -- r0.0 outright.go:113
  refine WS.det rfl rfl rfl (det_assign rfl) rfl ?_ -- r0.1 outright.go:113
  refine WS.done ?_
  refine QS.then_code ?_
  refine CS.seq ?_
  refine CS.seq ?_
  refine CS.region ?_
  refine WS.det rfl rfl rfl (det_move rfl) rfl ?_ -- r1.0 outright.go:114
  refine WS.det rfl rfl rfl ((by first | exact det_lenS sl31 rfl (by assumption) | exact det_lenS sl31 rfl (by first | exact SlL.sp (by assumption) | exact ClS.sp (by assumption)) | exact det_lenO sl31 rfl | exact det_lenV sl31 rfl ⟨_, _, rfl⟩)) rfl ?_ -- r1.1 outright.go:114
  refine WS.det rfl rfl rfl (det_gt rfl rfl) rfl ?_ -- r1.2 outright.go:114
  refine WS.done ?_
  refine QS.then_code ?_
  refine CS.cond rfl (fun hc1 => ?_) (fun hc1 => ?_) <;> (try simp only [decide_eq_true_eq, decide_eq_false_iff_not, Bool.and_eq_true, Bool.or_eq_true, Bool.and_eq_false_iff, Bool.or_eq_false_iff, Bool.not_eq_true', Bool.not_eq_false', ne_eq, Decidable.not_not, Bool.not_true, Bool.not_false, bne_iff_ne, bne_eq_false_iff_eq, beq_iff_eq, beq_eq_false_iff_ne] at hc1)
  · skip
    refine CS.seq ?_
    refine CS.region ?_
    refine WS.det rfl rfl rfl (det_callB rfl rfl ent19 (fun u hu => works_c u)) rfl ?_ -- r2.0 outright.go:115
    refine WS.det rfl rfl rfl (det_assign rfl) rfl ?_ -- r2.1 outright.go:115
    refine WS.done ?_
    refine QS.then_code ?_
    refine CS.ret ?_
    refine QS.then_ret ?_
    exact out1 rfl rfl (retBe rfl) -- ret 1
  · skip
    refine CS.skip ?_
    refine QS.then_code ?_
    refine CS.seq ?_
    refine CS.region ?_
    refine WS.det rfl rfl rfl ((by first | exact det_loadb0 (j := 0) rfl rfl tk23 | exact det_loadbN (j := 0) rfl rfl (by rfl) tk23 | exact det_loadwN rfl (by assumption) (by rfl) tk23 | exact det_loadbK (n := 2) (j := 0) rfl rfl rfl rfl tk23)) rfl ?_ -- r3.0 outright.go:117
    refine WS.det rfl rfl rfl (det_move rfl) rfl ?_ -- r3.1 outright.go:117
    refine WS.callF rfl rfl ent46 (fun u hu => Core_c _ _ _ _ _ u (hk.st hu)) (fun _ => rfl) ?_; rintro vk ⟨uk, hvk⟩ -- r3.2 outright.go:117
    refine WS.det rfl rfl rfl (det_move rfl) rfl ?_ -- r3.3 outright.go:117
    refine WS.det rfl rfl rfl (det_extract rfl rfl) rfl ?_ -- r3.4 outright.go:117
    refine WS.det rfl rfl rfl (det_extract rfl rfl) rfl ?_ -- r3.5 outright.go:117
    refine WS.det rfl rfl rfl (det_assign rfl) rfl ?_ -- r3.6 outright.go:117
    refine WS.det rfl rfl rfl (det_assign rfl) rfl ?_ -- r3.7 outright.go:117
    refine WS.done ?_
    refine QS.then_code ?_
    refine CS.seq ?_
    refine CS.region ?_
    refine WS.det rfl rfl rfl ((by first | exact det_loadb0 (j := 1) rfl rfl tk23 | exact det_loadbN (j := 1) rfl rfl (by rfl) tk23 | exact det_loadwN rfl (by assumption) (by rfl) tk23 | exact det_loadbK (n := 2) (j := 1) rfl rfl rfl rfl tk23)) rfl ?_ -- r4.0 outright.go:118
    refine WS.det rfl rfl rfl (det_move rfl) rfl ?_ -- r4.1 outright.go:118
    refine WS.callF rfl rfl ent44 (fun u hu => Idle_c _ _ _ _ _ u (hk.st hu)) (fun _ => rfl) ?_; rintro vi ⟨ui, hvi⟩ -- r4.2 outright.go:118
    refine WS.det rfl rfl rfl (det_move rfl) rfl ?_ -- r4.3 outright.go:118
    refine WS.det rfl rfl rfl (det_extract rfl rfl) rfl ?_ -- r4.4 outright.go:118
    refine WS.det rfl rfl rfl (det_extract rfl rfl) rfl ?_ -- r4.5 outright.go:118
    refine WS.det rfl rfl rfl (det_assign rfl) rfl ?_ -- r4.6 outright.go:118
    refine WS.det rfl rfl rfl (det_assign rfl) rfl ?_ -- r4.7 outright.go:118
    refine WS.done ?_
    refine QS.then_code ?_
    refine CS.seq ?_
    refine CS.region ?_
    refine WS.det rfl rfl rfl ((by first | exact det_loadb0 (j := 2) rfl rfl tk23 | exact det_loadbN (j := 2) rfl rfl (by rfl) tk23 | exact det_loadwN rfl (by assumption) (by rfl) tk23 | exact det_loadbK (n := 2) (j := 2) rfl rfl rfl rfl tk23)) rfl ?_ -- r5.0 outright.go:119
    refine WS.det rfl rfl rfl (det_move rfl) rfl ?_ -- r5.1 outright.go:119
    refine WS.det rfl rfl rfl (det_callB rfl rfl ent34 (fun u hu => Count_c _ _ _ _ _ u (hk.st hu))) rfl ?_ -- r5.2 outright.go:119
    refine WS.det rfl rfl rfl (det_move rfl) rfl ?_ -- r5.3 outright.go:119
    refine WS.det rfl rfl rfl (det_extract rfl rfl) rfl ?_ -- r5.4 outright.go:119
    refine WS.det rfl rfl rfl (det_extract rfl rfl) rfl ?_ -- r5.5 outright.go:119
    refine WS.det rfl rfl rfl (det_assign rfl) rfl ?_ -- r5.6 outright.go:119
    refine WS.det rfl rfl rfl (det_assign rfl) rfl ?_ -- r5.7 outright.go:119
    refine WS.done ?_
    refine QS.then_code ?_
    refine CS.seq ?_
    refine CS.seq ?_
    refine CS.region ?_
    refine WS.det rfl rfl rfl (det_move rfl) rfl ?_ -- r6.0 outright.go:120
    refine WS.det rfl rfl rfl (det_ne rfl rfl) rfl ?_ -- r6.1 outright.go:120
    refine WS.det rfl rfl rfl (det_move rfl) rfl ?_ -- r6.2 outright.go:120
    refine WS.guardF rfl rfl rfl rfl (fun hg => det_move rfl) rfl ?_ -- r6.3 outright.go:120
    refine WS.guardF rfl rfl rfl rfl (fun hg => det_ne (ev_cond hg rfl) rfl) rfl ?_ -- r6.4 outright.go:120
    refine WS.det rfl rfl rfl (det_pick_or rfl rfl rfl) rfl ?_ -- r6.5 outright.go:120
    refine WS.det rfl rfl rfl (det_move rfl) rfl ?_ -- r6.6 outright.go:120
    refine WS.guardF rfl rfl rfl rfl (fun hg => det_move rfl) rfl ?_ -- r6.7 outright.go:120
    refine WS.guardF rfl rfl rfl rfl (fun hg => det_ne (ev_cond hg rfl) rfl) rfl ?_ -- r6.8 outright.go:120
    refine WS.det rfl rfl rfl (det_pick_or rfl rfl rfl) rfl ?_ -- r6.9 outright.go:120
    refine WS.done ?_
    refine QS.then_code ?_
    refine CS.cond rfl (fun hc2 => ?_) (fun hc2 => ?_) <;> (try simp only [decide_eq_true_eq, decide_eq_false_iff_not, Bool.and_eq_true, Bool.or_eq_true, Bool.and_eq_false_iff, Bool.or_eq_false_iff, Bool.not_eq_true', Bool.not_eq_false', ne_eq, Decidable.not_not, Bool.not_true, Bool.not_false, bne_iff_ne, bne_eq_false_iff_eq, beq_iff_eq, beq_eq_false_iff_ne] at hc2)
    · skip
      refine CS.seq ?_
      refine CS.region ?_
      refine WS.det rfl rfl rfl (det_move rfl) rfl ?_ -- r7.0 outright.go:121
      refine WS.det rfl rfl rfl (det_move rfl) rfl ?_ -- r7.1 outright.go:121
      refine WS.det rfl rfl rfl (det_eq rfl rfl) rfl ?_ -- r7.2 outright.go:121
      refine WS.det rfl rfl rfl (det_move rfl) rfl ?_ -- r7.3 outright.go:121
      refine WS.guardT rfl rfl rfl rfl (fun hg => det_move rfl) rfl ?_ -- r7.4 outright.go:121
      refine WS.guardT rfl rfl rfl rfl (fun hg => det_move rfl) rfl ?_ -- r7.5 outright.go:121
      refine WS.guardT rfl rfl rfl rfl (fun hg => det_eq (ev_cond hg rfl) (ev_cond hg rfl)) rfl ?_ -- r7.6 outright.go:121
      refine WS.det rfl rfl rfl (det_pick_and rfl rfl rfl) rfl ?_ -- r7.7 outright.go:121
      refine WS.det rfl rfl rfl (det_move rfl) rfl ?_ -- r7.8 outright.go:121
      refine WS.guardT rfl rfl rfl rfl (fun hg => det_callB rfl rfl ent19 (fun u hu => works_c u)) rfl ?_ -- r7.9 outright.go:121
      refine WS.det rfl rfl rfl (det_pick_and rfl rfl rfl) rfl ?_ -- r7.10 outright.go:121
      refine WS.det rfl rfl rfl (det_assign rfl) rfl ?_ -- r7.11 outright.go:121
      refine WS.done ?_
      refine QS.then_code ?_
      refine CS.ret ?_
      refine QS.then_ret ?_
      exact out1 rfl rfl (retBe (by simp)) -- ret 2
    · skip
      have hce : cluesE lw ls cs = 0 := hc2.1.1
      have hL := cluesE_lock hce
      have hC := cluesE_clue hce
      have hz0 : (if cluesE lw ls cs = 0 then ((readL lw ls cs).length : Int) else 0) = (readL lw ls cs).length := if_pos hce
      have hrb := readL_le hL cs
      have hKlt := coreTo_lt lw ls cs cs.length
      have hKs := core_sorted (w := lw) (s := ls) (cs := cs) cs.length
      have hKl := coreTo_len lw ls cs cs.length
      have hKm : ((coreTo lw ls cs cs.length).map Int.ofNat).length = (coreTo lw ls cs cs.length).length := by simp
      rw [if_pos hce] at hvi hvk
      have hIl := idleTo_len lw ls cs cs.length
      have hkat : ∀ i : Int, 0 ≤ i → i < (coreTo lw ls cs cs.length).length → 0 ≤ nth ((coreTo lw ls cs cs.length).map Int.ofNat) i ∧ nth ((coreTo lw ls cs cs.length).map Int.ofNat) i < cs.length := fun i h0 h1 => by
        rw [ofNat_at _ h0 h1]
        have hlt : i.toNat < (coreTo lw ls cs cs.length).length := by omega
        have := hKlt _ (List.getElem_mem hlt)
        simp only [List.getD, List.getElem?_eq_getElem hlt, Option.getD_some]
        omega
      have hkinc : ∀ i : Int, 0 < i → i < (coreTo lw ls cs cs.length).length → nth ((coreTo lw ls cs cs.length).map Int.ofNat) (i - 1) < nth ((coreTo lw ls cs cs.length).map Int.ofNat) i := fun i h0 h1 => by
        rw [ofNat_at _ (by omega) (by omega), ofNat_at _ (by omega) (by omega)]
        have hlt : i.toNat < (coreTo lw ls cs cs.length).length := by omega
        have hlt2 : (i - 1).toNat < (coreTo lw ls cs cs.length).length := by omega
        rw [List.pairwise_iff_getElem] at hKs
        have := hKs (i - 1).toNat i.toNat hlt2 hlt (by omega)
        simp only [List.getD, List.getElem?_eq_getElem hlt, List.getElem?_eq_getElem hlt2, Option.getD_some]
        omega
      refine CS.weak (L' := [roI vi (idleTo lw ls cs cs.length), roI vk ((coreTo lw ls cs cs.length).map Int.ofNat), blk b2 [.int .i64 lw, .int .i64 ls] 23]) (fun u hu => by rw [if_pos hce, if_pos hce] at hu; exact hu) ?_
      refine CS.skip ?_
      refine QS.then_code ?_
      refine CS.seq ?_
      refine CS.seq ?_
      refine CS.region ?_
      refine WS.det rfl rfl rfl (det_assign rfl) rfl ?_ -- r8.0 outright.go:123
      refine WS.done ?_
      refine QS.then_code ?_
      refine CS.block ?_
      refine CS.loopM (σ := Int) [4, 12, 13, 14, 15, 66, 67, 68, 69, 70, 71, 72, 73, 74, 75, 76, 77, 78, 79, 80, 81, 82, 83, 84, 85, 86, 87, 88, 89, 90, 91, 92, 93, 94, 95, 96, 97, 98, 99, 100, 101, 102, 103, 104, 105, 106, 107, 108, 109, 110, 111, 112, 113, 114, 115, 116, 117, 118, 119, 120, 121, 122, 123, 124, 125, 126, 127, 128, 129, 130, 131, 132, 133, 134, 135, 136, 137, 138, 139, 140, 141] (fun s => [(11, .int .i64 s)]) (fun _ => _) (fun s => -1 ≤ s ∧ s ≤ (coreTo lw ls cs cs.length).length) (fun s => ((coreTo lw ls cs cs.length).length - s).toNat) (-1) (fun _ _ => rfl) rfl rfl ⟨by omega, by omega⟩ ?_
      intro r t hs
      obtain ⟨hr1, hr2⟩ := hs
      refine CS.seq ?_
      refine CS.seq ?_
      refine CS.region ?_
      refine WS.det rfl rfl rfl (det_move rfl) rfl ?_ -- r9.0 outright.go:123
      refine WS.det rfl rfl rfl (det_move rfl) rfl ?_ -- r9.1 outright.go:123
      refine WS.det rfl rfl rfl ((by first | exact det_lenS sl24 rfl (by assumption) | exact det_lenS sl24 rfl (by first | exact SlL.sp (by assumption) | exact ClS.sp (by assumption)) | exact det_lenO sl24 rfl | exact det_lenV sl24 rfl ⟨_, _, rfl⟩)) rfl ?_ -- r9.2 outright.go:123
      refine WS.det rfl rfl rfl (det_lt rfl rfl) rfl ?_ -- r9.3 outright.go:123
      refine WS.done ?_
      refine QS.then_code ?_
      refine CS.cond rfl (fun hc3 => ?_) (fun hc3 => ?_) <;> (try simp only [decide_eq_true_eq, decide_eq_false_iff_not, Bool.and_eq_true, Bool.or_eq_true, Bool.and_eq_false_iff, Bool.or_eq_false_iff, Bool.not_eq_true', Bool.not_eq_false', ne_eq, Decidable.not_not, Bool.not_true, Bool.not_false, bne_iff_ne, bne_eq_false_iff_eq, beq_iff_eq, beq_eq_false_iff_ne] at hc3)
      · skip
        refine CS.skip ?_
        refine QS.then_code ?_
        refine CS.seq ?_
        refine CS.block ?_
        refine CS.seq ?_
        refine CS.region ?_
        refine WS.det rfl rfl rfl (det_assign rfl) rfl ?_ -- r11.0 outright.go:124
        refine WS.done ?_
        refine QS.then_code ?_
        refine CS.seq ?_
        refine CS.seq ?_
        refine CS.region ?_
        refine WS.det rfl rfl rfl (det_assign rfl) rfl ?_ -- r12.0 outright.go:125
        refine WS.done ?_
        refine QS.then_code ?_
        refine CS.block ?_
        refine CS.weak (fun _ hu => hu.osl0 (e := 36) (size := 7)) ?_
        refine CS.loopM (σ := Int × Value) [4, 72, 73, 74, 75, 76, 77, 78, 79, 80, 81, 82, 83, 84, 85, 86, 87, 88, 89, 90, 91, 92, 93, 94, 95, 96, 97, 98, 99, 100, 101, 102, 103, 104, 105, 106, 107, 108, 109, 110, 111, 112, 113, 114, 115, 116, 117, 118, 119, 120] (fun s => [(12, s.2), (13, .int .i64 s.1)]) (fun s => [osl 36 7 s.2 (pickN cs (fewN (coreTo lw ls cs cs.length) r s.1.toNat)).length (clFlat (pickN cs (fewN (coreTo lw ls cs cs.length) r s.1.toNat)) (pickN gs (fewN (coreTo lw ls cs cs.length) r s.1.toNat))), roI vi (idleTo lw ls cs cs.length), roI vk ((coreTo lw ls cs cs.length).map Int.ofNat), blk b2 [.int .i64 lw, .int .i64 ls] 23]) (fun s => 0 ≤ s.1 ∧ s.1 ≤ (coreTo lw ls cs cs.length).length) (fun s => ((coreTo lw ls cs cs.length).length - s.1).toNat) (0, .slice none 0 0) (fun _ _ => rfl) rfl rfl ⟨by simp, by simp⟩ ?_
        intro q t hs
        obtain ⟨hq1, hq2⟩ := hs
        have hr3 : r < ((coreTo lw ls cs cs.length).length : Int) := by omega
        have hfl0 := fewN_len (K := (coreTo lw ls cs cs.length)) (skip := r) q.1.toNat
        refine CS.seq ?_
        refine CS.seq ?_
        refine CS.region ?_
        refine WS.det rfl rfl rfl (det_move rfl) rfl ?_ -- r13.0 outright.go:125
        refine WS.det rfl rfl rfl (det_move rfl) rfl ?_ -- r13.1 outright.go:125
        refine WS.det rfl rfl rfl ((by first | exact det_lenS sl24 rfl (by assumption) | exact det_lenS sl24 rfl (by first | exact SlL.sp (by assumption) | exact ClS.sp (by assumption)) | exact det_lenO sl24 rfl | exact det_lenV sl24 rfl ⟨_, _, rfl⟩)) rfl ?_ -- r13.2 outright.go:125
        refine WS.det rfl rfl rfl (det_lt rfl rfl) rfl ?_ -- r13.3 outright.go:125
        refine WS.done ?_
        refine QS.then_code ?_
        refine CS.cond rfl (fun hc4 => ?_) (fun hc4 => ?_) <;> (try simp only [decide_eq_true_eq, decide_eq_false_iff_not, Bool.and_eq_true, Bool.or_eq_true, Bool.and_eq_false_iff, Bool.or_eq_false_iff, Bool.not_eq_true', Bool.not_eq_false', ne_eq, Decidable.not_not, Bool.not_true, Bool.not_false, bne_iff_ne, bne_eq_false_iff_eq, beq_iff_eq, beq_eq_false_iff_ne] at hc4)
        · skip
          have hqk := hkat q.1 hq1 (by omega)
          refine CS.skip ?_
          refine QS.then_code ?_
          refine CS.seq ?_
          refine CS.block ?_
          refine CS.seq ?_
          refine CS.seq ?_
          refine CS.draw mixed (by kernel_rfl) (by kernel_rfl) ?_
          refine DS.det rfl rfl (det_move rfl) rfl ?_ -- r15.0 outright.go:126
          refine DS.det rfl rfl (det_move rfl) rfl ?_ -- r15.1 outright.go:126
          refine DS.det rfl rfl ((by first | exact det_idxI sl24 rfl rfl (by assumption) (by omega) (by omega) | exact det_idxO sl24 rfl rfl (by omega) (by omega))) rfl ?_ -- r15.2 outright.go:126
          refine DS.det rfl rfl ((by first | exact det_ldI rfl (by assumption) (by omega) tk3 | exact det_loadb (j := 0) rfl rfl rfl tk3 | exact det_loadb (j := 1) rfl rfl rfl tk3 | exact det_loadb (j := 2) rfl rfl rfl tk3 | exact det_loadb (j := 3) rfl rfl rfl tk3 | exact det_loadw rfl (by assumption) rfl tk3 | exact det_ldLI (j := 1) rfl rfl (by omega) (by omega) tk3 | exact det_ldLI (j := 2) rfl rfl (by omega) (by omega) tk3 | exact det_ldIR (j := 1) rfl rfl (by omega) tk3 | exact det_ldIR (j := 2) rfl rfl (by omega) tk3)) rfl ?_ -- r15.3 outright.go:126
          refine DS.det rfl rfl (det_lt rfl rfl) rfl ?_ -- r15.4 outright.go:126
          refine DS.det rfl rfl (det_move rfl) rfl ?_ -- r15.5 outright.go:126
          refine DS.guardF rfl rfl rfl (fun hg => det_move rfl) rfl ?_ -- r15.6 outright.go:126
          refine DS.guardF rfl rfl rfl (fun hg => det_move rfl) rfl ?_ -- r15.7 outright.go:126
          refine DS.guardF rfl rfl rfl (fun hg => (by first | exact det_idxI sl24 (ev_cond hg rfl) (ev_cond hg rfl) (by assumption) (by (try simp only [decide_eq_true_eq, decide_eq_false_iff_not, Bool.and_eq_true, Bool.or_eq_true, Bool.and_eq_false_iff, Bool.or_eq_false_iff, Bool.not_eq_true', Bool.not_eq_false', ne_eq, Decidable.not_not, Bool.not_true, Bool.not_false, bne_iff_ne, bne_eq_false_iff_eq, beq_iff_eq, beq_eq_false_iff_ne] at hg); omega) (by (try simp only [decide_eq_true_eq, decide_eq_false_iff_not, Bool.and_eq_true, Bool.or_eq_true, Bool.and_eq_false_iff, Bool.or_eq_false_iff, Bool.not_eq_true', Bool.not_eq_false', ne_eq, Decidable.not_not, Bool.not_true, Bool.not_false, bne_iff_ne, bne_eq_false_iff_eq, beq_iff_eq, beq_eq_false_iff_ne] at hg); omega) | exact det_idxO sl24 (ev_cond hg rfl) (ev_cond hg rfl) (by (try simp only [decide_eq_true_eq, decide_eq_false_iff_not, Bool.and_eq_true, Bool.or_eq_true, Bool.and_eq_false_iff, Bool.or_eq_false_iff, Bool.not_eq_true', Bool.not_eq_false', ne_eq, Decidable.not_not, Bool.not_true, Bool.not_false, bne_iff_ne, bne_eq_false_iff_eq, beq_iff_eq, beq_eq_false_iff_ne] at hg); omega) (by (try simp only [decide_eq_true_eq, decide_eq_false_iff_not, Bool.and_eq_true, Bool.or_eq_true, Bool.and_eq_false_iff, Bool.or_eq_false_iff, Bool.not_eq_true', Bool.not_eq_false', ne_eq, Decidable.not_not, Bool.not_true, Bool.not_false, bne_iff_ne, bne_eq_false_iff_eq, beq_iff_eq, beq_eq_false_iff_ne] at hg); omega))) rfl ?_ -- r15.8 outright.go:126
          refine DS.guardF rfl rfl rfl (fun hg => (by first | exact det_ldI (ev_cond hg rfl) (by assumption) (by (try simp only [decide_eq_true_eq, decide_eq_false_iff_not, Bool.and_eq_true, Bool.or_eq_true, Bool.and_eq_false_iff, Bool.or_eq_false_iff, Bool.not_eq_true', Bool.not_eq_false', ne_eq, Decidable.not_not, Bool.not_true, Bool.not_false, bne_iff_ne, bne_eq_false_iff_eq, beq_iff_eq, beq_eq_false_iff_ne] at hg); omega) tk3 | exact det_loadb (j := 0) (ev_cond hg rfl) rfl rfl tk3 | exact det_loadb (j := 1) (ev_cond hg rfl) rfl rfl tk3 | exact det_loadb (j := 2) (ev_cond hg rfl) rfl rfl tk3 | exact det_loadb (j := 3) (ev_cond hg rfl) rfl rfl tk3 | exact det_loadw (ev_cond hg rfl) (by assumption) rfl tk3 | exact det_ldLI (j := 1) (ev_cond hg rfl) rfl (by (try simp only [decide_eq_true_eq, decide_eq_false_iff_not, Bool.and_eq_true, Bool.or_eq_true, Bool.and_eq_false_iff, Bool.or_eq_false_iff, Bool.not_eq_true', Bool.not_eq_false', ne_eq, Decidable.not_not, Bool.not_true, Bool.not_false, bne_iff_ne, bne_eq_false_iff_eq, beq_iff_eq, beq_eq_false_iff_ne] at hg); omega) (by (try simp only [decide_eq_true_eq, decide_eq_false_iff_not, Bool.and_eq_true, Bool.or_eq_true, Bool.and_eq_false_iff, Bool.or_eq_false_iff, Bool.not_eq_true', Bool.not_eq_false', ne_eq, Decidable.not_not, Bool.not_true, Bool.not_false, bne_iff_ne, bne_eq_false_iff_eq, beq_iff_eq, beq_eq_false_iff_ne] at hg); omega) tk3 | exact det_ldLI (j := 2) (ev_cond hg rfl) rfl (by (try simp only [decide_eq_true_eq, decide_eq_false_iff_not, Bool.and_eq_true, Bool.or_eq_true, Bool.and_eq_false_iff, Bool.or_eq_false_iff, Bool.not_eq_true', Bool.not_eq_false', ne_eq, Decidable.not_not, Bool.not_true, Bool.not_false, bne_iff_ne, bne_eq_false_iff_eq, beq_iff_eq, beq_eq_false_iff_ne] at hg); omega) (by (try simp only [decide_eq_true_eq, decide_eq_false_iff_not, Bool.and_eq_true, Bool.or_eq_true, Bool.and_eq_false_iff, Bool.or_eq_false_iff, Bool.not_eq_true', Bool.not_eq_false', ne_eq, Decidable.not_not, Bool.not_true, Bool.not_false, bne_iff_ne, bne_eq_false_iff_eq, beq_iff_eq, beq_eq_false_iff_ne] at hg); omega) tk3 | exact det_ldIR (j := 1) (ev_cond hg rfl) rfl (by (try simp only [decide_eq_true_eq, decide_eq_false_iff_not, Bool.and_eq_true, Bool.or_eq_true, Bool.and_eq_false_iff, Bool.or_eq_false_iff, Bool.not_eq_true', Bool.not_eq_false', ne_eq, Decidable.not_not, Bool.not_true, Bool.not_false, bne_iff_ne, bne_eq_false_iff_eq, beq_iff_eq, beq_eq_false_iff_ne] at hg); omega) tk3 | exact det_ldIR (j := 2) (ev_cond hg rfl) rfl (by (try simp only [decide_eq_true_eq, decide_eq_false_iff_not, Bool.and_eq_true, Bool.or_eq_true, Bool.and_eq_false_iff, Bool.or_eq_false_iff, Bool.not_eq_true', Bool.not_eq_false', ne_eq, Decidable.not_not, Bool.not_true, Bool.not_false, bne_iff_ne, bne_eq_false_iff_eq, beq_iff_eq, beq_eq_false_iff_ne] at hg); omega) tk3)) rfl ?_ -- r15.9 outright.go:126
          refine DS.guardF rfl rfl rfl (fun hg => det_move rfl) rfl ?_ -- r15.10 outright.go:126
          refine DS.guardF rfl rfl rfl (fun hg => (by first | exact det_lenS sl31 (ev_cond hg rfl) (by assumption) | exact det_lenS sl31 (ev_cond hg rfl) (by first | exact SlL.sp (by assumption) | exact ClS.sp (by assumption)) | exact det_lenO sl31 (ev_cond hg rfl) | exact det_lenV sl31 (ev_cond hg rfl) ⟨_, _, rfl⟩)) rfl ?_ -- r15.11 outright.go:126
          refine DS.guardF rfl rfl rfl (fun hg => det_ge (ev_cond hg rfl) (ev_cond hg rfl)) rfl ?_ -- r15.12 outright.go:126
          refine DS.det rfl rfl (det_pick_or rfl rfl rfl) rfl ?_ -- r15.13 outright.go:126
          refine DS.det rfl rfl (det_move rfl) rfl ?_ -- r15.14 outright.go:126
          refine DS.guardF rfl rfl rfl (fun hg => det_move rfl) rfl ?_ -- r15.15 outright.go:126
          refine DS.guardF rfl rfl rfl (fun hg => det_gt (ev_cond hg rfl) rfl) rfl ?_ -- r15.16 outright.go:126
          refine DS.guardF rfl rfl rfl (fun hg => det_move (ev_cond hg rfl)) rfl ?_ -- r15.17 outright.go:126
          refine DS.guardN rfl rfl rfl rfl (fun hg => det_move rfl) rfl ?_ -- r15.18 outright.go:126
          refine DS.guardN rfl rfl rfl rfl (fun hg => det_move rfl) rfl ?_ -- r15.19 outright.go:126
          refine DS.guardN rfl rfl rfl rfl (fun hg => (by first | exact det_idxI sl24 (ev_cond hg rfl) (ev_cond hg rfl) (by assumption) (by (try simp only [decide_eq_true_eq, decide_eq_false_iff_not, Bool.and_eq_true, Bool.or_eq_true, Bool.and_eq_false_iff, Bool.or_eq_false_iff, Bool.not_eq_true', Bool.not_eq_false', ne_eq, Decidable.not_not, Bool.not_true, Bool.not_false, bne_iff_ne, bne_eq_false_iff_eq, beq_iff_eq, beq_eq_false_iff_ne] at hg); omega) (by (try simp only [decide_eq_true_eq, decide_eq_false_iff_not, Bool.and_eq_true, Bool.or_eq_true, Bool.and_eq_false_iff, Bool.or_eq_false_iff, Bool.not_eq_true', Bool.not_eq_false', ne_eq, Decidable.not_not, Bool.not_true, Bool.not_false, bne_iff_ne, bne_eq_false_iff_eq, beq_iff_eq, beq_eq_false_iff_ne] at hg); omega) | exact det_idxO sl24 (ev_cond hg rfl) (ev_cond hg rfl) (by (try simp only [decide_eq_true_eq, decide_eq_false_iff_not, Bool.and_eq_true, Bool.or_eq_true, Bool.and_eq_false_iff, Bool.or_eq_false_iff, Bool.not_eq_true', Bool.not_eq_false', ne_eq, Decidable.not_not, Bool.not_true, Bool.not_false, bne_iff_ne, bne_eq_false_iff_eq, beq_iff_eq, beq_eq_false_iff_ne] at hg); omega) (by (try simp only [decide_eq_true_eq, decide_eq_false_iff_not, Bool.and_eq_true, Bool.or_eq_true, Bool.and_eq_false_iff, Bool.or_eq_false_iff, Bool.not_eq_true', Bool.not_eq_false', ne_eq, Decidable.not_not, Bool.not_true, Bool.not_false, bne_iff_ne, bne_eq_false_iff_eq, beq_iff_eq, beq_eq_false_iff_ne] at hg); omega))) rfl ?_ -- r15.20 outright.go:126
          refine DS.guardN rfl rfl rfl rfl (fun hg => (by first | exact det_ldI (ev_cond hg rfl) (by assumption) (by (try simp only [decide_eq_true_eq, decide_eq_false_iff_not, Bool.and_eq_true, Bool.or_eq_true, Bool.and_eq_false_iff, Bool.or_eq_false_iff, Bool.not_eq_true', Bool.not_eq_false', ne_eq, Decidable.not_not, Bool.not_true, Bool.not_false, bne_iff_ne, bne_eq_false_iff_eq, beq_iff_eq, beq_eq_false_iff_ne] at hg); omega) tk3 | exact det_loadb (j := 0) (ev_cond hg rfl) rfl rfl tk3 | exact det_loadb (j := 1) (ev_cond hg rfl) rfl rfl tk3 | exact det_loadb (j := 2) (ev_cond hg rfl) rfl rfl tk3 | exact det_loadb (j := 3) (ev_cond hg rfl) rfl rfl tk3 | exact det_loadw (ev_cond hg rfl) (by assumption) rfl tk3 | exact det_ldLI (j := 1) (ev_cond hg rfl) rfl (by (try simp only [decide_eq_true_eq, decide_eq_false_iff_not, Bool.and_eq_true, Bool.or_eq_true, Bool.and_eq_false_iff, Bool.or_eq_false_iff, Bool.not_eq_true', Bool.not_eq_false', ne_eq, Decidable.not_not, Bool.not_true, Bool.not_false, bne_iff_ne, bne_eq_false_iff_eq, beq_iff_eq, beq_eq_false_iff_ne] at hg); omega) (by (try simp only [decide_eq_true_eq, decide_eq_false_iff_not, Bool.and_eq_true, Bool.or_eq_true, Bool.and_eq_false_iff, Bool.or_eq_false_iff, Bool.not_eq_true', Bool.not_eq_false', ne_eq, Decidable.not_not, Bool.not_true, Bool.not_false, bne_iff_ne, bne_eq_false_iff_eq, beq_iff_eq, beq_eq_false_iff_ne] at hg); omega) tk3 | exact det_ldLI (j := 2) (ev_cond hg rfl) rfl (by (try simp only [decide_eq_true_eq, decide_eq_false_iff_not, Bool.and_eq_true, Bool.or_eq_true, Bool.and_eq_false_iff, Bool.or_eq_false_iff, Bool.not_eq_true', Bool.not_eq_false', ne_eq, Decidable.not_not, Bool.not_true, Bool.not_false, bne_iff_ne, bne_eq_false_iff_eq, beq_iff_eq, beq_eq_false_iff_ne] at hg); omega) (by (try simp only [decide_eq_true_eq, decide_eq_false_iff_not, Bool.and_eq_true, Bool.or_eq_true, Bool.and_eq_false_iff, Bool.or_eq_false_iff, Bool.not_eq_true', Bool.not_eq_false', ne_eq, Decidable.not_not, Bool.not_true, Bool.not_false, bne_iff_ne, bne_eq_false_iff_eq, beq_iff_eq, beq_eq_false_iff_ne] at hg); omega) tk3 | exact det_ldIR (j := 1) (ev_cond hg rfl) rfl (by (try simp only [decide_eq_true_eq, decide_eq_false_iff_not, Bool.and_eq_true, Bool.or_eq_true, Bool.and_eq_false_iff, Bool.or_eq_false_iff, Bool.not_eq_true', Bool.not_eq_false', ne_eq, Decidable.not_not, Bool.not_true, Bool.not_false, bne_iff_ne, bne_eq_false_iff_eq, beq_iff_eq, beq_eq_false_iff_ne] at hg); omega) tk3 | exact det_ldIR (j := 2) (ev_cond hg rfl) rfl (by (try simp only [decide_eq_true_eq, decide_eq_false_iff_not, Bool.and_eq_true, Bool.or_eq_true, Bool.and_eq_false_iff, Bool.or_eq_false_iff, Bool.not_eq_true', Bool.not_eq_false', ne_eq, Decidable.not_not, Bool.not_true, Bool.not_false, bne_iff_ne, bne_eq_false_iff_eq, beq_iff_eq, beq_eq_false_iff_ne] at hg); omega) tk3)) rfl ?_ -- r15.21 outright.go:126
          refine DS.guardN rfl rfl rfl rfl (fun hg => det_move rfl) rfl ?_ -- r15.22 outright.go:126
          refine DS.guardN rfl rfl rfl rfl (fun hg => det_move rfl) rfl ?_ -- r15.23 outright.go:126
          refine DS.guardN rfl rfl rfl rfl (fun hg => det_sub (ev_cond hg rfl) rfl (by (try simp only [decide_eq_true_eq, decide_eq_false_iff_not, Bool.and_eq_true, Bool.or_eq_true, Bool.and_eq_false_iff, Bool.or_eq_false_iff, Bool.not_eq_true', Bool.not_eq_false', ne_eq, Decidable.not_not, Bool.not_true, Bool.not_false, bne_iff_ne, bne_eq_false_iff_eq, beq_iff_eq, beq_eq_false_iff_ne] at hg); omega)) rfl ?_ -- r15.24 outright.go:126
          refine DS.guardN rfl rfl rfl rfl (fun hg => (by first | exact det_idxI sl24 (ev_cond hg rfl) (ev_cond hg rfl) (by assumption) (by (try simp only [decide_eq_true_eq, decide_eq_false_iff_not, Bool.and_eq_true, Bool.or_eq_true, Bool.and_eq_false_iff, Bool.or_eq_false_iff, Bool.not_eq_true', Bool.not_eq_false', ne_eq, Decidable.not_not, Bool.not_true, Bool.not_false, bne_iff_ne, bne_eq_false_iff_eq, beq_iff_eq, beq_eq_false_iff_ne] at hg); omega) (by (try simp only [decide_eq_true_eq, decide_eq_false_iff_not, Bool.and_eq_true, Bool.or_eq_true, Bool.and_eq_false_iff, Bool.or_eq_false_iff, Bool.not_eq_true', Bool.not_eq_false', ne_eq, Decidable.not_not, Bool.not_true, Bool.not_false, bne_iff_ne, bne_eq_false_iff_eq, beq_iff_eq, beq_eq_false_iff_ne] at hg); omega) | exact det_idxO sl24 (ev_cond hg rfl) (ev_cond hg rfl) (by (try simp only [decide_eq_true_eq, decide_eq_false_iff_not, Bool.and_eq_true, Bool.or_eq_true, Bool.and_eq_false_iff, Bool.or_eq_false_iff, Bool.not_eq_true', Bool.not_eq_false', ne_eq, Decidable.not_not, Bool.not_true, Bool.not_false, bne_iff_ne, bne_eq_false_iff_eq, beq_iff_eq, beq_eq_false_iff_ne] at hg); omega) (by (try simp only [decide_eq_true_eq, decide_eq_false_iff_not, Bool.and_eq_true, Bool.or_eq_true, Bool.and_eq_false_iff, Bool.or_eq_false_iff, Bool.not_eq_true', Bool.not_eq_false', ne_eq, Decidable.not_not, Bool.not_true, Bool.not_false, bne_iff_ne, bne_eq_false_iff_eq, beq_iff_eq, beq_eq_false_iff_ne] at hg); omega))) rfl ?_ -- r15.25 outright.go:126
          refine DS.guardN rfl rfl rfl rfl (fun hg => (by first | exact det_ldI (ev_cond hg rfl) (by assumption) (by (try simp only [decide_eq_true_eq, decide_eq_false_iff_not, Bool.and_eq_true, Bool.or_eq_true, Bool.and_eq_false_iff, Bool.or_eq_false_iff, Bool.not_eq_true', Bool.not_eq_false', ne_eq, Decidable.not_not, Bool.not_true, Bool.not_false, bne_iff_ne, bne_eq_false_iff_eq, beq_iff_eq, beq_eq_false_iff_ne] at hg); omega) tk3 | exact det_loadb (j := 0) (ev_cond hg rfl) rfl rfl tk3 | exact det_loadb (j := 1) (ev_cond hg rfl) rfl rfl tk3 | exact det_loadb (j := 2) (ev_cond hg rfl) rfl rfl tk3 | exact det_loadb (j := 3) (ev_cond hg rfl) rfl rfl tk3 | exact det_loadw (ev_cond hg rfl) (by assumption) rfl tk3 | exact det_ldLI (j := 1) (ev_cond hg rfl) rfl (by (try simp only [decide_eq_true_eq, decide_eq_false_iff_not, Bool.and_eq_true, Bool.or_eq_true, Bool.and_eq_false_iff, Bool.or_eq_false_iff, Bool.not_eq_true', Bool.not_eq_false', ne_eq, Decidable.not_not, Bool.not_true, Bool.not_false, bne_iff_ne, bne_eq_false_iff_eq, beq_iff_eq, beq_eq_false_iff_ne] at hg); omega) (by (try simp only [decide_eq_true_eq, decide_eq_false_iff_not, Bool.and_eq_true, Bool.or_eq_true, Bool.and_eq_false_iff, Bool.or_eq_false_iff, Bool.not_eq_true', Bool.not_eq_false', ne_eq, Decidable.not_not, Bool.not_true, Bool.not_false, bne_iff_ne, bne_eq_false_iff_eq, beq_iff_eq, beq_eq_false_iff_ne] at hg); omega) tk3 | exact det_ldLI (j := 2) (ev_cond hg rfl) rfl (by (try simp only [decide_eq_true_eq, decide_eq_false_iff_not, Bool.and_eq_true, Bool.or_eq_true, Bool.and_eq_false_iff, Bool.or_eq_false_iff, Bool.not_eq_true', Bool.not_eq_false', ne_eq, Decidable.not_not, Bool.not_true, Bool.not_false, bne_iff_ne, bne_eq_false_iff_eq, beq_iff_eq, beq_eq_false_iff_ne] at hg); omega) (by (try simp only [decide_eq_true_eq, decide_eq_false_iff_not, Bool.and_eq_true, Bool.or_eq_true, Bool.and_eq_false_iff, Bool.or_eq_false_iff, Bool.not_eq_true', Bool.not_eq_false', ne_eq, Decidable.not_not, Bool.not_true, Bool.not_false, bne_iff_ne, bne_eq_false_iff_eq, beq_iff_eq, beq_eq_false_iff_ne] at hg); omega) tk3 | exact det_ldIR (j := 1) (ev_cond hg rfl) rfl (by (try simp only [decide_eq_true_eq, decide_eq_false_iff_not, Bool.and_eq_true, Bool.or_eq_true, Bool.and_eq_false_iff, Bool.or_eq_false_iff, Bool.not_eq_true', Bool.not_eq_false', ne_eq, Decidable.not_not, Bool.not_true, Bool.not_false, bne_iff_ne, bne_eq_false_iff_eq, beq_iff_eq, beq_eq_false_iff_ne] at hg); omega) tk3 | exact det_ldIR (j := 2) (ev_cond hg rfl) rfl (by (try simp only [decide_eq_true_eq, decide_eq_false_iff_not, Bool.and_eq_true, Bool.or_eq_true, Bool.and_eq_false_iff, Bool.or_eq_false_iff, Bool.not_eq_true', Bool.not_eq_false', ne_eq, Decidable.not_not, Bool.not_true, Bool.not_false, bne_iff_ne, bne_eq_false_iff_eq, beq_iff_eq, beq_eq_false_iff_ne] at hg); omega) tk3)) rfl ?_ -- r15.26 outright.go:126
          refine DS.guardN rfl rfl rfl rfl (fun hg => det_le (ev_cond hg rfl) (ev_cond hg rfl)) rfl ?_ -- r15.27 outright.go:126
          refine DS.guardF rfl rfl rfl (fun hg => det_pick_and (ev_cond hg rfl) (ev_nestT hg rfl) rfl) rfl ?_ -- r15.28 outright.go:126
          refine DS.det rfl rfl (det_pick_or rfl rfl rfl) rfl ?_ -- r15.29 outright.go:126
          refine DS.done ?_
          refine QS.then_code ?_
          refine CS.cond rfl (fun hc5 => ?_) (fun hc5 => ?_) <;> (try simp only [decide_eq_true_eq, decide_eq_false_iff_not, Bool.and_eq_true, Bool.or_eq_true, Bool.and_eq_false_iff, Bool.or_eq_false_iff, Bool.not_eq_true', Bool.not_eq_false', ne_eq, Decidable.not_not, Bool.not_true, Bool.not_false, bne_iff_ne, bne_eq_false_iff_eq, beq_iff_eq, beq_eq_false_iff_ne] at hc5)
          · skip
            exfalso
            rcases hc5 with (h | h) | h
            · omega
            · omega
            · have := hkinc q.1 h.1 (by omega)
              omega
          · skip
            refine CS.skip ?_
            refine QS.then_code ?_
            refine CS.seq ?_
            refine CS.region ?_
            refine WS.det rfl rfl rfl (det_move rfl) rfl ?_ -- r17.0 outright.go:129
            refine WS.det rfl rfl rfl (det_move rfl) rfl ?_ -- r17.1 outright.go:129
            refine WS.det rfl rfl rfl (det_ne rfl rfl) rfl ?_ -- r17.2 outright.go:129
            refine WS.done ?_
            refine QS.then_code ?_
            refine CS.cond rfl (fun hc6 => ?_) (fun hc6 => ?_) <;> (try simp only [decide_eq_true_eq, decide_eq_false_iff_not, Bool.and_eq_true, Bool.or_eq_true, Bool.and_eq_false_iff, Bool.or_eq_false_iff, Bool.not_eq_true', Bool.not_eq_false', ne_eq, Decidable.not_not, Bool.not_true, Bool.not_false, bne_iff_ne, bne_eq_false_iff_eq, beq_iff_eq, beq_eq_false_iff_ne] at hc6)
            · skip
              have hne : ¬ q.1 = r := hc6
              have hq3 : q.1 < ((coreTo lw ls cs cs.length).length : Int) := by omega
              have hqn := ofNat_at (coreTo lw ls cs cs.length) hq1 (show q.1 < ((coreTo lw ls cs cs.length).length : Int) by omega)
              have hg1 : (nth gs (nth ((coreTo lw ls cs cs.length).map Int.ofNat) q.1)).oneCell' = true := hk.one _ (nth_mem (by omega) (by omega))
              refine CS.region ?_
              refine WS.det rfl rfl rfl (det_move rfl) rfl ?_ -- r18.0 outright.go:130
              refine WS.det rfl rfl rfl (det_move rfl) rfl ?_ -- r18.1 outright.go:130
              refine WS.det rfl rfl rfl (det_move rfl) rfl ?_ -- r18.2 outright.go:130
              refine WS.det rfl rfl rfl (det_move rfl) rfl ?_ -- r18.3 outright.go:130
              refine WS.det rfl rfl rfl ((by first | exact det_idxI sl24 rfl rfl (by assumption) (by omega) (by omega) | exact det_idxO sl24 rfl rfl (by omega) (by omega))) rfl ?_ -- r18.4 outright.go:130
              refine WS.det rfl rfl rfl ((by first | exact det_ldI rfl (by assumption) (by omega) tk3 | exact det_loadb (j := 0) rfl rfl rfl tk3 | exact det_loadb (j := 1) rfl rfl rfl tk3 | exact det_loadb (j := 2) rfl rfl rfl tk3 | exact det_loadb (j := 3) rfl rfl rfl tk3 | exact det_loadw rfl (by assumption) rfl tk3 | exact det_ldLI (j := 1) rfl rfl (by omega) (by omega) tk3 | exact det_ldLI (j := 2) rfl rfl (by omega) (by omega) tk3 | exact det_ldIR (j := 1) rfl rfl (by omega) tk3 | exact det_ldIR (j := 2) rfl rfl (by omega) tk3)) rfl ?_ -- r18.5 outright.go:130
              refine WS.det rfl rfl rfl (det_idxCl sl31 rfl rfl (by assumption) (by omega) (by omega)) rfl ?_ -- r18.6 outright.go:130
              refine WS.det rfl rfl rfl ((by first | exact det_ldCl rfl (by assumption) (by omega) tk36 | exact det_loadb0 (j := 0) rfl rfl tk36 | exact det_loadb0 (j := 1) rfl rfl tk36 | exact det_loadb0 (j := 2) rfl rfl tk36 | exact det_loadb0 (j := 3) rfl rfl tk36 | exact det_loadbN (j := 0) rfl rfl (by rfl) tk36 | exact det_loadbN (j := 1) rfl rfl (by rfl) tk36 | exact det_loadbN (j := 2) rfl rfl (by rfl) tk36 | exact det_loadbN (j := 3) rfl rfl (by rfl) tk36 | exact det_loadwN rfl (by assumption) (by rfl) tk36 | exact det_loadbK (n := 7) (j := 0) rfl rfl rfl rfl tk36 | exact det_loadbK (n := 7) (j := 1) rfl rfl rfl rfl tk36 | exact det_loadbK (n := 7) (j := 2) rfl rfl rfl rfl tk36 | exact det_loadbK (n := 7) (j := 3) rfl rfl rfl rfl tk36)) rfl ?_ -- r18.7 outright.go:130
              refine WS.buildC1 sl31 zv36 (c := nth cs (nth ((coreTo lw ls cs cs.length).map Int.ofNat) q.1)) (gv := nth gs (nth ((coreTo lw ls cs cs.length).map Int.ofNat) q.1)) rfl (fun _ => rfl) ?_; intro v119 -- r18.8 outright.go:130
              refine WS.appendCl (j := 1) (jz := 0) sl31 zv36 rfl rfl rfl (by simp [pickN_len]) rfl rfl hg1 (by rw [pickN_len]; omega) (by rw [pickN_len]; omega) (fun _ => rfl) (fun _ => rfl) ?_; intro v120 hv120 -- r18.9 outright.go:130
              refine WS.det rfl rfl rfl (det_assign rfl) rfl ?_ -- r18.10 outright.go:130
              refine WS.done ?_
              refine QS.block_normal ?_
              refine QS.then_code ?_
              refine CS.region ?_
              refine WS.det rfl rfl rfl (det_move rfl) rfl ?_ -- r14.0 outright.go:125
              refine WS.det rfl rfl rfl (det_add rfl rfl (by omega)) rfl ?_ -- r14.1 outright.go:125
              refine WS.det rfl rfl rfl (det_assign rfl) rfl ?_ -- r14.2 outright.go:125
              refine WS.done ?_
              refine QS.sel [1, 1, 1, 1] rfl ?_
              exact QS.head ((q.1 + 1, v120)) rfl (by first | simp only [few_snoc hq1 hq3 hne] | simp only [fewN_no hq1 hc6]) ⟨⟨by simp; omega, by simp; omega⟩, by simp; omega⟩
            · skip
              refine CS.skip ?_
              refine QS.block_normal ?_
              refine QS.then_code ?_
              refine CS.region ?_
              refine WS.det rfl rfl rfl (det_move rfl) rfl ?_ -- r14.0 outright.go:125
              refine WS.det rfl rfl rfl (det_add rfl rfl (by omega)) rfl ?_ -- r14.1 outright.go:125
              refine WS.det rfl rfl rfl (det_assign rfl) rfl ?_ -- r14.2 outright.go:125
              refine WS.done ?_
              exact QS.head ((q.1 + 1, q.2)) rfl (by first | simp only [few_snoc hq1 hq3 hne] | simp only [fewN_no hq1 hc6]) ⟨⟨by simp; omega, by simp; omega⟩, by simp; omega⟩
        · skip
          have hqe : q.1.toNat = (coreTo lw ls cs cs.length).length := by omega
          rw [hqe]
          have hfk : ∀ k ∈ fewN (coreTo lw ls cs cs.length) r (coreTo lw ls cs cs.length).length, k < cs.length := fun k hk' => hKlt k (fewN_mem (Nat.le_refl _) hk')
          have hfl := fewN_len (K := (coreTo lw ls cs cs.length)) (skip := r) (coreTo lw ls cs cs.length).length
          have hfe := cluesE_pick hce hfk (by omega)
          have hfc := few_count (w := lw) (s := ls) (cs := cs) hr1 hr3
          have hz1 : (if cluesE lw ls (pickN cs (fewN (coreTo lw ls cs cs.length) r (coreTo lw ls cs cs.length).length)) = 0 then ((readL lw ls (pickN cs (fewN (coreTo lw ls cs cs.length) r (coreTo lw ls cs cs.length).length))).length : Int) else 0) = (readL lw ls (pickN cs (fewN (coreTo lw ls cs cs.length) r (coreTo lw ls cs cs.length).length))).length := if_pos hfe
          refine CS.leave ?_
          refine QS.then_exit ?_
          refine QS.then_exit ?_
          refine QS.block_exit ?_
          refine QS.then_code ?_
          refine CS.seq ?_
          refine CS.region ?_
          refine WS.det rfl rfl rfl ((by first | exact det_loadb0 (j := 3) rfl rfl tk23 | exact det_loadbN (j := 3) rfl rfl (by rfl) tk23 | exact det_loadwN rfl (by assumption) (by rfl) tk23 | exact det_loadbK (n := 2) (j := 3) rfl rfl rfl rfl tk23)) rfl ?_ -- r19.0 outright.go:133
          refine WS.det rfl rfl rfl (det_move rfl) rfl ?_ -- r19.1 outright.go:133
          refine WS.det rfl rfl rfl (det_callB rfl rfl ent34 (fun u hu => Count_c _ _ _ _ _ u ((hk.st hu).pick hfk (osl_SlC hu (j := 0) rfl)))) rfl ?_ -- r19.2 outright.go:133
          refine WS.det rfl rfl rfl (det_move rfl) rfl ?_ -- r19.3 outright.go:133
          refine WS.det rfl rfl rfl (det_extract rfl rfl) rfl ?_ -- r19.4 outright.go:133
          refine WS.det rfl rfl rfl (det_extract rfl rfl) rfl ?_ -- r19.5 outright.go:133
          refine WS.det rfl rfl rfl (det_assign rfl) rfl ?_ -- r19.6 outright.go:133
          refine WS.det rfl rfl rfl (det_assign rfl) rfl ?_ -- r19.7 outright.go:133
          refine WS.done ?_
          refine QS.then_code ?_
          refine CS.seq ?_
          refine CS.region ?_
          refine WS.det rfl rfl rfl (det_move rfl) rfl ?_ -- r20.0 outright.go:134
          refine WS.det rfl rfl rfl (det_ne rfl rfl) rfl ?_ -- r20.1 outright.go:134
          refine WS.det rfl rfl rfl (det_move rfl) rfl ?_ -- r20.2 outright.go:134
          refine WS.guardF rfl rfl rfl rfl (fun hg => det_move rfl) rfl ?_ -- r20.3 outright.go:134
          refine WS.guardF rfl rfl rfl rfl (fun hg => det_move rfl) rfl ?_ -- r20.4 outright.go:134
          refine WS.guardF rfl rfl rfl rfl (fun hg => det_eq (ev_cond hg rfl) (ev_cond hg rfl)) rfl ?_ -- r20.5 outright.go:134
          refine WS.guardF rfl rfl rfl rfl (fun hg => det_move rfl) rfl ?_ -- r20.6 outright.go:134
          refine WS.guardF rfl rfl rfl rfl (fun hg => det_lt (ev_cond hg rfl) rfl) rfl ?_ -- r20.7 outright.go:134
          refine WS.guardF rfl rfl rfl rfl (fun hg => det_neb (ev_cond hg rfl) (ev_cond hg rfl) Try.underlying4) rfl ?_ -- r20.8 outright.go:134
          refine WS.det rfl rfl rfl (det_pick_or rfl rfl rfl) rfl ?_ -- r20.9 outright.go:134
          refine WS.det rfl rfl rfl (det_move rfl) rfl ?_ -- r20.10 outright.go:134
          refine WS.guardF rfl rfl rfl rfl (fun hg => det_move rfl) rfl ?_ -- r20.11 outright.go:134
          refine WS.guardF rfl rfl rfl rfl (fun hg => det_move rfl) rfl ?_ -- r20.12 outright.go:134
          refine WS.guardF rfl rfl rfl rfl (fun hg => det_lt (ev_cond hg rfl) (ev_cond hg rfl)) rfl ?_ -- r20.13 outright.go:134
          refine WS.det rfl rfl rfl (det_pick_or rfl rfl rfl) rfl ?_ -- r20.14 outright.go:134
          refine WS.done ?_
          refine QS.then_code ?_
          refine CS.cond rfl (fun hc7 => ?_) (fun hc7 => ?_) <;> (try simp only [decide_eq_true_eq, decide_eq_false_iff_not, Bool.and_eq_true, Bool.or_eq_true, Bool.and_eq_false_iff, Bool.or_eq_false_iff, Bool.not_eq_true', Bool.not_eq_false', ne_eq, Decidable.not_not, Bool.not_true, Bool.not_false, bne_iff_ne, bne_eq_false_iff_eq, beq_iff_eq, beq_eq_false_iff_ne] at hc7)
          · skip
            exfalso
            rw [hz1, hz0] at hc7
            rcases hc7 with (h | h) | h
            · exact h hfe
            · by_cases hr : r < 0
              · rw [decide_eq_true hr, decide_eq_true (hfc.1.2 hr)] at h; exact h rfl
              · rw [decide_eq_false hr, decide_eq_false (fun e => hr (hfc.1.1 e))] at h; exact h rfl
            · omega
          · skip
            refine CS.skip ?_
            refine QS.block_normal ?_
            refine QS.then_code ?_
            refine CS.region ?_
            refine WS.det rfl rfl rfl (det_move rfl) rfl ?_ -- r10.0 outright.go:123
            refine WS.det rfl rfl rfl (det_add rfl rfl (by omega)) rfl ?_ -- r10.1 outright.go:123
            refine WS.det rfl rfl rfl (det_assign rfl) rfl ?_ -- r10.2 outright.go:123
            refine WS.done ?_
            refine QS.sel [1, 1, 1] rfl ?_
            exact QS.head (r + 1) rfl rfl ⟨⟨by omega, by omega⟩, by omega⟩
      · skip
        refine CS.leave ?_
        refine QS.then_exit ?_
        refine QS.then_exit ?_
        refine QS.block_exit ?_
        refine QS.then_code ?_
        refine CS.seq ?_
        refine CS.region ?_
        refine WS.det rfl rfl rfl (det_assign rfl) rfl ?_ -- r22.0 outright.go:138
        refine WS.done ?_
        refine QS.then_code ?_
        refine CS.seq ?_
        refine CS.seq ?_
        refine CS.region ?_
        refine WS.det rfl rfl rfl (det_assign rfl) rfl ?_ -- r23.0 outright.go:139
        refine WS.done ?_
        refine QS.then_code ?_
        refine CS.block ?_
        refine CS.loopM (σ := Int × Int) [4, 18, 19, 20, 21, 22, 142, 143, 144, 145, 146, 147, 148, 149, 150, 151, 152, 153, 154, 155, 156, 157, 158, 159, 160, 161, 162, 163, 164, 165, 166, 167, 168, 169, 170, 171, 172, 173, 174, 175, 176, 177, 178, 179, 180, 181, 182, 183, 184, 185, 186, 187, 188, 189] (fun s => [(16, .int .i64 s.1), (17, .int .i64 s.2)]) (fun _ => _) (fun s => 0 ≤ s.2 ∧ s.2 ≤ cs.length ∧ s.1 = (idleTo lw ls cs s.2.toNat).length) (fun s => (cs.length - s.2).toNat) (0, 0) (fun _ _ => rfl) rfl rfl ⟨by simp, by simp, by simp [idleTo]⟩ ?_
        intro z t hs
        obtain ⟨hz1', hz2', hz3'⟩ := hs
        have hztl := idleTo_len lw ls cs z.2.toNat
        refine CS.seq ?_
        refine CS.seq ?_
        refine CS.region ?_
        refine WS.det rfl rfl rfl (det_move rfl) rfl ?_ -- r24.0 outright.go:139
        refine WS.det rfl rfl rfl (det_move rfl) rfl ?_ -- r24.1 outright.go:139
        refine WS.det rfl rfl rfl ((by first | exact det_lenS sl31 rfl (by assumption) | exact det_lenS sl31 rfl (by first | exact SlL.sp (by assumption) | exact ClS.sp (by assumption)) | exact det_lenO sl31 rfl | exact det_lenV sl31 rfl ⟨_, _, rfl⟩)) rfl ?_ -- r24.2 outright.go:139
        refine WS.det rfl rfl rfl (det_lt rfl rfl) rfl ?_ -- r24.3 outright.go:139
        refine WS.done ?_
        refine QS.then_code ?_
        refine CS.cond rfl (fun hc8 => ?_) (fun hc8 => ?_) <;> (try simp only [decide_eq_true_eq, decide_eq_false_iff_not, Bool.and_eq_true, Bool.or_eq_true, Bool.and_eq_false_iff, Bool.or_eq_false_iff, Bool.not_eq_true', Bool.not_eq_false', ne_eq, Decidable.not_not, Bool.not_true, Bool.not_false, bne_iff_ne, bne_eq_false_iff_eq, beq_iff_eq, beq_eq_false_iff_ne] at hc8)
        · skip
          have hin : z.2.toNat < cs.length := by omega
          have hze : (z.2 + 1).toNat = z.2.toNat + 1 := by omega
          have hid := idle_at (w := lw) (s := ls) (cs := cs) hin
          rw [← hz3', show ((z.2.toNat : Nat) : Int) = z.2 by omega] at hid
          have hii := idle_iff (w := lw) (s := ls) (cs := cs) hin
          have hil : (cs.eraseIdx z.2.toNat).length ≤ cs.length := List.length_eraseIdx_le _ _
          have hep := era_pick cs z.2.toNat
          have hece : cluesE lw ls (cs.eraseIdx z.2.toNat) = 0 := by
            rw [hep]
            refine cluesE_pick hce range_era_lt ?_
            have := List.length_eraseIdx_le (List.range cs.length) z.2.toNat
            simp at this
            omega
          have hcc : clueE lw ls (nth cs z.2) = 0 := by simp [clueE, hL, hC _ (nth_mem (xs := cs) hz1' (by omega))]
          have hie : impE lw ls (cs.eraseIdx z.2.toNat) (nth cs z.2) = 0 := by simp [impE, hece, hcc]
          refine CS.skip ?_
          refine QS.then_code ?_
          refine CS.seq ?_
          refine CS.block ?_
          refine CS.seq ?_
          refine CS.drawnAll (k := 10) mixed rfl rfl ?_
          refine AS.take 0 rfl (by kernel_rfl) (by kernel_rfl) (by kernel_rfl) rfl rfl (det_move rfl) rfl rfl ?_ -- r26.0 outright.go:140
          refine AS.take 1 rfl (by kernel_rfl) (by kernel_rfl) (by kernel_rfl) rfl rfl (det_move rfl) rfl rfl ?_ -- r26.1 outright.go:140
          refine AS.take 2 rfl (by kernel_rfl) (by kernel_rfl) (by kernel_rfl) rfl rfl (det_slTo sl31 rfl rfl (by first | assumption | exact SlL.sp (by assumption) | exact ClS.sp (by assumption)) (by omega) (by omega)) rfl rfl ?_ -- r26.2 outright.go:140
          refine AS.take 4 rfl (by kernel_rfl) (by kernel_rfl) (by kernel_rfl) rfl rfl (det_move rfl) rfl rfl ?_ -- r26.4 outright.go:140
          refine AS.take 5 rfl (by kernel_rfl) (by kernel_rfl) (by kernel_rfl) rfl rfl (det_move rfl) rfl rfl ?_ -- r26.5 outright.go:140
          refine AS.take 6 rfl (by kernel_rfl) (by kernel_rfl) (by kernel_rfl) rfl rfl (det_add rfl rfl (by omega)) rfl rfl ?_ -- r26.6 outright.go:140
          refine AS.take 7 rfl (by kernel_rfl) (by kernel_rfl) (by kernel_rfl) rfl rfl (det_slFrom sl31 rfl rfl (by first | assumption | exact SlL.sp (by assumption) | exact ClS.sp (by assumption)) (by omega) (by omega)) rfl rfl ?_ -- r26.7 outright.go:140
          refine AS.one (i := 3) (by kernel_rfl) rfl (by first | exact fun _ h => h | exact fun _ h => h.sub (by repeat first | exact List.Sublist.refl _ | apply List.Sublist.cons_cons | apply List.Sublist.cons)) rfl ?_
          refine WS.appendNil (news := clFlat ((cs.drop 0).take (z.2.toNat - 0)) ((gs.drop 0).take (z.2.toNat - 0))) (n := ((cs.drop 0).take (z.2.toNat - 0)).length) sl31 zv36 rfl (by decide) rfl rfl (fun u hu => ((hk.st hu).sub2 (lo := 0) (hi := z.2.toNat) (by omega) (by omega)).sp) (clFlat_one fun g hg => hk.one g (List.mem_of_mem_drop (List.mem_of_mem_take hg))) (by simp; omega) (by simp; omega) (fun _ => rfl) ?_; intro v151 hv151 -- r26.3 outright.go:140
          refine WS.done ?_
          refine QS.then_AS ?_
          refine AS.one (i := 8) (by kernel_rfl) rfl (by first | exact fun _ h => h | exact fun _ h => h.sub (by repeat first | exact List.Sublist.refl _ | apply List.Sublist.cons_cons | apply List.Sublist.cons)) rfl ?_
          refine WS.appendCls (j := 0) (A := (cs.drop 0).take (z.2.toNat - 0)) (GA := (gs.drop 0).take (z.2.toNat - 0)) (B := (cs.drop (z.2.toNat + 1)).take (cs.length - (z.2.toNat + 1))) (GB := (gs.drop (z.2.toNat + 1)).take (cs.length - (z.2.toNat + 1))) sl31 zv36 rfl rfl rfl (by simp [hgl]) rfl (fun u hu => by rw [hze]; exact (hk.st hu).sub2 (lo := z.2.toNat + 1) (hi := cs.length) (by omega) (by omega)) (fun g hg => hk.one g (List.mem_of_mem_drop (List.mem_of_mem_take hg))) (R := cs.eraseIdx z.2.toNat) (RG := gs.eraseIdx z.2.toNat) (era_parts cs hin) (by have := era_parts gs (i := z.2.toNat) (by omega); rw [hgl] at this; exact this) (by simp only [List.length_take, List.length_drop]; omega) (by simp only [List.length_take, List.length_drop]; omega) (fun _ => rfl) (fun _ => rfl) ?_; intro v156 hv156 -- r26.8 outright.go:140
          refine WS.done ?_
          refine QS.then_AS ?_
          refine AS.take 9 rfl (by kernel_rfl) (by kernel_rfl) (by kernel_rfl) rfl rfl (det_assign rfl) rfl rfl ?_ -- r26.9 outright.go:140
          refine AS.done (by kernel_rfl) (by first | exact fun _ h => h | exact fun _ h => h.sub (by repeat first | exact List.Sublist.refl _ | apply List.Sublist.cons_cons | apply List.Sublist.cons)) ?_
          refine QS.then_code ?_
          refine CS.seq ?_
          refine CS.drawnAll (k := 14) mixed rfl rfl ?_
          refine AS.take 0 rfl (by kernel_rfl) (by kernel_rfl) (by kernel_rfl) rfl rfl ((by first | exact det_loadb0 (j := 3) rfl rfl tk23 | exact det_loadbN (j := 3) rfl rfl (by rfl) tk23 | exact det_loadwN rfl (by assumption) (by rfl) tk23 | exact det_loadbK (n := 2) (j := 3) rfl rfl rfl rfl tk23)) rfl rfl ?_ -- r27.0 outright.go:141
          refine AS.take 1 rfl (by kernel_rfl) (by kernel_rfl) (by kernel_rfl) rfl rfl (det_move rfl) rfl rfl ?_ -- r27.1 outright.go:141
          refine AS.take 2 rfl (by kernel_rfl) (by kernel_rfl) (by kernel_rfl) rfl rfl (det_move rfl) rfl rfl ?_ -- r27.2 outright.go:141
          refine AS.take 3 rfl (by kernel_rfl) (by kernel_rfl) (by kernel_rfl) rfl rfl (det_move rfl) rfl rfl ?_ -- r27.3 outright.go:141
          refine AS.take 4 rfl (by kernel_rfl) (by kernel_rfl) (by kernel_rfl) rfl rfl (det_idxCl sl31 rfl rfl (by assumption) (by omega) (by omega)) rfl rfl ?_ -- r27.4 outright.go:141
          refine AS.take 5 rfl (by kernel_rfl) (by kernel_rfl) (by kernel_rfl) rfl rfl ((by first | exact det_ldCl rfl (by assumption) (by omega) tk36 | exact det_loadb0 (j := 0) rfl rfl tk36 | exact det_loadb0 (j := 1) rfl rfl tk36 | exact det_loadb0 (j := 2) rfl rfl tk36 | exact det_loadb0 (j := 3) rfl rfl tk36 | exact det_loadbN (j := 0) rfl rfl (by rfl) tk36 | exact det_loadbN (j := 1) rfl rfl (by rfl) tk36 | exact det_loadbN (j := 2) rfl rfl (by rfl) tk36 | exact det_loadbN (j := 3) rfl rfl (by rfl) tk36 | exact det_loadwN rfl (by assumption) (by rfl) tk36 | exact det_loadbK (n := 7) (j := 0) rfl rfl rfl rfl tk36 | exact det_loadbK (n := 7) (j := 1) rfl rfl rfl rfl tk36 | exact det_loadbK (n := 7) (j := 2) rfl rfl rfl rfl tk36 | exact det_loadbK (n := 7) (j := 3) rfl rfl rfl rfl tk36)) rfl rfl ?_ -- r27.5 outright.go:141
          refine AS.one (i := 6) (by kernel_rfl) rfl (by first | exact fun _ h => h | exact fun _ h => h.sub (by repeat first | exact List.Sublist.refl _ | apply List.Sublist.cons_cons | apply List.Sublist.cons)) rfl ?_
          refine WS.callF rfl rfl ent31 (fun u hu => Implies_c _ _ _ _ _ _ _ u ((hk.st hu).era (osl_SlC hu (j := 0) rfl)) ((hk.st hu).el z.2 hz1' (by omega))) (fun _ => rfl) ?_; rintro vm ⟨um, hvm⟩ -- r27.6 outright.go:141
          refine WS.done ?_
          refine QS.then_AS ?_
          refine AS.take 7 rfl (by kernel_rfl) (by kernel_rfl) (by kernel_rfl) rfl rfl (det_move rfl) rfl rfl ?_ -- r27.7 outright.go:141
          refine AS.take 8 rfl (by kernel_rfl) (by kernel_rfl) (by kernel_rfl) rfl rfl (det_extract rfl rfl) rfl rfl ?_ -- r27.8 outright.go:141
          refine AS.take 9 rfl (by kernel_rfl) (by kernel_rfl) (by kernel_rfl) rfl rfl (det_extract rfl rfl) rfl rfl ?_ -- r27.9 outright.go:141
          refine AS.take 10 rfl (by kernel_rfl) (by kernel_rfl) (by kernel_rfl) rfl rfl (det_extract rfl rfl) rfl rfl ?_ -- r27.10 outright.go:141
          refine AS.take 11 rfl (by kernel_rfl) (by kernel_rfl) (by kernel_rfl) rfl rfl (det_assign rfl) rfl rfl ?_ -- r27.11 outright.go:141
          refine AS.take 12 rfl (by kernel_rfl) (by kernel_rfl) (by kernel_rfl) rfl rfl (det_assign rfl) rfl rfl ?_ -- r27.12 outright.go:141
          refine AS.take 13 rfl (by kernel_rfl) (by kernel_rfl) (by kernel_rfl) rfl rfl (det_assign rfl) rfl rfl ?_ -- r27.13 outright.go:141
          refine AS.done (by kernel_rfl) (by first | exact fun _ h => h | exact fun _ h => h.sub (by repeat first | exact List.Sublist.refl _ | apply List.Sublist.cons_cons | apply List.Sublist.cons)) ?_
          refine QS.then_code ?_
          refine CS.seq ?_
          refine CS.region ?_
          refine WS.det rfl rfl rfl (det_move rfl) rfl ?_ -- r28.0 outright.go:142
          refine WS.det rfl rfl rfl (det_move rfl) rfl ?_ -- r28.1 outright.go:142
          refine WS.det rfl rfl rfl ((by first | exact det_lenS sl24 rfl (by assumption) | exact det_lenS sl24 rfl (by first | exact SlL.sp (by assumption) | exact ClS.sp (by assumption)) | exact det_lenO sl24 rfl | exact det_lenV sl24 rfl ⟨_, _, rfl⟩)) rfl ?_ -- r28.2 outright.go:142
          refine WS.det rfl rfl rfl (det_lt rfl rfl) rfl ?_ -- r28.3 outright.go:142
          refine WS.det rfl rfl rfl (det_move rfl) rfl ?_ -- r28.4 outright.go:142
          refine WS.guardT rfl rfl rfl rfl (fun hg => det_move rfl) rfl ?_ -- r28.5 outright.go:142
          refine WS.guardT rfl rfl rfl rfl (fun hg => det_move rfl) rfl ?_ -- r28.6 outright.go:142
          refine WS.guardT rfl rfl rfl rfl (fun hg => (by first | exact det_idxI sl24 (ev_cond hg rfl) (ev_cond hg rfl) (by assumption) (by (try simp only [decide_eq_true_eq, decide_eq_false_iff_not, Bool.and_eq_true, Bool.or_eq_true, Bool.and_eq_false_iff, Bool.or_eq_false_iff, Bool.not_eq_true', Bool.not_eq_false', ne_eq, Decidable.not_not, Bool.not_true, Bool.not_false, bne_iff_ne, bne_eq_false_iff_eq, beq_iff_eq, beq_eq_false_iff_ne] at hg); omega) (by (try simp only [decide_eq_true_eq, decide_eq_false_iff_not, Bool.and_eq_true, Bool.or_eq_true, Bool.and_eq_false_iff, Bool.or_eq_false_iff, Bool.not_eq_true', Bool.not_eq_false', ne_eq, Decidable.not_not, Bool.not_true, Bool.not_false, bne_iff_ne, bne_eq_false_iff_eq, beq_iff_eq, beq_eq_false_iff_ne] at hg); omega) | exact det_idxO sl24 (ev_cond hg rfl) (ev_cond hg rfl) (by (try simp only [decide_eq_true_eq, decide_eq_false_iff_not, Bool.and_eq_true, Bool.or_eq_true, Bool.and_eq_false_iff, Bool.or_eq_false_iff, Bool.not_eq_true', Bool.not_eq_false', ne_eq, Decidable.not_not, Bool.not_true, Bool.not_false, bne_iff_ne, bne_eq_false_iff_eq, beq_iff_eq, beq_eq_false_iff_ne] at hg); omega) (by (try simp only [decide_eq_true_eq, decide_eq_false_iff_not, Bool.and_eq_true, Bool.or_eq_true, Bool.and_eq_false_iff, Bool.or_eq_false_iff, Bool.not_eq_true', Bool.not_eq_false', ne_eq, Decidable.not_not, Bool.not_true, Bool.not_false, bne_iff_ne, bne_eq_false_iff_eq, beq_iff_eq, beq_eq_false_iff_ne] at hg); omega))) rfl ?_ -- r28.7 outright.go:142
          refine WS.guardT rfl rfl rfl rfl (fun hg => (by first | exact det_ldI (ev_cond hg rfl) (by assumption) (by (try simp only [decide_eq_true_eq, decide_eq_false_iff_not, Bool.and_eq_true, Bool.or_eq_true, Bool.and_eq_false_iff, Bool.or_eq_false_iff, Bool.not_eq_true', Bool.not_eq_false', ne_eq, Decidable.not_not, Bool.not_true, Bool.not_false, bne_iff_ne, bne_eq_false_iff_eq, beq_iff_eq, beq_eq_false_iff_ne] at hg); omega) tk3 | exact det_loadb (j := 0) (ev_cond hg rfl) rfl rfl tk3 | exact det_loadb (j := 1) (ev_cond hg rfl) rfl rfl tk3 | exact det_loadb (j := 2) (ev_cond hg rfl) rfl rfl tk3 | exact det_loadb (j := 3) (ev_cond hg rfl) rfl rfl tk3 | exact det_loadw (ev_cond hg rfl) (by assumption) rfl tk3 | exact det_ldLI (j := 0) (ev_cond hg rfl) rfl (by (try simp only [decide_eq_true_eq, decide_eq_false_iff_not, Bool.and_eq_true, Bool.or_eq_true, Bool.and_eq_false_iff, Bool.or_eq_false_iff, Bool.not_eq_true', Bool.not_eq_false', ne_eq, Decidable.not_not, Bool.not_true, Bool.not_false, bne_iff_ne, bne_eq_false_iff_eq, beq_iff_eq, beq_eq_false_iff_ne] at hg); omega) (by (try simp only [decide_eq_true_eq, decide_eq_false_iff_not, Bool.and_eq_true, Bool.or_eq_true, Bool.and_eq_false_iff, Bool.or_eq_false_iff, Bool.not_eq_true', Bool.not_eq_false', ne_eq, Decidable.not_not, Bool.not_true, Bool.not_false, bne_iff_ne, bne_eq_false_iff_eq, beq_iff_eq, beq_eq_false_iff_ne] at hg); omega) tk3 | exact det_ldLI (j := 2) (ev_cond hg rfl) rfl (by (try simp only [decide_eq_true_eq, decide_eq_false_iff_not, Bool.and_eq_true, Bool.or_eq_true, Bool.and_eq_false_iff, Bool.or_eq_false_iff, Bool.not_eq_true', Bool.not_eq_false', ne_eq, Decidable.not_not, Bool.not_true, Bool.not_false, bne_iff_ne, bne_eq_false_iff_eq, beq_iff_eq, beq_eq_false_iff_ne] at hg); omega) (by (try simp only [decide_eq_true_eq, decide_eq_false_iff_not, Bool.and_eq_true, Bool.or_eq_true, Bool.and_eq_false_iff, Bool.or_eq_false_iff, Bool.not_eq_true', Bool.not_eq_false', ne_eq, Decidable.not_not, Bool.not_true, Bool.not_false, bne_iff_ne, bne_eq_false_iff_eq, beq_iff_eq, beq_eq_false_iff_ne] at hg); omega) tk3 | exact det_ldLI (j := 3) (ev_cond hg rfl) rfl (by (try simp only [decide_eq_true_eq, decide_eq_false_iff_not, Bool.and_eq_true, Bool.or_eq_true, Bool.and_eq_false_iff, Bool.or_eq_false_iff, Bool.not_eq_true', Bool.not_eq_false', ne_eq, Decidable.not_not, Bool.not_true, Bool.not_false, bne_iff_ne, bne_eq_false_iff_eq, beq_iff_eq, beq_eq_false_iff_ne] at hg); omega) (by (try simp only [decide_eq_true_eq, decide_eq_false_iff_not, Bool.and_eq_true, Bool.or_eq_true, Bool.and_eq_false_iff, Bool.or_eq_false_iff, Bool.not_eq_true', Bool.not_eq_false', ne_eq, Decidable.not_not, Bool.not_true, Bool.not_false, bne_iff_ne, bne_eq_false_iff_eq, beq_iff_eq, beq_eq_false_iff_ne] at hg); omega) tk3 | exact det_ldIR (j := 0) (ev_cond hg rfl) rfl (by (try simp only [decide_eq_true_eq, decide_eq_false_iff_not, Bool.and_eq_true, Bool.or_eq_true, Bool.and_eq_false_iff, Bool.or_eq_false_iff, Bool.not_eq_true', Bool.not_eq_false', ne_eq, Decidable.not_not, Bool.not_true, Bool.not_false, bne_iff_ne, bne_eq_false_iff_eq, beq_iff_eq, beq_eq_false_iff_ne] at hg); omega) tk3 | exact det_ldIR (j := 2) (ev_cond hg rfl) rfl (by (try simp only [decide_eq_true_eq, decide_eq_false_iff_not, Bool.and_eq_true, Bool.or_eq_true, Bool.and_eq_false_iff, Bool.or_eq_false_iff, Bool.not_eq_true', Bool.not_eq_false', ne_eq, Decidable.not_not, Bool.not_true, Bool.not_false, bne_iff_ne, bne_eq_false_iff_eq, beq_iff_eq, beq_eq_false_iff_ne] at hg); omega) tk3 | exact det_ldIR (j := 3) (ev_cond hg rfl) rfl (by (try simp only [decide_eq_true_eq, decide_eq_false_iff_not, Bool.and_eq_true, Bool.or_eq_true, Bool.and_eq_false_iff, Bool.or_eq_false_iff, Bool.not_eq_true', Bool.not_eq_false', ne_eq, Decidable.not_not, Bool.not_true, Bool.not_false, bne_iff_ne, bne_eq_false_iff_eq, beq_iff_eq, beq_eq_false_iff_ne] at hg); omega) tk3)) rfl ?_ -- r28.8 outright.go:142
          refine WS.guardT rfl rfl rfl rfl (fun hg => det_move rfl) rfl ?_ -- r28.9 outright.go:142
          refine WS.guardT rfl rfl rfl rfl (fun hg => det_eq (ev_cond hg rfl) (ev_cond hg rfl)) rfl ?_ -- r28.10 outright.go:142
          refine WS.det rfl rfl rfl (det_pick_and rfl rfl rfl) rfl ?_ -- r28.11 outright.go:142
          refine WS.det rfl rfl rfl (det_assign rfl) rfl ?_ -- r28.12 outright.go:142
          refine WS.done ?_
          refine QS.then_code ?_
          refine CS.seq ?_
          refine CS.seq ?_
          refine CS.region ?_
          refine WS.det rfl rfl rfl (det_move rfl) rfl ?_ -- r29.0 outright.go:143
          refine WS.done ?_
          refine QS.then_code ?_
          refine CS.cond rfl (fun hc9 => ?_) (fun hc9 => ?_) <;> (try simp only [decide_eq_true_eq, decide_eq_false_iff_not, Bool.and_eq_true, Bool.or_eq_true, Bool.and_eq_false_iff, Bool.or_eq_false_iff, Bool.not_eq_true', Bool.not_eq_false', ne_eq, Decidable.not_not, Bool.not_true, Bool.not_false, bne_iff_ne, bne_eq_false_iff_eq, beq_iff_eq, beq_eq_false_iff_ne] at hc9)
          · skip
            have hcnt : (readL lw ls (cs.eraseIdx z.2.toNat)).length = (readL lw ls cs).length := by
              rw [decide_eq_true hc9.1, decide_eq_true hc9.2] at hid; simpa using hid.symm
            refine CS.region ?_
            refine WS.det rfl rfl rfl (det_move rfl) rfl ?_ -- r30.0 outright.go:144
            refine WS.det rfl rfl rfl (det_add rfl rfl (by omega)) rfl ?_ -- r30.1 outright.go:144
            refine WS.det rfl rfl rfl (det_assign rfl) rfl ?_ -- r30.2 outright.go:144
            refine WS.done ?_
            refine QS.then_code ?_
            refine CS.seq ?_
            refine CS.region ?_
            refine WS.det rfl rfl rfl (det_move rfl) rfl ?_ -- r31.0 outright.go:146
            refine WS.det rfl rfl rfl (det_ne rfl rfl) rfl ?_ -- r31.1 outright.go:146
            refine WS.det rfl rfl rfl (det_move rfl) rfl ?_ -- r31.2 outright.go:146
            refine WS.guardF rfl rfl rfl rfl (fun hg => det_move rfl) rfl ?_ -- r31.3 outright.go:146
            refine WS.guardF rfl rfl rfl rfl (fun hg => det_move rfl) rfl ?_ -- r31.4 outright.go:146
            refine WS.guardF rfl rfl rfl rfl (fun hg => det_neb (ev_cond hg rfl) (ev_cond hg rfl) Try.underlying4) rfl ?_ -- r31.5 outright.go:146
            refine WS.det rfl rfl rfl (det_pick_or rfl rfl rfl) rfl ?_ -- r31.6 outright.go:146
            refine WS.done ?_
            refine QS.then_code ?_
            refine CS.cond rfl (fun hc10 => ?_) (fun hc10 => ?_) <;> (try simp only [decide_eq_true_eq, decide_eq_false_iff_not, Bool.and_eq_true, Bool.or_eq_true, Bool.and_eq_false_iff, Bool.or_eq_false_iff, Bool.not_eq_true', Bool.not_eq_false', ne_eq, Decidable.not_not, Bool.not_true, Bool.not_false, bne_iff_ne, bne_eq_false_iff_eq, beq_iff_eq, beq_eq_false_iff_ne] at hc10)
            · skip
              exact absurd hc10 (by rw [hie, if_pos rfl, hid, ← hii]; simp [nth])
            · skip
              refine CS.skip ?_
              refine QS.block_normal ?_
              refine QS.then_code ?_
              refine CS.region ?_
              refine WS.det rfl rfl rfl (det_move rfl) rfl ?_ -- r25.0 outright.go:139
              refine WS.det rfl rfl rfl (det_add rfl rfl (by omega)) rfl ?_ -- r25.1 outright.go:139
              refine WS.det rfl rfl rfl (det_assign rfl) rfl ?_ -- r25.2 outright.go:139
              refine WS.done ?_
              refine QS.sel [2, 2, 2] rfl ?_
              exact QS.head ((z.1 + 1, z.2 + 1)) rfl rfl ⟨⟨by simp; omega, by simp; omega, by simp only; rw [idleTo_yes hz1' hcnt, hz3']; simp⟩, by simp; omega⟩
          · skip
            have hcnt : ¬ (readL lw ls (cs.eraseIdx z.2.toNat)).length = (readL lw ls cs).length := by
              intro e
              rw [decide_eq_true e, Bool.and_eq_true, decide_eq_true_eq, decide_eq_true_eq] at hid
              omega
            refine CS.skip ?_
            refine QS.then_code ?_
            refine CS.seq ?_
            refine CS.region ?_
            refine WS.det rfl rfl rfl (det_move rfl) rfl ?_ -- r31.0 outright.go:146
            refine WS.det rfl rfl rfl (det_ne rfl rfl) rfl ?_ -- r31.1 outright.go:146
            refine WS.det rfl rfl rfl (det_move rfl) rfl ?_ -- r31.2 outright.go:146
            refine WS.guardF rfl rfl rfl rfl (fun hg => det_move rfl) rfl ?_ -- r31.3 outright.go:146
            refine WS.guardF rfl rfl rfl rfl (fun hg => det_move rfl) rfl ?_ -- r31.4 outright.go:146
            refine WS.guardF rfl rfl rfl rfl (fun hg => det_neb (ev_cond hg rfl) (ev_cond hg rfl) Try.underlying4) rfl ?_ -- r31.5 outright.go:146
            refine WS.det rfl rfl rfl (det_pick_or rfl rfl rfl) rfl ?_ -- r31.6 outright.go:146
            refine WS.done ?_
            refine QS.then_code ?_
            refine CS.cond rfl (fun hc11 => ?_) (fun hc11 => ?_) <;> (try simp only [decide_eq_true_eq, decide_eq_false_iff_not, Bool.and_eq_true, Bool.or_eq_true, Bool.and_eq_false_iff, Bool.or_eq_false_iff, Bool.not_eq_true', Bool.not_eq_false', ne_eq, Decidable.not_not, Bool.not_true, Bool.not_false, bne_iff_ne, bne_eq_false_iff_eq, beq_iff_eq, beq_eq_false_iff_ne] at hc11)
            · skip
              exact absurd hc11 (by rw [hie, if_pos rfl, hid, ← hii]; simp [nth])
            · skip
              refine CS.skip ?_
              refine QS.block_normal ?_
              refine QS.then_code ?_
              refine CS.region ?_
              refine WS.det rfl rfl rfl (det_move rfl) rfl ?_ -- r25.0 outright.go:139
              refine WS.det rfl rfl rfl (det_add rfl rfl (by omega)) rfl ?_ -- r25.1 outright.go:139
              refine WS.det rfl rfl rfl (det_assign rfl) rfl ?_ -- r25.2 outright.go:139
              refine WS.done ?_
              refine QS.sel [2, 2, 2] rfl ?_
              exact QS.head ((z.1, z.2 + 1)) rfl rfl ⟨⟨by simp; omega, by simp; omega, by simp only; rw [idleTo_no hz1' hcnt, hz3']⟩, by simp; omega⟩
        · skip
          refine CS.leave ?_
          refine QS.then_exit ?_
          refine QS.then_exit ?_
          refine QS.block_exit ?_
          refine QS.then_code ?_
          refine CS.seq ?_
          refine CS.region ?_
          refine WS.det rfl rfl rfl (det_move rfl) rfl ?_ -- r33.0 outright.go:150
          refine WS.det rfl rfl rfl (det_move rfl) rfl ?_ -- r33.1 outright.go:150
          refine WS.det rfl rfl rfl ((by first | exact det_lenS sl24 rfl (by assumption) | exact det_lenS sl24 rfl (by first | exact SlL.sp (by assumption) | exact ClS.sp (by assumption)) | exact det_lenO sl24 rfl | exact det_lenV sl24 rfl ⟨_, _, rfl⟩)) rfl ?_ -- r33.2 outright.go:150
          refine WS.det rfl rfl rfl (det_eq rfl rfl) rfl ?_ -- r33.3 outright.go:150
          refine WS.det rfl rfl rfl (det_move rfl) rfl ?_ -- r33.4 outright.go:150
          refine WS.guardT rfl rfl rfl rfl (fun hg => det_callB rfl rfl ent19 (fun u hu => works_c u)) rfl ?_ -- r33.5 outright.go:150
          refine WS.det rfl rfl rfl (det_pick_and rfl rfl rfl) rfl ?_ -- r33.6 outright.go:150
          refine WS.det rfl rfl rfl (det_assign rfl) rfl ?_ -- r33.7 outright.go:150
          refine WS.done ?_
          refine QS.then_code ?_
          refine CS.ret ?_
          exact out1 rfl rfl (retBe (by rw [hz3', show z.2.toNat = cs.length by omega]; simp)) -- ret 3

end Go.Proofs.Ytldagbcceefcdaa
