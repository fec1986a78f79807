/- Contracts of functions, printed by a program of the prover (gen.py). -/
import Derived.Test.YtldagbcceefcdaaC13
import Derived.Test.YtldagbcceefcdaaCore
namespace Go.Proofs.Ytldagbcceefcdaa
open Go.RowKit Go.Proofs
set_option maxRecDepth 100000
set_option linter.unusedVariables false
set_option linter.unusedSimpArgs false

theorem worst_c (lw ls : Int) (xss : List (List Int)) (gs : List Value) (v : Value) (x : List Int) (xv : Value) (w : World) (hL : lockB lw ls = true) (hv : ∀ y ∈ xss, codeB lw ls y = true) (hx : codeB lw ls x = true) (hn : xss.length ≤ 10000) (h1 : SlL w v xss gs) (h2 : SlI w xv x) :
    Calls Try.prog 72 #[v, xv] w (RetB w (.int .i64 (wN xss x))) := by
  have hxl := (code_of hx).1
  have hl := lock_of hL
  refine enter Try.func72 rfl rfl (Nat.le_of_ble_eq_true rfl) ?_
  refine CS.seq ?_
  refine CS.region ?_
  refine WS.det rfl rfl rfl (det_assign rfl) rfl ?_ -- r0.0 ref.go:406
  refine WS.done ?_
  refine QS.then_code ?_
  refine CS.seq ?_
  refine CS.region ?_
  refine WS.det rfl rfl rfl (det_assign rfl) rfl ?_ -- r1.0 ref.go:407
  refine WS.done ?_
  refine QS.then_code ?_
  refine CS.seq ?_
  refine CS.seq ?_
  refine CS.region ?_
  refine WS.det rfl rfl rfl (det_assign rfl) rfl ?_ -- r2.0 ref.go:408
  refine WS.done ?_
  refine QS.then_code ?_
  refine CS.block ?_
  refine CS.loopM (σ := Int × Int) [7, 8, 9, 10, 11, 12, 13, 14, 15, 16, 17, 18, 19, 20, 21, 22, 23, 24, 25, 26, 27, 28, 29, 30, 31, 32, 33, 34, 35, 36, 37, 38, 39, 40, 41, 42, 43, 44, 45, 46, 47, 48, 49, 50, 51, 52, 53, 54, 55] (fun s => [(5, .int .i64 s.2), (6, .int .i64 s.1)]) (fun _ => _) (fun s => 0 ≤ s.1 ∧ s.1 ≤ xss.length ∧ s.2 = maxL ((xss.take s.1.toNat).map (cA xss x))) (fun s => (xss.length - s.1).toNat) (0, 0) (fun _ _ => rfl) rfl rfl ⟨by simp, by simp, rfl⟩ ?_
  intro s9 t hs
  obtain ⟨hs1, hs2, hs3⟩ := hs
  refine CS.seq ?_
  refine CS.seq ?_
  refine CS.region ?_
  refine WS.det rfl rfl rfl (det_move rfl) rfl ?_ -- r3.0 ref.go:408
  refine WS.det rfl rfl rfl (det_move rfl) rfl ?_ -- r3.1 ref.go:408
  refine WS.det rfl rfl rfl ((by first | exact det_lenS sl51 rfl (by assumption) | exact det_lenS sl51 rfl (by first | exact SlL.sp (by assumption) | exact ClS.sp (by assumption)) | exact det_lenO sl51 rfl | exact det_lenV sl51 rfl ⟨_, _, rfl⟩)) rfl ?_ -- r3.2 ref.go:408
  refine WS.det rfl rfl rfl (det_lt rfl rfl) rfl ?_ -- r3.3 ref.go:408
  refine WS.done ?_
  refine QS.then_code ?_
  refine CS.cond rfl (fun hc1 => ?_) (fun hc1 => ?_) <;> (try simp only [decide_eq_true_eq, decide_eq_false_iff_not, Bool.and_eq_true, Bool.or_eq_true, Bool.and_eq_false_iff, Bool.or_eq_false_iff, Bool.not_eq_true', Bool.not_eq_false', ne_eq, Decidable.not_not, Bool.not_true, Bool.not_false, bne_iff_ne, bne_eq_false_iff_eq, beq_iff_eq, beq_eq_false_iff_ne] at hc1)
  · skip
    have hyb := hv _ (nth_mem (xs := xss) hs1 (by omega))
    have hyl := (code_of hyb).1
    refine CS.skip ?_
    refine QS.then_code ?_
    refine CS.seq ?_
    refine CS.block ?_
    refine CS.seq ?_
    refine CS.region ?_
    refine WS.det rfl rfl rfl (det_move rfl) rfl ?_ -- r5.0 ref.go:409
    refine WS.det rfl rfl rfl (det_move rfl) rfl ?_ -- r5.1 ref.go:409
    refine WS.det rfl rfl rfl ((by first | exact det_idxL sl51 rfl rfl (by assumption) (by omega) (by omega) | exact det_idxO sl51 rfl rfl (by omega) (by omega))) rfl ?_ -- r5.2 ref.go:409
    refine WS.det rfl rfl rfl ((by first | exact det_ldL rfl (by assumption) (by omega) tk24 | exact det_loadb (j := 0) rfl rfl rfl tk24 | exact det_loadb (j := 1) rfl rfl rfl tk24 | exact det_loadb (j := 2) rfl rfl rfl tk24 | exact det_loadb (j := 3) rfl rfl rfl tk24 | exact det_loadw rfl (by assumption) rfl tk24)) rfl ?_ -- r5.3 ref.go:409
    refine WS.det rfl rfl rfl (det_move rfl) rfl ?_ -- r5.4 ref.go:409
    refine WS.det rfl rfl rfl (det_callB rfl rfl ent56 (fun u hu => Ranswer_c _ _ _ _ u ((h1.st hu).el s9.1 (by omega) (by omega)) (h2.st hu) (by omega) (by omega))) rfl ?_ -- r5.5 ref.go:409
    refine WS.det rfl rfl rfl (det_move rfl) rfl ?_ -- r5.6 ref.go:409
    refine WS.det rfl rfl rfl (det_extract rfl rfl) rfl ?_ -- r5.7 ref.go:409
    refine WS.det rfl rfl rfl (det_extract rfl rfl) rfl ?_ -- r5.8 ref.go:409
    refine WS.det rfl rfl rfl (det_assign rfl) rfl ?_ -- r5.9 ref.go:409
    refine WS.det rfl rfl rfl (det_assign rfl) rfl ?_ -- r5.10 ref.go:409
    refine WS.done ?_
    refine QS.then_code ?_
    refine CS.seq ?_
    refine CS.region ?_
    refine WS.det rfl rfl rfl (det_assign rfl) rfl ?_ -- r6.0 ref.go:410
    refine WS.done ?_
    refine QS.then_code ?_
    refine CS.seq ?_
    refine CS.seq ?_
    refine CS.region ?_
    refine WS.det rfl rfl rfl (det_assign rfl) rfl ?_ -- r7.0 ref.go:411
    refine WS.done ?_
    refine QS.then_code ?_
    refine CS.block ?_
    refine CS.loopM (σ := Int × Int) [11, 12, 28, 29, 30, 31, 32, 33, 34, 35, 36, 37, 38, 39, 40, 41, 42, 43, 44, 45, 46, 47, 48, 49, 50, 51, 52] (fun s => [(9, .int .i64 s.2), (10, .int .i64 s.1)]) (fun _ => _) (fun s => 0 ≤ s.1 ∧ s.1 ≤ xss.length ∧ s.2 = cntRC (xss.take s.1.toNat) x (rightN (nth xss s9.1) x) (comN (nth xss s9.1) x)) (fun s => (xss.length - s.1).toNat) (0, 0) (fun _ _ => rfl) rfl rfl ⟨by simp, by simp, rfl⟩ ?_
    intro r t hs
    obtain ⟨hr1, hr2, hr3⟩ := hs
    have hrb := cntRC_bd (xss.take r.1.toNat) x (rightN (nth xss s9.1) x) (comN (nth xss s9.1) x)
    have hrt := List.length_take_le r.1.toNat xss
    refine CS.seq ?_
    refine CS.seq ?_
    refine CS.region ?_
    refine WS.det rfl rfl rfl (det_move rfl) rfl ?_ -- r8.0 ref.go:411
    refine WS.det rfl rfl rfl (det_move rfl) rfl ?_ -- r8.1 ref.go:411
    refine WS.det rfl rfl rfl ((by first | exact det_lenS sl51 rfl (by assumption) | exact det_lenS sl51 rfl (by first | exact SlL.sp (by assumption) | exact ClS.sp (by assumption)) | exact det_lenO sl51 rfl | exact det_lenV sl51 rfl ⟨_, _, rfl⟩)) rfl ?_ -- r8.2 ref.go:411
    refine WS.det rfl rfl rfl (det_lt rfl rfl) rfl ?_ -- r8.3 ref.go:411
    refine WS.done ?_
    refine QS.then_code ?_
    refine CS.cond rfl (fun hc2 => ?_) (fun hc2 => ?_) <;> (try simp only [decide_eq_true_eq, decide_eq_false_iff_not, Bool.and_eq_true, Bool.or_eq_true, Bool.and_eq_false_iff, Bool.or_eq_false_iff, Bool.not_eq_true', Bool.not_eq_false', ne_eq, Decidable.not_not, Bool.not_true, Bool.not_false, bne_iff_ne, bne_eq_false_iff_eq, beq_iff_eq, beq_eq_false_iff_ne] at hc2)
    · skip
      have hzb := hv _ (nth_mem (xs := xss) hr1 (by omega))
      have hzl := (code_of hzb).1
      refine CS.skip ?_
      refine QS.then_code ?_
      refine CS.seq ?_
      refine CS.block ?_
      refine CS.seq ?_
      refine CS.region ?_
      refine WS.det rfl rfl rfl (det_move rfl) rfl ?_ -- r10.0 ref.go:412
      refine WS.det rfl rfl rfl (det_move rfl) rfl ?_ -- r10.1 ref.go:412
      refine WS.det rfl rfl rfl ((by first | exact det_idxL sl51 rfl rfl (by assumption) (by omega) (by omega) | exact det_idxO sl51 rfl rfl (by omega) (by omega))) rfl ?_ -- r10.2 ref.go:412
      refine WS.det rfl rfl rfl ((by first | exact det_ldL rfl (by assumption) (by omega) tk24 | exact det_loadb (j := 0) rfl rfl rfl tk24 | exact det_loadb (j := 1) rfl rfl rfl tk24 | exact det_loadb (j := 2) rfl rfl rfl tk24 | exact det_loadb (j := 3) rfl rfl rfl tk24 | exact det_loadw rfl (by assumption) rfl tk24)) rfl ?_ -- r10.3 ref.go:412
      refine WS.det rfl rfl rfl (det_move rfl) rfl ?_ -- r10.4 ref.go:412
      refine WS.det rfl rfl rfl (det_callB rfl rfl ent56 (fun u hu => Ranswer_c _ _ _ _ u ((h1.st hu).el r.1 (by omega) (by omega)) (h2.st hu) (by omega) (by omega))) rfl ?_ -- r10.5 ref.go:412
      refine WS.det rfl rfl rfl (det_move rfl) rfl ?_ -- r10.6 ref.go:412
      refine WS.det rfl rfl rfl (det_extract rfl rfl) rfl ?_ -- r10.7 ref.go:412
      refine WS.det rfl rfl rfl (det_extract rfl rfl) rfl ?_ -- r10.8 ref.go:412
      refine WS.det rfl rfl rfl (det_assign rfl) rfl ?_ -- r10.9 ref.go:412
      refine WS.det rfl rfl rfl (det_assign rfl) rfl ?_ -- r10.10 ref.go:412
      refine WS.done ?_
      refine QS.then_code ?_
      refine CS.seq ?_
      refine CS.region ?_
      refine WS.det rfl rfl rfl (det_move rfl) rfl ?_ -- r11.0 ref.go:413
      refine WS.det rfl rfl rfl (det_move rfl) rfl ?_ -- r11.1 ref.go:413
      refine WS.det rfl rfl rfl (det_eq rfl rfl) rfl ?_ -- r11.2 ref.go:413
      refine WS.det rfl rfl rfl (det_move rfl) rfl ?_ -- r11.3 ref.go:413
      refine WS.guardT rfl rfl rfl rfl (fun hg => det_move rfl) rfl ?_ -- r11.4 ref.go:413
      refine WS.guardT rfl rfl rfl rfl (fun hg => det_move rfl) rfl ?_ -- r11.5 ref.go:413
      refine WS.guardT rfl rfl rfl rfl (fun hg => det_eq (ev_cond hg rfl) (ev_cond hg rfl)) rfl ?_ -- r11.6 ref.go:413
      refine WS.det rfl rfl rfl (det_pick_and rfl rfl rfl) rfl ?_ -- r11.7 ref.go:413
      refine WS.done ?_
      refine QS.then_code ?_
      refine CS.cond rfl (fun hc3 => ?_) (fun hc3 => ?_) <;> (try simp only [decide_eq_true_eq, decide_eq_false_iff_not, Bool.and_eq_true, Bool.or_eq_true, Bool.and_eq_false_iff, Bool.or_eq_false_iff, Bool.not_eq_true', Bool.not_eq_false', ne_eq, Decidable.not_not, Bool.not_true, Bool.not_false, bne_iff_ne, bne_eq_false_iff_eq, beq_iff_eq, beq_eq_false_iff_ne] at hc3)
      · skip
        refine CS.region ?_
        refine WS.det rfl rfl rfl (det_move rfl) rfl ?_ -- r12.0 ref.go:414
        refine WS.det rfl rfl rfl (det_add rfl rfl (by omega)) rfl ?_ -- r12.1 ref.go:414
        refine WS.det rfl rfl rfl (det_assign rfl) rfl ?_ -- r12.2 ref.go:414
        refine WS.done ?_
        refine QS.block_normal ?_
        refine QS.then_code ?_
        refine CS.region ?_
        refine WS.det rfl rfl rfl (det_move rfl) rfl ?_ -- r9.0 ref.go:411
        refine WS.det rfl rfl rfl (det_add rfl rfl (by omega)) rfl ?_ -- r9.1 ref.go:411
        refine WS.det rfl rfl rfl (det_assign rfl) rfl ?_ -- r9.2 ref.go:411
        refine WS.done ?_
        exact QS.head ((r.1 + 1, r.2 + 1)) rfl rfl ⟨⟨by simp; omega, by simp; omega, by simp only; rw [take_snocI _ hr1 (by omega), cntRC_snoc, hr3, if_pos (show rightN (nth xss r.1) x = rightN (nth xss s9.1) x ∧ comN (nth xss r.1) x = comN (nth xss s9.1) x from hc3)]⟩, by simp; omega⟩
      · skip
        refine CS.skip ?_
        refine QS.block_normal ?_
        refine QS.then_code ?_
        refine CS.region ?_
        refine WS.det rfl rfl rfl (det_move rfl) rfl ?_ -- r9.0 ref.go:411
        refine WS.det rfl rfl rfl (det_add rfl rfl (by omega)) rfl ?_ -- r9.1 ref.go:411
        refine WS.det rfl rfl rfl (det_assign rfl) rfl ?_ -- r9.2 ref.go:411
        refine WS.done ?_
        exact QS.head ((r.1 + 1, r.2)) rfl rfl ⟨⟨by simp; omega, by simp; omega, by simp only; rw [take_snocI _ hr1 (by omega), cntRC_snoc, hr3, if_neg (by unfold comN; omega)]; omega⟩, by simp; omega⟩
    · skip
      refine CS.leave ?_
      refine QS.then_exit ?_
      refine QS.then_exit ?_
      refine QS.block_exit ?_
      refine QS.then_code ?_
      refine CS.region ?_
      refine WS.det rfl rfl rfl (det_move rfl) rfl ?_ -- r13.0 ref.go:417
      refine WS.det rfl rfl rfl (det_move rfl) rfl ?_ -- r13.1 ref.go:417
      refine WS.det rfl rfl rfl (det_max rfl rfl) rfl ?_ -- r13.2 ref.go:417
      refine WS.det rfl rfl rfl (det_assign rfl) rfl ?_ -- r13.3 ref.go:417
      refine WS.done ?_
      refine QS.block_normal ?_
      refine QS.then_code ?_
      refine CS.region ?_
      refine WS.det rfl rfl rfl (det_move rfl) rfl ?_ -- r4.0 ref.go:408
      refine WS.det rfl rfl rfl (det_add rfl rfl (by omega)) rfl ?_ -- r4.1 ref.go:408
      refine WS.det rfl rfl rfl (det_assign rfl) rfl ?_ -- r4.2 ref.go:408
      refine WS.done ?_
      exact QS.head ((s9.1 + 1, max s9.2 r.2)) rfl rfl ⟨⟨by simp; omega, by simp; omega, by simp only; rw [take_snocI _ hs1 (by omega), List.map_append, List.map_singleton, maxL_snoc _ _ (show 0 ≤ cA xss x (nth xss s9.1) from (cntRC_bd _ _ _ _).1), ← hs3, hr3, take_all _ (by omega)]; rfl⟩, by simp; omega⟩
  · skip
    refine CS.leave ?_
    refine QS.then_exit ?_
    refine QS.then_exit ?_
    refine QS.block_exit ?_
    refine QS.then_code ?_
    refine CS.seq ?_
    refine CS.region ?_
    refine WS.det rfl rfl rfl (det_move rfl) rfl ?_ -- r14.0 ref.go:419
    refine WS.det rfl rfl rfl (det_assign rfl) rfl ?_ -- r14.1 ref.go:419
    refine WS.done ?_
    refine QS.then_code ?_
    refine CS.ret ?_
    exact out1 rfl rfl (retBe (by rw [hs3, take_all _ (by omega)]; rfl)) -- ret 1

theorem Next_c (lw ls : Int) (cs : List Clue) (gs : List Value) (cv : Value) (w : World) (hk : ClS w cv cs gs) :
    Calls Try.prog 38 #[.agg #[.int .i64 lw, .int .i64 ls], cv] w (fun e w' => ∃ x : Value, (∃ u0, SlI u0 x (if nxE lw ls cs = 0 then nxG lw ls cs else [])) ∧ RetF w (.tuple #[x, .int .i64 (if nxE lw ls cs = 0 then wN (readL lw ls cs) (nxG lw ls cs) else 0), .int .i64 (nxE lw ls cs)]) (roI x (if nxE lw ls cs = 0 then nxG lw ls cs else [])) e w') := by
  refine enter Try.func38 rfl rfl (Nat.le_of_ble_eq_true rfl) ?_
  refine CS.seq ?_
  refine CS.region ?_
  refine WS.box rfl rfl (fun _ => rfl) ?_; intro b2 hb2 -- r0.0 codes.go:411
  refine WS.det rfl rfl rfl (det_assign rfl) rfl ?_ -- r0.1 codes.go:411
  refine WS.det rfl rfl rfl (det_assign rfl) rfl ?_ -- r0.2 codes.go:411
  refine WS.det rfl rfl rfl (det_assign rfl) rfl ?_ -- r0.3 codes.go:411
  refine WS.done ?_
  refine QS.then_code ?_
  refine CS.seq ?_
  refine CS.seq ?_
  refine CS.region ?_
  refine WS.det rfl rfl rfl ((by first | exact det_loadb0 (j := 0) rfl rfl tk23 | exact det_loadbN (j := 0) rfl rfl (by rfl) tk23 | exact det_loadwN rfl (by assumption) (by rfl) tk23 | exact det_loadbK (n := 2) (j := 0) rfl rfl rfl rfl tk23)) rfl ?_ -- r1.0 codes.go:412
  refine WS.det rfl rfl rfl (det_move rfl) rfl ?_ -- r1.1 codes.go:412
  refine WS.det rfl rfl rfl (det_callB rfl rfl ent57 (fun u hu => checkClues_c _ _ _ _ _ u (hk.st hu))) rfl ?_ -- r1.2 codes.go:412
  refine WS.det rfl rfl rfl (det_assign rfl) rfl ?_ -- r1.3 codes.go:412
  refine WS.done ?_
  refine QS.then_code ?_
  refine CS.seq ?_
  refine CS.region ?_
  refine WS.det rfl rfl rfl (det_move rfl) rfl ?_ -- r2.0 codes.go:412
  refine WS.det rfl rfl rfl (det_ne rfl rfl) rfl ?_ -- r2.1 codes.go:412
  refine WS.done ?_
  refine QS.then_code ?_
  refine CS.cond rfl (fun hc1 => ?_) (fun hc1 => ?_) <;> (try simp only [decide_eq_true_eq, decide_eq_false_iff_not, Bool.and_eq_true, Bool.or_eq_true, Bool.and_eq_false_iff, Bool.or_eq_false_iff, Bool.not_eq_true', Bool.not_eq_false', ne_eq, Decidable.not_not, Bool.not_true, Bool.not_false, bne_iff_ne, bne_eq_false_iff_eq, beq_iff_eq, beq_eq_false_iff_ne] at hc1)
  · skip
    refine CS.seq ?_
    refine CS.region ?_
    refine WS.det rfl rfl rfl (det_move rfl) rfl ?_ -- r3.0 codes.go:413
    refine WS.det rfl rfl rfl (det_assign rfl) rfl ?_ -- r3.1 codes.go:413
    refine WS.det rfl rfl rfl (det_assign rfl) rfl ?_ -- r3.2 codes.go:413
    refine WS.det rfl rfl rfl (det_assign rfl) rfl ?_ -- r3.3 codes.go:413
    refine WS.done ?_
    refine QS.then_code ?_
    refine CS.ret ?_
    refine QS.then_ret ?_
    exact out3 rfl rfl rfl rfl (retIn (by simp [nxE, hc1]) (by simp [nxE, hc1])) -- ret 1
  · skip
    have hL := cluesE_lock hc1
    have hC := cluesE_clue hc1
    have hl := lock_of hL
    refine CS.skip ?_
    refine QS.then_code ?_
    refine CS.seq ?_
    refine CS.region ?_
    refine WS.det rfl rfl rfl ((by first | exact det_loadb0 (j := 0) rfl rfl tk23 | exact det_loadbN (j := 0) rfl rfl (by rfl) tk23 | exact det_loadwN rfl (by assumption) (by rfl) tk23 | exact det_loadbK (n := 2) (j := 0) rfl rfl rfl rfl tk23)) rfl ?_ -- r4.0 codes.go:415
    refine WS.det rfl rfl rfl (det_move rfl) rfl ?_ -- r4.1 codes.go:415
    refine WS.callF rfl rfl ent71 (fun u hu => all_c _ _ _ _ _ u hL hC (hk.st hu)) (fun _ => rfl) ?_; rintro ⟨va, ga⟩ ⟨ua, hva⟩ -- r4.2 codes.go:415
    refine WS.det rfl rfl rfl (det_assign rfl) rfl ?_ -- r4.3 codes.go:415
    refine WS.done ?_
    refine QS.then_code ?_
    refine CS.seq ?_
    refine CS.block ?_
    refine CS.seq ?_
    refine CS.region ?_
    refine WS.det rfl rfl rfl (det_move rfl) rfl ?_ -- r5.0 codes.go:417
    refine WS.det rfl rfl rfl ((by first | exact det_lenS sl51 rfl (by assumption) | exact det_lenS sl51 rfl (by first | exact SlL.sp (by assumption) | exact ClS.sp (by assumption)) | exact det_lenO sl51 rfl | exact det_lenV sl51 rfl ⟨_, _, rfl⟩)) rfl ?_ -- r5.1 codes.go:417
    refine WS.det rfl rfl rfl (det_eq rfl rfl) rfl ?_ -- r5.2 codes.go:417
    refine WS.det rfl rfl rfl (det_assign rfl) rfl ?_ -- r5.3 codes.go:417
    refine WS.done ?_
    refine QS.then_code ?_
    refine CS.cond rfl (fun hc2 => ?_) (fun hc2 => ?_) <;> (try simp only [decide_eq_true_eq, decide_eq_false_iff_not, Bool.and_eq_true, Bool.or_eq_true, Bool.and_eq_false_iff, Bool.or_eq_false_iff, Bool.not_eq_true', Bool.not_eq_false', ne_eq, Decidable.not_not, Bool.not_true, Bool.not_false, bne_iff_ne, bne_eq_false_iff_eq, beq_iff_eq, beq_eq_false_iff_ne] at hc2)
    · skip
      refine CS.seq ?_
      refine CS.region ?_
      refine WS.det rfl rfl rfl (det_assign rfl) rfl ?_ -- r6.0 codes.go:418
      refine WS.det rfl rfl rfl (det_assign rfl) rfl ?_ -- r6.1 codes.go:418
      refine WS.det rfl rfl rfl (det_assign rfl) rfl ?_ -- r6.2 codes.go:418
      refine WS.done ?_
      refine QS.then_code ?_
      refine CS.ret ?_
      refine QS.block_ret ?_
      refine QS.then_ret ?_
      exact out3 rfl rfl rfl rfl (retIn (by simp [nxE, hc1, show (readL lw ls cs).length = 0 by omega]) (by simp [nxE, hc1, show (readL lw ls cs).length = 0 by omega])) -- ret 2
    · skip
      refine CS.seq ?_
      refine CS.region ?_
      refine WS.det rfl rfl rfl (det_move rfl) rfl ?_ -- r7.0 codes.go:419
      refine WS.det rfl rfl rfl ((by first | exact det_lenS sl51 rfl (by assumption) | exact det_lenS sl51 rfl (by first | exact SlL.sp (by assumption) | exact ClS.sp (by assumption)) | exact det_lenO sl51 rfl | exact det_lenV sl51 rfl ⟨_, _, rfl⟩)) rfl ?_ -- r7.1 codes.go:419
      refine WS.det rfl rfl rfl (det_gt rfl rfl) rfl ?_ -- r7.2 codes.go:419
      refine WS.det rfl rfl rfl (det_assign rfl) rfl ?_ -- r7.3 codes.go:419
      refine WS.done ?_
      refine QS.then_code ?_
      refine CS.cond rfl (fun hc3 => ?_) (fun hc3 => ?_) <;> (try simp only [decide_eq_true_eq, decide_eq_false_iff_not, Bool.and_eq_true, Bool.or_eq_true, Bool.and_eq_false_iff, Bool.or_eq_false_iff, Bool.not_eq_true', Bool.not_eq_false', ne_eq, Decidable.not_not, Bool.not_true, Bool.not_false, bne_iff_ne, bne_eq_false_iff_eq, beq_iff_eq, beq_eq_false_iff_ne] at hc3)
      · skip
        refine CS.seq ?_
        refine CS.region ?_
        refine WS.det rfl rfl rfl (det_assign rfl) rfl ?_ -- r8.0 codes.go:420
        refine WS.det rfl rfl rfl (det_assign rfl) rfl ?_ -- r8.1 codes.go:420
        refine WS.det rfl rfl rfl (det_assign rfl) rfl ?_ -- r8.2 codes.go:420
        refine WS.done ?_
        refine QS.then_code ?_
        refine CS.ret ?_
        refine QS.block_ret ?_
        refine QS.then_ret ?_
        exact out3 rfl rfl rfl rfl (retIn (by simp [nxE, hc1, show ¬ (readL lw ls cs).length = 0 by omega, show 200 < (readL lw ls cs).length by omega]) (by simp [nxE, hc1, show ¬ (readL lw ls cs).length = 0 by omega, show 200 < (readL lw ls cs).length by omega])) -- ret 3
      · skip
        have h200 : ¬ 200 < (readL lw ls cs).length := by omega
        have hnx : nxE lw ls cs = 0 := by simp [nxE, hc1, h200]; intro h; simp [h] at hc2
        have hpos : ∀ j : Int, 0 ≤ j → j < (readL lw ls cs).length → 0 < (nth (readL lw ls cs) j).length := fun j h0 h1 => by have := (code_of (readL_nth hL h0 h1)).1; omega
        refine CS.skip ?_
        refine QS.block_normal ?_
        refine QS.then_code ?_
        refine CS.seq ?_
        refine CS.seq ?_
        refine CS.region ?_
        refine WS.det rfl rfl rfl (det_move rfl) rfl ?_ -- r9.0 codes.go:422
        refine WS.det rfl rfl rfl ((by first | exact det_lenS sl51 rfl (by assumption) | exact det_lenS sl51 rfl (by first | exact SlL.sp (by assumption) | exact ClS.sp (by assumption)) | exact det_lenO sl51 rfl | exact det_lenV sl51 rfl ⟨_, _, rfl⟩)) rfl ?_ -- r9.1 codes.go:422
        refine WS.det rfl rfl rfl (det_move rfl) rfl ?_ -- r9.2 codes.go:422
        refine WS.done ?_
        refine QS.then_code ?_
        refine CS.block ?_
        refine CS.loopM (σ := Int × Value × Int) [10, 11, 12, 14, 15, 16, 37, 38, 39, 40, 41, 42, 43, 44, 45, 46, 47, 48, 49, 50, 51, 52, 53, 54, 55, 56, 57, 58, 59, 60, 61, 62, 63, 64, 65, 66, 67, 68, 69, 70, 71, 72, 73, 74, 75, 76, 77] (fun s => [(4, s.2.1), (5, .int .i64 s.2.2), (36, .int .i64 s.1)]) (fun _ => _) (fun s => 0 ≤ s.1 ∧ s.1 ≤ (readL lw ls cs).length ∧ NextI (readL lw ls cs) ga s.1 s.2.1 s.2.2) (fun s => ((readL lw ls cs).length - s.1).toNat) (0, .slice none 0 0, 0) (fun _ _ => rfl) rfl rfl ⟨by simp, by simp, NextI.start⟩ ?_
        intro p t hs
        obtain ⟨hp1, hp2, hp3⟩ := hs
        refine CS.seq ?_
        refine CS.region ?_
        refine WS.det rfl rfl rfl (det_lt rfl rfl) rfl ?_ -- r10.0 codes.go:422
        refine WS.done ?_
        refine QS.then_code ?_
        refine CS.seq ?_
        refine CS.cond rfl (fun hc4 => ?_) (fun hc4 => ?_) <;> (try simp only [decide_eq_true_eq, decide_eq_false_iff_not, Bool.and_eq_true, Bool.or_eq_true, Bool.and_eq_false_iff, Bool.or_eq_false_iff, Bool.not_eq_true', Bool.not_eq_false', ne_eq, Decidable.not_not, Bool.not_true, Bool.not_false, bne_iff_ne, bne_eq_false_iff_eq, beq_iff_eq, beq_eq_false_iff_ne] at hc4)
        · skip
          have hxb := readL_nth (cs := cs) hL hp1 (show p.1 < (readL lw ls cs).length by omega)
          have hxl := (code_of hxb).1
          have hpn := hp3.nil hva hp1 hp2 hpos
          refine CS.skip ?_
          refine QS.then_code ?_
          refine CS.seq ?_
          refine CS.block ?_
          refine CS.seq ?_
          refine CS.region ?_
          refine WS.det rfl rfl rfl ((by first | exact det_idxL sl51 rfl rfl (by assumption) (by omega) (by omega) | exact det_idxO sl51 rfl rfl (by omega) (by omega))) rfl ?_ -- r11.0 codes.go:422
          refine WS.det rfl rfl rfl ((by first | exact det_ldL rfl (by assumption) (by omega) tk24 | exact det_ldLR (j := 0) rfl rfl (by assumption) (by omega) tk24 | exact det_loadb (j := 0) rfl rfl rfl tk24 | exact det_loadb (j := 1) rfl rfl rfl tk24 | exact det_loadb (j := 2) rfl rfl rfl tk24 | exact det_loadb (j := 3) rfl rfl rfl tk24 | exact det_loadw rfl (by assumption) rfl tk24)) rfl ?_ -- r11.1 codes.go:422
          refine WS.det rfl rfl rfl (det_assign rfl) rfl ?_ -- r11.2 codes.go:422
          refine WS.done ?_
          refine QS.then_code ?_
          refine CS.seq ?_
          refine CS.region ?_
          refine WS.alloc zv89 (fun _ => rfl) ?_; intro b11 hb11 -- r12.0 codes.go:423
          refine WS.done ?_
          refine QS.then_code ?_
          refine CS.seq ?_
          refine CS.region ?_
          refine WS.det rfl rfl rfl (det_assign rfl) rfl ?_ -- r13.0 codes.go:424
          refine WS.done ?_
          refine QS.then_code ?_
          refine CS.seq ?_
          refine CS.seq ?_
          refine CS.region ?_
          refine WS.det rfl rfl rfl (det_move rfl) rfl ?_ -- r14.0 codes.go:425
          refine WS.det rfl rfl rfl ((by first | exact det_lenS sl51 rfl (by assumption) | exact det_lenS sl51 rfl (by first | exact SlL.sp (by assumption) | exact ClS.sp (by assumption)) | exact det_lenO sl51 rfl | exact det_lenV sl51 rfl ⟨_, _, rfl⟩)) rfl ?_ -- r14.1 codes.go:425
          refine WS.det rfl rfl rfl (det_move rfl) rfl ?_ -- r14.2 codes.go:425
          refine WS.done ?_
          refine QS.then_code ?_
          refine CS.block ?_
          refine CS.loopM (σ := Int × Int) [14, 15, 16, 43, 44, 45, 46, 47, 48, 49, 50, 51, 52, 53, 54, 55, 56, 57, 58, 59, 60, 61, 62, 63, 64, 65, 66, 67] (fun s => [(12, .int .i64 s.2), (42, .int .i64 s.1)]) (fun s => [blk b11 (tabC ((readL lw ls cs).take s.1.toNat) (nth (readL lw ls cs) p.1)) 89, roL va (readL lw ls cs) ga, blk b2 [.int .i64 lw, .int .i64 ls] 23]) (fun s => 0 ≤ s.1 ∧ s.1 ≤ (readL lw ls cs).length ∧ s.2 = wN ((readL lw ls cs).take s.1.toNat) (nth (readL lw ls cs) p.1)) (fun s => ((readL lw ls cs).length - s.1).toNat) (0, 0) (fun _ _ => rfl) rfl (by simp only [Int.toNat_zero, List.take_zero, tabC_nil]) ⟨by simp, by simp, rfl⟩ ?_
          intro q t hs
          obtain ⟨hq1, hq2, hq3⟩ := hs
          refine CS.seq ?_
          refine CS.region ?_
          refine WS.det rfl rfl rfl (det_lt rfl rfl) rfl ?_ -- r15.0 codes.go:425
          refine WS.done ?_
          refine QS.then_code ?_
          refine CS.seq ?_
          refine CS.cond rfl (fun hc5 => ?_) (fun hc5 => ?_) <;> (try simp only [decide_eq_true_eq, decide_eq_false_iff_not, Bool.and_eq_true, Bool.or_eq_true, Bool.and_eq_false_iff, Bool.or_eq_false_iff, Bool.not_eq_true', Bool.not_eq_false', ne_eq, Decidable.not_not, Bool.not_true, Bool.not_false, bne_iff_ne, bne_eq_false_iff_eq, beq_iff_eq, beq_eq_false_iff_ne] at hc5)
          · skip
            have hyb := readL_nth (cs := cs) hL hq1 (show q.1 < (readL lw ls cs).length by omega)
            have hyl := (code_of hyb).1
            have hab := ans_bd hL hxb hyb
            have hab2 : 0 ≤ commonN (nth (readL lw ls cs) q.1) (nth (readL lw ls cs) p.1) 10 - rightN (nth (readL lw ls cs) q.1) (nth (readL lw ls cs) p.1) ∧ commonN (nth (readL lw ls cs) q.1) (nth (readL lw ls cs) p.1) 10 - rightN (nth (readL lw ls cs) q.1) (nth (readL lw ls cs) p.1) ≤ 4 := hab.2
            have hcb := cntRC_bd ((readL lw ls cs).take q.1.toNat) (nth (readL lw ls cs) p.1) (rightN (nth (readL lw ls cs) q.1) (nth (readL lw ls cs) p.1)) (comN (nth (readL lw ls cs) q.1) (nth (readL lw ls cs) p.1))
            have hct := List.length_take_le q.1.toNat (readL lw ls cs)
            have hcb2 : 0 ≤ cntRC ((readL lw ls cs).take q.1.toNat) (nth (readL lw ls cs) p.1) (rightN (nth (readL lw ls cs) q.1) (nth (readL lw ls cs) p.1)) (commonN (nth (readL lw ls cs) q.1) (nth (readL lw ls cs) p.1) 10 - rightN (nth (readL lw ls cs) q.1) (nth (readL lw ls cs) p.1)) ∧ cntRC ((readL lw ls cs).take q.1.toNat) (nth (readL lw ls cs) p.1) (rightN (nth (readL lw ls cs) q.1) (nth (readL lw ls cs) p.1)) (commonN (nth (readL lw ls cs) q.1) (nth (readL lw ls cs) p.1) 10 - rightN (nth (readL lw ls cs) q.1) (nth (readL lw ls cs) p.1)) ≤ ((readL lw ls cs).take q.1.toNat).length := hcb
            refine CS.skip ?_
            refine QS.then_code ?_
            refine CS.seq ?_
            refine CS.block ?_
            refine CS.seq ?_
            refine CS.region ?_
            refine WS.det rfl rfl rfl ((by first | exact det_idxL sl51 rfl rfl (by assumption) (by omega) (by omega) | exact det_idxO sl51 rfl rfl (by omega) (by omega))) rfl ?_ -- r16.0 codes.go:425
            refine WS.det rfl rfl rfl ((by first | exact det_ldL rfl (by assumption) (by omega) tk24 | exact det_ldLR (j := 1) rfl rfl (by assumption) (by omega) tk24 | exact det_loadb (j := 0) rfl rfl rfl tk24 | exact det_loadb (j := 1) rfl rfl rfl tk24 | exact det_loadb (j := 2) rfl rfl rfl tk24 | exact det_loadb (j := 3) rfl rfl rfl tk24 | exact det_loadw rfl (by assumption) rfl tk24)) rfl ?_ -- r16.1 codes.go:425
            refine WS.det rfl rfl rfl (det_assign rfl) rfl ?_ -- r16.2 codes.go:425
            refine WS.done ?_
            refine QS.then_code ?_
            refine CS.seq ?_
            refine CS.region ?_
            refine WS.det rfl rfl rfl (det_move rfl) rfl ?_ -- r17.0 codes.go:426
            refine WS.det rfl rfl rfl (det_move rfl) rfl ?_ -- r17.1 codes.go:426
            refine WS.det rfl rfl rfl (det_callB rfl rfl ent55 (fun u hu => answer_c _ _ _ _ u ((hu.roL (j := 1) rfl).el q.1 (by omega) (by omega)) ((hu.roL (j := 1) rfl).el p.1 (by omega) (by omega)) (by omega) (by omega) (code_ten hL hyb).2 (code_ten hL hxb).2)) rfl ?_ -- r17.2 codes.go:426
            refine WS.det rfl rfl rfl (det_move rfl) rfl ?_ -- r17.3 codes.go:426
            refine WS.det rfl rfl rfl (det_extract rfl rfl) rfl ?_ -- r17.4 codes.go:426
            refine WS.det rfl rfl rfl (det_extract rfl rfl) rfl ?_ -- r17.5 codes.go:426
            refine WS.det rfl rfl rfl (det_assign rfl) rfl ?_ -- r17.6 codes.go:426
            refine WS.det rfl rfl rfl (det_assign rfl) rfl ?_ -- r17.7 codes.go:426
            refine WS.done ?_
            refine QS.then_code ?_
            refine CS.seq ?_
            refine CS.drawnTill 8 (k := 9) mixed rfl rfl ?_
            refine AT.take 0 rfl (by kernel_rfl) (na := 9) (by kernel_rfl) rfl (by kernel_rfl) (by kernel_rfl) (by kernel_rfl) rfl rfl (det_move rfl) rfl rfl ?_ -- r18.0 codes.go:427
            refine AT.take 1 rfl (by kernel_rfl) (na := 9) (by kernel_rfl) rfl (by kernel_rfl) (by kernel_rfl) (by kernel_rfl) rfl rfl (det_move rfl) rfl rfl ?_ -- r18.1 codes.go:427
            refine AT.take 2 rfl (by kernel_rfl) (na := 9) (by kernel_rfl) rfl (by kernel_rfl) (by kernel_rfl) (by kernel_rfl) rfl rfl (det_indexA arr89 rfl rfl (by omega) (by omega)) rfl rfl ?_ -- r18.2 codes.go:427
            refine AT.take 3 rfl (by kernel_rfl) (na := 9) (by kernel_rfl) rfl (by kernel_rfl) (by kernel_rfl) (by kernel_rfl) rfl rfl (det_indexA arr88 rfl rfl (by omega) (by omega)) rfl rfl ?_ -- r18.3 codes.go:427
            refine AT.take 4 rfl (by kernel_rfl) (na := 9) (by kernel_rfl) rfl (by kernel_rfl) (by kernel_rfl) (by kernel_rfl) rfl rfl (det_loadb (j := 0) rfl rfl (tabC_at hab.1 hab.2) tk3) rfl rfl ?_ -- r18.4 codes.go:427
            refine AT.take 5 rfl (by kernel_rfl) (na := 9) (by kernel_rfl) rfl (by kernel_rfl) (by kernel_rfl) (by kernel_rfl) rfl rfl (det_add rfl rfl (by omega)) rfl rfl ?_ -- r18.5 codes.go:427
            refine AT.take 6 rfl (by kernel_rfl) (na := 9) (by kernel_rfl) rfl (by kernel_rfl) (by kernel_rfl) (by kernel_rfl) rfl rfl (det_indexA arr89 rfl rfl (by omega) (by omega)) rfl rfl ?_ -- r18.6 codes.go:427
            refine AT.take 7 rfl (by kernel_rfl) (na := 9) (by kernel_rfl) rfl (by kernel_rfl) (by kernel_rfl) (by kernel_rfl) rfl rfl (det_indexA arr88 rfl rfl (by omega) (by omega)) rfl rfl ?_ -- r18.7 codes.go:427
            refine AT.one (i := 8) (by kernel_rfl) rfl (by first | (intro h; exact absurd h (by decide)) | exact fun _ _ h => h | exact fun _ _ h => h.sub (by repeat first | exact List.Sublist.refl _ | apply List.Sublist.cons_cons | apply List.Sublist.cons)) rfl ?_
            refine WS.store (j := 0) rfl rfl (by rw [tabC_len]; omega) rfl rfl tk3 (c' := tabC ((readL lw ls cs).take q.1.toNat ++ [nth (readL lw ls cs) q.1]) (nth (readL lw ls cs) p.1)) (by rw [lset_eq, ← tabC_set hab.1 hab.2]; rfl) rfl ?_ -- r18.8 codes.go:427
            refine WS.done ?_
            refine QS.then_AT ?_
            refine AT.done (by kernel_rfl) (by first | (intro h; exact absurd h (by decide)) | exact fun _ _ h => h | exact fun _ _ h => h.sub (by repeat first | exact List.Sublist.refl _ | apply List.Sublist.cons_cons | apply List.Sublist.cons)) ?_
            refine QS.then_code ?_
            refine CS.region ?_
            refine WS.det rfl rfl rfl (det_move rfl) rfl ?_ -- r19.0 codes.go:428
            refine WS.det rfl rfl rfl (det_move rfl) rfl ?_ -- r19.1 codes.go:428
            refine WS.det rfl rfl rfl (det_move rfl) rfl ?_ -- r19.2 codes.go:428
            refine WS.det rfl rfl rfl (det_indexA arr89 rfl rfl (by omega) (by omega)) rfl ?_ -- r19.3 codes.go:428
            refine WS.det rfl rfl rfl (det_indexA arr88 rfl rfl (by omega) (by omega)) rfl ?_ -- r19.4 codes.go:428
            refine WS.det rfl rfl rfl (det_loadb (j := 0) rfl rfl (tabC_at hab.1 hab.2) tk3) rfl ?_ -- r19.5 codes.go:428
            refine WS.det rfl rfl rfl (det_max rfl rfl) rfl ?_ -- r19.6 codes.go:428
            refine WS.det rfl rfl rfl (det_assign rfl) rfl ?_ -- r19.7 codes.go:428
            refine WS.done ?_
            refine QS.block_normal ?_
            refine QS.then_code ?_
            refine CS.region ?_
            refine WS.det rfl rfl rfl (det_add rfl rfl (by omega)) rfl ?_ -- r20.0 codes.go:425
            refine WS.det rfl rfl rfl (det_move rfl) rfl ?_ -- r20.1 codes.go:425
            refine WS.done ?_
            exact QS.head ((q.1 + 1, max q.2 (cntRC ((readL lw ls cs).take q.1.toNat ++ [nth (readL lw ls cs) q.1]) (nth (readL lw ls cs) p.1) (rightN (nth (readL lw ls cs) q.1) (nth (readL lw ls cs) p.1)) (comN (nth (readL lw ls cs) q.1) (nth (readL lw ls cs) p.1))))) rfl (by simp only [take_snocI _ hq1 (show q.1 < (readL lw ls cs).length by omega)]) ⟨⟨by simp; omega, by simp; omega, by simp only; rw [take_snocI _ hq1 (by omega), wN_snoc, hq3]; rfl⟩, by simp; omega⟩
          · skip
            rw [take_all _ (show ((readL lw ls cs).length : Int) ≤ q.1 by omega)] at hq3
            refine CS.leave ?_
            refine QS.then_exit ?_
            refine QS.then_exit ?_
            refine QS.block_exit ?_
            refine QS.then_code ?_
            refine CS.seq ?_
            refine CS.region ?_
            refine WS.det rfl rfl rfl (det_move rfl) rfl ?_ -- r21.0 codes.go:430
            refine WS.det rfl rfl rfl (det_eqnilV sl24 rfl rfl hpn.2) rfl ?_ -- r21.1 codes.go:430
            refine WS.det rfl rfl rfl (det_move rfl) rfl ?_ -- r21.2 codes.go:430
            refine WS.guardF rfl rfl rfl rfl (fun hg => det_move rfl) rfl ?_ -- r21.3 codes.go:430
            refine WS.guardF rfl rfl rfl rfl (fun hg => det_move rfl) rfl ?_ -- r21.4 codes.go:430
            refine WS.guardF rfl rfl rfl rfl (fun hg => det_lt (ev_cond hg rfl) (ev_cond hg rfl)) rfl ?_ -- r21.5 codes.go:430
            refine WS.det rfl rfl rfl (det_pick_or rfl rfl rfl) rfl ?_ -- r21.6 codes.go:430
            refine WS.done ?_
            refine QS.then_code ?_
            refine CS.cond rfl (fun hc6 => ?_) (fun hc6 => ?_) <;> (try simp only [decide_eq_true_eq, decide_eq_false_iff_not, Bool.and_eq_true, Bool.or_eq_true, Bool.and_eq_false_iff, Bool.or_eq_false_iff, Bool.not_eq_true', Bool.not_eq_false', ne_eq, Decidable.not_not, Bool.not_true, Bool.not_false, bne_iff_ne, bne_eq_false_iff_eq, beq_iff_eq, beq_eq_false_iff_ne] at hc6)
            · skip
              rw [hq3] at hc6
              refine CS.region ?_
              refine WS.det rfl rfl rfl (det_move rfl) rfl ?_ -- r22.0 codes.go:431
              refine WS.det rfl rfl rfl (det_move rfl) rfl ?_ -- r22.1 codes.go:431
              refine WS.det rfl rfl rfl (det_assign rfl) rfl ?_ -- r22.2 codes.go:431
              refine WS.det rfl rfl rfl (det_assign rfl) rfl ?_ -- r22.3 codes.go:431
              refine WS.done ?_
              refine QS.block_normal ?_
              refine QS.then_code ?_
              refine CS.region ?_
              refine WS.det rfl rfl rfl (det_add rfl rfl (by omega)) rfl ?_ -- r23.0 codes.go:422
              refine WS.det rfl rfl rfl (det_move rfl) rfl ?_ -- r23.1 codes.go:422
              refine WS.done ?_
              refine QS.sel [1, 1] rfl ?_
              exact QS.head ((p.1 + 1, nth ga p.1, q.2)) rfl rfl ⟨⟨by simp; omega, by simp; omega, by simp only; rw [hq3]; exact hp3.take hp1 hc6 hpn.1⟩, by simp; omega⟩
            · skip
              rw [hq3] at hc6
              refine CS.skip ?_
              refine QS.block_normal ?_
              refine QS.then_code ?_
              refine CS.region ?_
              refine WS.det rfl rfl rfl (det_add rfl rfl (by omega)) rfl ?_ -- r23.0 codes.go:422
              refine WS.det rfl rfl rfl (det_move rfl) rfl ?_ -- r23.1 codes.go:422
              refine WS.done ?_
              refine QS.sel [1, 1] rfl ?_
              exact QS.head ((p.1 + 1, p.2.1, p.2.2)) rfl rfl ⟨⟨by simp; omega, by simp; omega, hp3.leave hp1 hc6 hpn.1⟩, by simp; omega⟩
        · skip
          obtain ⟨hv1, hm1⟩ := hp3.hi (by omega)
          have hpe : p.1.toNat = (readL lw ls cs).length := by omega
          rw [hpe] at hv1 hm1
          have hbj := bestJ_lt (readL lw ls cs) (readL lw ls cs).length (by omega)
          refine CS.leave ?_
          refine QS.then_exit ?_
          refine QS.then_exit ?_
          refine QS.block_exit ?_
          refine QS.then_code ?_
          refine CS.seq ?_
          refine CS.region ?_
          refine WS.det rfl rfl rfl (det_move rfl) rfl ?_ -- r24.0 codes.go:434
          refine WS.det rfl rfl rfl (det_move rfl) rfl ?_ -- r24.1 codes.go:434
          refine WS.det rfl rfl rfl (det_assign rfl) rfl ?_ -- r24.2 codes.go:434
          refine WS.det rfl rfl rfl (det_assign rfl) rfl ?_ -- r24.3 codes.go:434
          refine WS.det rfl rfl rfl (det_assign rfl) rfl ?_ -- r24.4 codes.go:434
          refine WS.done ?_
          refine QS.then_code ?_
          refine CS.ret ?_
          exact out3 rfl rfl rfl rfl (retIq (v := p.2.1) (ys := nxG lw ls cs) (fun S u hs => by rw [hv1]; exact SlL.el (Star.ro (j := 0) rfl hs : SlL u va (readL lw ls cs) ga) _ (by omega) (by omega)) (by rw [if_pos hnx]) (by simp [hnx, hm1, nxG])) -- ret 4

theorem RNext_c (lw ls : Int) (cs : List Clue) (gs : List Value) (cv : Value) (w : World) (hk : ClS w cv cs gs) :
    Calls Try.prog 39 #[.agg #[.int .i64 lw, .int .i64 ls], cv] w (fun e w' => ∃ x : Value, (∃ u0, SlI u0 x (if nxE lw ls cs = 0 then nxG lw ls cs else [])) ∧ RetF w (.tuple #[x, .int .i64 (if nxE lw ls cs = 0 then wN (readL lw ls cs) (nxG lw ls cs) else 0), .int .i64 (nxE lw ls cs)]) (roI x (if nxE lw ls cs = 0 then nxG lw ls cs else [])) e w') := by
  refine enter Try.func39 rfl rfl (Nat.le_of_ble_eq_true rfl) ?_
  refine CS.seq ?_
  refine CS.region ?_
  refine WS.box rfl rfl (fun _ => rfl) ?_; intro b2 hb2 -- r0.0 ref.go:423
  refine WS.det rfl rfl rfl (det_assign rfl) rfl ?_ -- r0.1 ref.go:423
  refine WS.det rfl rfl rfl (det_assign rfl) rfl ?_ -- r0.2 ref.go:423
  refine WS.det rfl rfl rfl (det_assign rfl) rfl ?_ -- r0.3 ref.go:423
  refine WS.done ?_
  refine QS.then_code ?_
  refine CS.seq ?_
  refine CS.seq ?_
  refine CS.region ?_
  refine WS.det rfl rfl rfl ((by first | exact det_loadb0 (j := 0) rfl rfl tk23 | exact det_loadbN (j := 0) rfl rfl (by rfl) tk23 | exact det_loadwN rfl (by assumption) (by rfl) tk23 | exact det_loadbK (n := 2) (j := 0) rfl rfl rfl rfl tk23)) rfl ?_ -- r1.0 ref.go:424
  refine WS.det rfl rfl rfl (det_move rfl) rfl ?_ -- r1.1 ref.go:424
  refine WS.det rfl rfl rfl (det_callB rfl rfl ent33 (fun u hu => RCheckClues_c _ _ _ _ _ u (hk.st hu))) rfl ?_ -- r1.2 ref.go:424
  refine WS.det rfl rfl rfl (det_assign rfl) rfl ?_ -- r1.3 ref.go:424
  refine WS.done ?_
  refine QS.then_code ?_
  refine CS.seq ?_
  refine CS.region ?_
  refine WS.det rfl rfl rfl (det_move rfl) rfl ?_ -- r2.0 ref.go:424
  refine WS.det rfl rfl rfl (det_ne rfl rfl) rfl ?_ -- r2.1 ref.go:424
  refine WS.done ?_
  refine QS.then_code ?_
  refine CS.cond rfl (fun hc1 => ?_) (fun hc1 => ?_) <;> (try simp only [decide_eq_true_eq, decide_eq_false_iff_not, Bool.and_eq_true, Bool.or_eq_true, Bool.and_eq_false_iff, Bool.or_eq_false_iff, Bool.not_eq_true', Bool.not_eq_false', ne_eq, Decidable.not_not, Bool.not_true, Bool.not_false, bne_iff_ne, bne_eq_false_iff_eq, beq_iff_eq, beq_eq_false_iff_ne] at hc1)
  · skip
    refine CS.seq ?_
    refine CS.region ?_
    refine WS.det rfl rfl rfl (det_move rfl) rfl ?_ -- r3.0 ref.go:425
    refine WS.det rfl rfl rfl (det_assign rfl) rfl ?_ -- r3.1 ref.go:425
    refine WS.det rfl rfl rfl (det_assign rfl) rfl ?_ -- r3.2 ref.go:425
    refine WS.det rfl rfl rfl (det_assign rfl) rfl ?_ -- r3.3 ref.go:425
    refine WS.done ?_
    refine QS.then_code ?_
    refine CS.ret ?_
    refine QS.then_ret ?_
    exact out3 rfl rfl rfl rfl (retIn (by simp [nxE, hc1]) (by simp [nxE, hc1])) -- ret 1
  · skip
    have hL := cluesE_lock hc1
    have hC := cluesE_clue hc1
    have hl := lock_of hL
    refine CS.skip ?_
    refine QS.then_code ?_
    refine CS.seq ?_
    refine CS.region ?_
    refine WS.det rfl rfl rfl ((by first | exact det_loadb0 (j := 0) rfl rfl tk23 | exact det_loadbN (j := 0) rfl rfl (by rfl) tk23 | exact det_loadwN rfl (by assumption) (by rfl) tk23 | exact det_loadbK (n := 2) (j := 0) rfl rfl rfl rfl tk23)) rfl ?_ -- r4.0 ref.go:427
    refine WS.det rfl rfl rfl (det_move rfl) rfl ?_ -- r4.1 ref.go:427
    refine WS.callF rfl rfl ent69 (fun u hu => RAll_c _ _ _ _ _ u hL hC (hk.st hu)) (fun _ => rfl) ?_; rintro ⟨va, ga⟩ ⟨ua, hva⟩ -- r4.2 ref.go:427
    refine WS.det rfl rfl rfl (det_assign rfl) rfl ?_ -- r4.3 ref.go:427
    refine WS.done ?_
    refine QS.then_code ?_
    refine CS.seq ?_
    refine CS.seq ?_
    refine CS.region ?_
    refine WS.det rfl rfl rfl (det_move rfl) rfl ?_ -- r5.0 ref.go:428
    refine WS.det rfl rfl rfl ((by first | exact det_lenS sl51 rfl (by assumption) | exact det_lenS sl51 rfl (by first | exact SlL.sp (by assumption) | exact ClS.sp (by assumption)) | exact det_lenO sl51 rfl | exact det_lenV sl51 rfl ⟨_, _, rfl⟩)) rfl ?_ -- r5.1 ref.go:428
    refine WS.det rfl rfl rfl (det_eq rfl rfl) rfl ?_ -- r5.2 ref.go:428
    refine WS.done ?_
    refine QS.then_code ?_
    refine CS.cond rfl (fun hc2 => ?_) (fun hc2 => ?_) <;> (try simp only [decide_eq_true_eq, decide_eq_false_iff_not, Bool.and_eq_true, Bool.or_eq_true, Bool.and_eq_false_iff, Bool.or_eq_false_iff, Bool.not_eq_true', Bool.not_eq_false', ne_eq, Decidable.not_not, Bool.not_true, Bool.not_false, bne_iff_ne, bne_eq_false_iff_eq, beq_iff_eq, beq_eq_false_iff_ne] at hc2)
    · skip
      refine CS.seq ?_
      refine CS.region ?_
      refine WS.det rfl rfl rfl (det_assign rfl) rfl ?_ -- r6.0 ref.go:429
      refine WS.det rfl rfl rfl (det_assign rfl) rfl ?_ -- r6.1 ref.go:429
      refine WS.det rfl rfl rfl (det_assign rfl) rfl ?_ -- r6.2 ref.go:429
      refine WS.done ?_
      refine QS.then_code ?_
      refine CS.ret ?_
      refine QS.then_ret ?_
      exact out3 rfl rfl rfl rfl (retIn (by simp [nxE, hc1, show (readL lw ls cs).length = 0 by omega]) (by simp [nxE, hc1, show (readL lw ls cs).length = 0 by omega])) -- ret 2
    · skip
      refine CS.skip ?_
      refine QS.then_code ?_
      refine CS.seq ?_
      refine CS.seq ?_
      refine CS.region ?_
      refine WS.det rfl rfl rfl (det_move rfl) rfl ?_ -- r7.0 ref.go:431
      refine WS.det rfl rfl rfl ((by first | exact det_lenS sl51 rfl (by assumption) | exact det_lenS sl51 rfl (by first | exact SlL.sp (by assumption) | exact ClS.sp (by assumption)) | exact det_lenO sl51 rfl | exact det_lenV sl51 rfl ⟨_, _, rfl⟩)) rfl ?_ -- r7.1 ref.go:431
      refine WS.det rfl rfl rfl (det_gt rfl rfl) rfl ?_ -- r7.2 ref.go:431
      refine WS.done ?_
      refine QS.then_code ?_
      refine CS.cond rfl (fun hc3 => ?_) (fun hc3 => ?_) <;> (try simp only [decide_eq_true_eq, decide_eq_false_iff_not, Bool.and_eq_true, Bool.or_eq_true, Bool.and_eq_false_iff, Bool.or_eq_false_iff, Bool.not_eq_true', Bool.not_eq_false', ne_eq, Decidable.not_not, Bool.not_true, Bool.not_false, bne_iff_ne, bne_eq_false_iff_eq, beq_iff_eq, beq_eq_false_iff_ne] at hc3)
      · skip
        refine CS.seq ?_
        refine CS.region ?_
        refine WS.det rfl rfl rfl (det_assign rfl) rfl ?_ -- r8.0 ref.go:432
        refine WS.det rfl rfl rfl (det_assign rfl) rfl ?_ -- r8.1 ref.go:432
        refine WS.det rfl rfl rfl (det_assign rfl) rfl ?_ -- r8.2 ref.go:432
        refine WS.done ?_
        refine QS.then_code ?_
        refine CS.ret ?_
        refine QS.then_ret ?_
        exact out3 rfl rfl rfl rfl (retIn (by simp [nxE, hc1, show ¬ (readL lw ls cs).length = 0 by omega, show 200 < (readL lw ls cs).length by omega]) (by simp [nxE, hc1, show ¬ (readL lw ls cs).length = 0 by omega, show 200 < (readL lw ls cs).length by omega])) -- ret 3
      · skip
        have h200 : ¬ 200 < (readL lw ls cs).length := by omega
        have hnx : nxE lw ls cs = 0 := by simp [nxE, hc1, h200]; intro h; simp [h] at hc2
        have hrb := readL_le hL cs
        have hv : ∀ y ∈ readL lw ls cs, codeB lw ls y = true := fun y hy => (readL_mem hL hy).1
        refine CS.skip ?_
        refine QS.then_code ?_
        refine CS.seq ?_
        refine CS.draw mixed (by kernel_rfl) (by kernel_rfl) ?_
        refine DS.det rfl rfl (det_move rfl) rfl ?_ -- r9.0 ref.go:434
        refine DS.det rfl rfl ((by first | exact det_idxL sl51 rfl rfl (by assumption) (by omega) (by omega) | exact det_idxO sl51 rfl rfl (by omega) (by omega))) rfl ?_ -- r9.1 ref.go:434
        refine DS.det rfl rfl ((by first | exact det_ldL rfl (by assumption) (by omega) tk24 | exact det_ldLR (j := 0) rfl rfl (by assumption) (by omega) tk24 | exact det_loadb (j := 0) rfl rfl rfl tk24 | exact det_loadb (j := 1) rfl rfl rfl tk24 | exact det_loadb (j := 2) rfl rfl rfl tk24 | exact det_loadb (j := 3) rfl rfl rfl tk24 | exact det_loadw rfl (by assumption) rfl tk24)) rfl ?_ -- r9.2 ref.go:434
        refine DS.det rfl rfl (det_move rfl) rfl ?_ -- r9.3 ref.go:434
        refine DS.det rfl rfl (det_move rfl) rfl ?_ -- r9.4 ref.go:434
        refine DS.det rfl rfl ((by first | exact det_idxL sl51 rfl rfl (by assumption) (by omega) (by omega) | exact det_idxO sl51 rfl rfl (by omega) (by omega))) rfl ?_ -- r9.5 ref.go:434
        refine DS.det rfl rfl ((by first | exact det_ldL rfl (by assumption) (by omega) tk24 | exact det_ldLR (j := 0) rfl rfl (by assumption) (by omega) tk24 | exact det_loadb (j := 0) rfl rfl rfl tk24 | exact det_loadb (j := 1) rfl rfl rfl tk24 | exact det_loadb (j := 2) rfl rfl rfl tk24 | exact det_loadb (j := 3) rfl rfl rfl tk24 | exact det_loadw rfl (by assumption) rfl tk24)) rfl ?_ -- r9.6 ref.go:434
        refine DS.det rfl rfl (det_callB rfl rfl ent72 (fun u hu => worst_c lw ls _ _ _ _ _ u hL hv (readL_nth hL (by omega) (by omega)) hrb (hu.roL (j := 0) rfl) ((hu.roL (j := 0) rfl).el 0 (by omega) (by omega)))) rfl ?_ -- r9.7 ref.go:434
        refine DS.det rfl rfl (det_assign rfl) rfl ?_ -- r9.8 ref.go:434
        refine DS.det rfl rfl (det_assign rfl) rfl ?_ -- r9.9 ref.go:434
        refine DS.done ?_
        refine QS.then_code ?_
        refine CS.seq ?_
        refine CS.seq ?_
        refine CS.region ?_
        refine WS.det rfl rfl rfl (det_assign rfl) rfl ?_ -- r10.0 ref.go:435
        refine WS.done ?_
        refine QS.then_code ?_
        refine CS.block ?_
        refine CS.loopM (σ := Int × Value × Int) [12, 36, 37, 38, 39, 40, 41, 42, 43, 44, 45, 46, 47, 48, 49, 50, 51, 52, 53, 54, 55] (fun s => [(9, s.2.1), (10, .int .i64 s.2.2), (11, .int .i64 s.1)]) (fun _ => _) (fun s => 1 ≤ s.1 ∧ s.1 ≤ (readL lw ls cs).length ∧ NextI (readL lw ls cs) ga s.1 s.2.1 s.2.2) (fun s => ((readL lw ls cs).length - s.1).toNat) (1, nth ga 0, wN (readL lw ls cs) (nth (readL lw ls cs) 0)) (fun _ _ => rfl) rfl rfl ⟨by simp, by simp; omega, NextI.start.take (by omega) (Or.inl rfl) rfl⟩ ?_
        intro p t hs
        obtain ⟨hp1, hp2, hp3⟩ := hs
        have hpw := hp3.hi (by omega)
        refine CS.seq ?_
        refine CS.seq ?_
        refine CS.region ?_
        refine WS.det rfl rfl rfl (det_move rfl) rfl ?_ -- r11.0 ref.go:435
        refine WS.det rfl rfl rfl (det_move rfl) rfl ?_ -- r11.1 ref.go:435
        refine WS.det rfl rfl rfl ((by first | exact det_lenS sl51 rfl (by assumption) | exact det_lenS sl51 rfl (by first | exact SlL.sp (by assumption) | exact ClS.sp (by assumption)) | exact det_lenO sl51 rfl | exact det_lenV sl51 rfl ⟨_, _, rfl⟩)) rfl ?_ -- r11.2 ref.go:435
        refine WS.det rfl rfl rfl (det_lt rfl rfl) rfl ?_ -- r11.3 ref.go:435
        refine WS.done ?_
        refine QS.then_code ?_
        refine CS.cond rfl (fun hc4 => ?_) (fun hc4 => ?_) <;> (try simp only [decide_eq_true_eq, decide_eq_false_iff_not, Bool.and_eq_true, Bool.or_eq_true, Bool.and_eq_false_iff, Bool.or_eq_false_iff, Bool.not_eq_true', Bool.not_eq_false', ne_eq, Decidable.not_not, Bool.not_true, Bool.not_false, bne_iff_ne, bne_eq_false_iff_eq, beq_iff_eq, beq_eq_false_iff_ne] at hc4)
        · skip
          have hxb := readL_nth (cs := cs) hL (show 0 ≤ p.1 by omega) (show p.1 < (readL lw ls cs).length by omega)
          refine CS.skip ?_
          refine QS.then_code ?_
          refine CS.seq ?_
          refine CS.block ?_
          refine CS.seq ?_
          refine CS.region ?_
          refine WS.det rfl rfl rfl (det_move rfl) rfl ?_ -- r13.0 ref.go:436
          refine WS.det rfl rfl rfl (det_move rfl) rfl ?_ -- r13.1 ref.go:436
          refine WS.det rfl rfl rfl (det_move rfl) rfl ?_ -- r13.2 ref.go:436
          refine WS.det rfl rfl rfl ((by first | exact det_idxL sl51 rfl rfl (by assumption) (by omega) (by omega) | exact det_idxO sl51 rfl rfl (by omega) (by omega))) rfl ?_ -- r13.3 ref.go:436
          refine WS.det rfl rfl rfl ((by first | exact det_ldL rfl (by assumption) (by omega) tk24 | exact det_ldLR (j := 0) rfl rfl (by assumption) (by omega) tk24 | exact det_loadb (j := 0) rfl rfl rfl tk24 | exact det_loadb (j := 1) rfl rfl rfl tk24 | exact det_loadb (j := 2) rfl rfl rfl tk24 | exact det_loadb (j := 3) rfl rfl rfl tk24 | exact det_loadw rfl (by assumption) rfl tk24)) rfl ?_ -- r13.4 ref.go:436
          refine WS.det rfl rfl rfl (det_callB rfl rfl ent72 (fun u hu => worst_c lw ls _ _ _ _ _ u hL hv hxb hrb (hu.roL (j := 0) rfl) ((hu.roL (j := 0) rfl).el p.1 (by omega) (by omega)))) rfl ?_ -- r13.5 ref.go:436
          refine WS.det rfl rfl rfl (det_assign rfl) rfl ?_ -- r13.6 ref.go:436
          refine WS.done ?_
          refine QS.then_code ?_
          refine CS.seq ?_
          refine CS.region ?_
          refine WS.det rfl rfl rfl (det_move rfl) rfl ?_ -- r14.0 ref.go:436
          refine WS.det rfl rfl rfl (det_move rfl) rfl ?_ -- r14.1 ref.go:436
          refine WS.det rfl rfl rfl (det_lt rfl rfl) rfl ?_ -- r14.2 ref.go:436
          refine WS.done ?_
          refine QS.then_code ?_
          refine CS.cond rfl (fun hc5 => ?_) (fun hc5 => ?_) <;> (try simp only [decide_eq_true_eq, decide_eq_false_iff_not, Bool.and_eq_true, Bool.or_eq_true, Bool.and_eq_false_iff, Bool.or_eq_false_iff, Bool.not_eq_true', Bool.not_eq_false', ne_eq, Decidable.not_not, Bool.not_true, Bool.not_false, bne_iff_ne, bne_eq_false_iff_eq, beq_iff_eq, beq_eq_false_iff_ne] at hc5)
          · skip
            refine CS.seq ?_
            refine CS.region ?_
            refine WS.det rfl rfl rfl (det_move rfl) rfl ?_ -- r15.0 ref.go:437
            refine WS.det rfl rfl rfl (det_move rfl) rfl ?_ -- r15.1 ref.go:437
            refine WS.det rfl rfl rfl ((by first | exact det_idxL sl51 rfl rfl (by assumption) (by omega) (by omega) | exact det_idxO sl51 rfl rfl (by omega) (by omega))) rfl ?_ -- r15.2 ref.go:437
            refine WS.det rfl rfl rfl ((by first | exact det_ldL rfl (by assumption) (by omega) tk24 | exact det_ldLR (j := 0) rfl rfl (by assumption) (by omega) tk24 | exact det_loadb (j := 0) rfl rfl rfl tk24 | exact det_loadb (j := 1) rfl rfl rfl tk24 | exact det_loadb (j := 2) rfl rfl rfl tk24 | exact det_loadb (j := 3) rfl rfl rfl tk24 | exact det_loadw rfl (by assumption) rfl tk24)) rfl ?_ -- r15.3 ref.go:437
            refine WS.det rfl rfl rfl (det_assign rfl) rfl ?_ -- r15.4 ref.go:437
            refine WS.done ?_
            refine QS.then_code ?_
            refine CS.region ?_
            refine WS.det rfl rfl rfl (det_move rfl) rfl ?_ -- r16.0 ref.go:438
            refine WS.det rfl rfl rfl (det_assign rfl) rfl ?_ -- r16.1 ref.go:438
            refine WS.done ?_
            refine QS.block_normal ?_
            refine QS.then_code ?_
            refine CS.region ?_
            refine WS.det rfl rfl rfl (det_move rfl) rfl ?_ -- r12.0 ref.go:435
            refine WS.det rfl rfl rfl (det_add rfl rfl (by omega)) rfl ?_ -- r12.1 ref.go:435
            refine WS.det rfl rfl rfl (det_assign rfl) rfl ?_ -- r12.2 ref.go:435
            refine WS.done ?_
            exact QS.head ((p.1 + 1, nth ga p.1, wN (readL lw ls cs) (nth (readL lw ls cs) p.1))) rfl rfl ⟨⟨by simp; omega, by simp; omega, hp3.take1 hp1 hc5⟩, by simp; omega⟩
          · skip
            refine CS.skip ?_
            refine QS.block_normal ?_
            refine QS.then_code ?_
            refine CS.region ?_
            refine WS.det rfl rfl rfl (det_move rfl) rfl ?_ -- r12.0 ref.go:435
            refine WS.det rfl rfl rfl (det_add rfl rfl (by omega)) rfl ?_ -- r12.1 ref.go:435
            refine WS.det rfl rfl rfl (det_assign rfl) rfl ?_ -- r12.2 ref.go:435
            refine WS.done ?_
            exact QS.head ((p.1 + 1, p.2.1, p.2.2)) rfl rfl ⟨⟨by simp; omega, by simp; omega, hp3.leave1 hp1 hc5⟩, by simp; omega⟩
        · skip
          obtain ⟨hv1, hm1⟩ := hp3.hi (by omega)
          have hpe : p.1.toNat = (readL lw ls cs).length := by omega
          rw [hpe] at hv1 hm1
          have hbj := bestJ_lt (readL lw ls cs) (readL lw ls cs).length (by omega)
          refine CS.leave ?_
          refine QS.then_exit ?_
          refine QS.then_exit ?_
          refine QS.block_exit ?_
          refine QS.then_code ?_
          refine CS.seq ?_
          refine CS.region ?_
          refine WS.det rfl rfl rfl (det_move rfl) rfl ?_ -- r17.0 ref.go:441
          refine WS.det rfl rfl rfl (det_move rfl) rfl ?_ -- r17.1 ref.go:441
          refine WS.det rfl rfl rfl (det_assign rfl) rfl ?_ -- r17.2 ref.go:441
          refine WS.det rfl rfl rfl (det_assign rfl) rfl ?_ -- r17.3 ref.go:441
          refine WS.det rfl rfl rfl (det_assign rfl) rfl ?_ -- r17.4 ref.go:441
          refine WS.done ?_
          refine QS.then_code ?_
          refine CS.ret ?_
          exact out3 rfl rfl rfl rfl (retIq (v := p.2.1) (ys := nxG lw ls cs) (fun S u hs => by rw [hv1]; exact SlL.el (Star.ro (j := 0) rfl hs : SlL u va (readL lw ls cs) ga) _ (by omega) (by omega)) (by rw [if_pos hnx]) (by simp [hnx, hm1, nxG])) -- ret 4

end Go.Proofs.Ytldagbcceefcdaa
