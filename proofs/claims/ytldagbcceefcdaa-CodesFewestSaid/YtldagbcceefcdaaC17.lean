/- Contracts of functions, printed by a program of the prover (gen.py). -/
import Derived.Test.YtldagbcceefcdaaC16
namespace Go.Proofs.Ytldagbcceefcdaa
open Go.RowKit Go.Proofs
set_option maxRecDepth 100000
set_option linter.unusedVariables false
set_option linter.unusedSimpArgs false

theorem Core_c (lw ls : Int) (cs : List Clue) (gs : List Value) (cv : Value) (w : World) (hk : ClS w cv cs gs) :
    Calls Try.prog 46 #[.agg #[.int .i64 lw, .int .i64 ls], cv] w (fun e w' => ∃ x : Value, (∃ u0, SlI u0 x (if cluesE lw ls cs = 0 then (coreTo lw ls cs cs.length).map Int.ofNat else [])) ∧ RetF w (.tuple #[x, .int .i64 (cluesE lw ls cs)]) (roI x (if cluesE lw ls cs = 0 then (coreTo lw ls cs cs.length).map Int.ofNat else [])) e w') := by
  refine enter Try.func46 rfl rfl (Nat.le_of_ble_eq_true rfl) ?_
  refine CS.seq ?_
  refine CS.region ?_
  refine WS.box rfl rfl (fun _ => rfl) ?_; intro b2 hb2 -- r0.0 codes.go:313
  refine WS.det rfl rfl rfl (det_assign rfl) rfl ?_ -- r0.1 codes.go:313
  refine WS.det rfl rfl rfl (det_assign rfl) rfl ?_ -- r0.2 codes.go:313
  refine WS.done ?_
  refine QS.then_code ?_
  refine CS.seq ?_
  refine CS.seq ?_
  refine CS.region ?_
  refine WS.det rfl rfl rfl ((by first | exact det_loadb0 (j := 0) rfl rfl tk23 | exact det_loadbN (j := 0) rfl rfl (by rfl) tk23 | exact det_loadwN rfl (by assumption) (by rfl) tk23 | exact det_loadbK (n := 2) (j := 0) rfl rfl rfl rfl tk23)) rfl ?_ -- r1.0 codes.go:314
  refine WS.det rfl rfl rfl (det_move rfl) rfl ?_ -- r1.1 codes.go:314
  refine WS.det rfl rfl rfl (det_callB rfl rfl ent57 (fun u hu => checkClues_c _ _ _ _ _ u (hk.st hu))) rfl ?_ -- r1.2 codes.go:314
  refine WS.det rfl rfl rfl (det_assign rfl) rfl ?_ -- r1.3 codes.go:314
  refine WS.done ?_
  refine QS.then_code ?_
  refine CS.seq ?_
  refine CS.region ?_
  refine WS.det rfl rfl rfl (det_move rfl) rfl ?_ -- r2.0 codes.go:314
  refine WS.det rfl rfl rfl (det_ne rfl rfl) rfl ?_ -- r2.1 codes.go:314
  refine WS.done ?_
  refine QS.then_code ?_
  refine CS.cond rfl (fun hc1 => ?_) (fun hc1 => ?_) <;> (try simp only [decide_eq_true_eq, decide_eq_false_iff_not, Bool.and_eq_true, Bool.or_eq_true, Bool.and_eq_false_iff, Bool.or_eq_false_iff, Bool.not_eq_true', Bool.not_eq_false', ne_eq, Decidable.not_not, Bool.not_true, Bool.not_false, bne_iff_ne, bne_eq_false_iff_eq, beq_iff_eq, beq_eq_false_iff_ne] at hc1)
  · skip
    refine CS.seq ?_
    refine CS.region ?_
    refine WS.det rfl rfl rfl (det_move rfl) rfl ?_ -- r3.0 codes.go:315
    refine WS.det rfl rfl rfl (det_assign rfl) rfl ?_ -- r3.1 codes.go:315
    refine WS.det rfl rfl rfl (det_assign rfl) rfl ?_ -- r3.2 codes.go:315
    refine WS.done ?_
    refine QS.then_code ?_
    refine CS.ret ?_
    refine QS.then_ret ?_
    exact out2 rfl rfl rfl (retIn (by simp [hc1]) (by simp [hc1])) -- ret 1
  · skip
    have hL := cluesE_lock hc1
    have hC := cluesE_clue hc1
    have hcl20 := cluesE_len hc1
    have hgl := hk.len
    have hol := clFlat_one (cs := cs) hk.one
    refine CS.skip ?_
    refine QS.then_code ?_
    refine CS.seq ?_
    refine CS.region ?_
    refine WS.det rfl rfl rfl ((by first | exact det_loadb0 (j := 0) rfl rfl tk23 | exact det_loadbN (j := 0) rfl rfl (by rfl) tk23 | exact det_loadwN rfl (by assumption) (by rfl) tk23 | exact det_loadbK (n := 2) (j := 0) rfl rfl rfl rfl tk23)) rfl ?_ -- r4.0 codes.go:317
    refine WS.det rfl rfl rfl (det_move rfl) rfl ?_ -- r4.1 codes.go:317
    refine WS.det rfl rfl rfl (det_callB rfl rfl ent70 (fun u hu => count_c _ _ _ _ _ u hL hC (hk.st hu))) rfl ?_ -- r4.2 codes.go:317
    refine WS.det rfl rfl rfl (det_assign rfl) rfl ?_ -- r4.3 codes.go:317
    refine WS.done ?_
    refine QS.then_code ?_
    refine CS.seq ?_
    refine CS.region ?_
    refine WS.det rfl rfl rfl (det_move rfl) rfl ?_ -- r5.0 codes.go:318
    refine WS.callF rfl rfl ent74 (fun u hu => CloneC_c cs gs _ u (hk.st hu) (by omega)) (fun _ => rfl) ?_; intro v21 hv21 -- r5.1 codes.go:318
    refine WS.det rfl rfl rfl (det_assign rfl) rfl ?_ -- r5.2 codes.go:318
    refine WS.done ?_
    refine QS.then_code ?_
    refine CS.seq ?_
    refine CS.seq ?_
    refine CS.region ?_
    refine WS.det rfl rfl rfl (det_move rfl) rfl ?_ -- r6.0 codes.go:319
    refine WS.det rfl rfl rfl ((by first | exact det_lenS sl31 rfl (by assumption) | exact det_lenS sl31 rfl (by first | exact SlL.sp (by assumption) | exact ClS.sp (by assumption)) | exact det_lenO sl31 rfl | exact det_lenV sl31 rfl ⟨_, _, rfl⟩)) rfl ?_ -- r6.1 codes.go:319
    refine WS.det rfl rfl rfl (det_move rfl) rfl ?_ -- r6.2 codes.go:319
    refine WS.done ?_
    refine QS.then_code ?_
    refine CS.block ?_
    refine CS.weak (fun _ hu => hu.osl0 (e := 3) (size := 1)) ?_
    refine CS.loopM (σ := Int × Value × Value) [9, 10, 25, 26, 27, 28, 29, 30, 31, 32, 33, 34, 35, 36, 37, 38, 39, 40, 41, 42, 43, 44, 45] (fun s => [(4, s.2.1), (8, s.2.2), (24, .int .i64 s.1)]) (fun s => [oints 3 s.2.1 ((coreTo lw ls cs s.1.toNat).map Int.ofNat), osl 36 7 s.2.2 (pickN cs (leftN lw ls cs s.1.toNat)).length (clFlat (pickN cs (leftN lw ls cs s.1.toNat)) (pickN gs (leftN lw ls cs s.1.toNat))), blk b2 [.int .i64 lw, .int .i64 ls] 23]) (fun s => 0 ≤ s.1 ∧ s.1 ≤ cs.length) (fun s => (cs.length - s.1).toNat) (0, .slice none 0 0, v21) (fun _ _ => rfl) rfl (by simp only [Int.toNat_zero, leftN_zero, leftN_zeroG hgl]; rfl) ⟨by simp, by simp⟩ ?_
    intro s t hs
    obtain ⟨hs1, hs2⟩ := hs
    refine CS.seq ?_
    refine CS.region ?_
    refine WS.det rfl rfl rfl (det_lt rfl rfl) rfl ?_ -- r7.0 codes.go:319
    refine WS.done ?_
    refine QS.then_code ?_
    refine CS.seq ?_
    refine CS.cond rfl (fun hc2 => ?_) (fun hc2 => ?_) <;> (try simp only [decide_eq_true_eq, decide_eq_false_iff_not, Bool.and_eq_true, Bool.or_eq_true, Bool.and_eq_false_iff, Bool.or_eq_false_iff, Bool.not_eq_true', Bool.not_eq_false', ne_eq, Decidable.not_not, Bool.not_true, Bool.not_false, bne_iff_ne, bne_eq_false_iff_eq, beq_iff_eq, beq_eq_false_iff_ne] at hc2)
    · skip
      have hin : s.1.toNat < cs.length := by omega
      have e1 : (s.1 + 1).toNat = s.1.toNat + 1 := by omega
      have hlt : ∀ k ∈ leftN lw ls cs s.1.toNat, k < cs.length := fun k hk => leftN_lt k hk (by omega)
      have hltg : ∀ k ∈ leftN lw ls cs s.1.toNat, k < gs.length := fun k hk => by rw [hgl]; exact hlt k hk
      have hll := leftN_len (w := lw) (s := ls) (cs := cs) (i := s.1.toNat) (by omega)
      have hcl := coreTo_len lw ls cs s.1.toNat
      have hkk : ((((coreTo lw ls cs s.1.toNat).map Int.ofNat).length : Int)).toNat = (coreTo lw ls cs s.1.toNat).length := by simp
      have hki := leftN_at (w := lw) (s := ls) (cs := cs) (i := s.1.toNat) hin
      have heC : (pickN cs (leftN lw ls cs s.1.toNat)).eraseIdx ((((coreTo lw ls cs s.1.toNat).map Int.ofNat).length : Int)).toNat = pickN cs (coreTo lw ls cs s.1.toNat ++ restN cs.length (s.1.toNat + 1)) := by rw [hkk, ← pickN_era, leftN_era hin]
      have heG : (pickN gs (leftN lw ls cs s.1.toNat)).eraseIdx ((((coreTo lw ls cs s.1.toNat).map Int.ofNat).length : Int)).toNat = pickN gs (coreTo lw ls cs s.1.toNat ++ restN cs.length (s.1.toNat + 1)) := by rw [hkk, ← pickN_era, leftN_era hin]
      have herl : ∀ c ∈ (pickN cs (leftN lw ls cs s.1.toNat)).eraseIdx ((((coreTo lw ls cs s.1.toNat).map Int.ofNat).length : Int)).toNat, clueB lw ls c = true := fun c hc => hC c (pickN_mem hlt (List.mem_of_mem_eraseIdx hc))
      refine CS.skip ?_
      refine QS.then_code ?_
      refine CS.seq ?_
      refine CS.block ?_
      refine CS.seq ?_
      refine CS.region ?_
      refine WS.det rfl rfl rfl (det_move rfl) rfl ?_ -- r8.0 codes.go:319
      refine WS.det rfl rfl rfl (det_assign rfl) rfl ?_ -- r8.1 codes.go:319
      refine WS.done ?_
      refine QS.then_code ?_
      refine CS.seq ?_
      refine CS.region ?_
      refine WS.det rfl rfl rfl (det_move rfl) rfl ?_ -- r9.0 codes.go:321
      refine WS.callF rfl rfl ent74 (fun u hu => CloneC_c (pickN cs (leftN lw ls cs s.1.toNat)) (pickN gs (leftN lw ls cs s.1.toNat)) _ u ((hk.st hu).pick hlt (osl_SlC hu (j := 1) rfl)) (by rw [pickN_len]; omega)) (fun _ => rfl) ?_; intro v28 hv28 -- r9.1 codes.go:321
      refine WS.det rfl rfl rfl (det_move rfl) rfl ?_ -- r9.2 codes.go:321
      refine WS.det rfl rfl rfl (det_lenOI (j := 1) sl24 rfl rfl) rfl ?_ -- r9.3 codes.go:321
      refine WS.det rfl rfl rfl (det_move rfl) rfl ?_ -- r9.4 codes.go:321
      refine WS.det rfl rfl rfl (det_lenOI (j := 1) sl24 rfl rfl) rfl ?_ -- r9.5 codes.go:321
      refine WS.det rfl rfl rfl (det_add rfl rfl (by omega)) rfl ?_ -- r9.6 codes.go:321
      refine WS.callS (p := fun v' : Value => v'.oneCell' = true) rfl rfl ent73 (fun u hu => DeleteC_c _ (pickN cs (leftN lw ls cs s.1.toNat)) (pickN gs (leftN lw ls cs s.1.toNat)) _ _ hu (by simp [pickN_len]) (pick_one hk.one hltg) (by omega) (by rw [pickN_len, List.length_map]; omega) (by rw [pickN_len]; omega)) (fun _ => rfl) ?_; intro v34 hv34 -- r9.7 codes.go:321
      refine WS.det rfl rfl rfl (det_assign rfl) rfl ?_ -- r9.8 codes.go:321
      refine WS.done ?_
      refine QS.then_code ?_
      refine CS.seq ?_
      refine CS.region ?_
      refine WS.det rfl rfl rfl ((by first | exact det_loadb0 (j := 3) rfl rfl tk23 | exact det_loadbN (j := 3) rfl rfl (by rfl) tk23 | exact det_loadwN rfl (by assumption) (by rfl) tk23 | exact det_loadbK (n := 2) (j := 3) rfl rfl rfl rfl tk23)) rfl ?_ -- r10.0 codes.go:321
      refine WS.det rfl rfl rfl (det_move rfl) rfl ?_ -- r10.1 codes.go:321
      refine WS.det rfl rfl rfl (det_callB rfl rfl ent70 (fun u hu => count_c _ _ _ _ _ u hL herl (((hk.st hu).pick hlt (osl_SlC hu (j := 2) rfl)).era (osl_SlC hu (j := 0) rfl)))) rfl ?_ -- r10.2 codes.go:321
      refine WS.det rfl rfl rfl (det_move rfl) rfl ?_ -- r10.3 codes.go:321
      refine WS.det rfl rfl rfl (det_eq rfl rfl) rfl ?_ -- r10.4 codes.go:321
      refine WS.done ?_
      refine QS.then_code ?_
      refine CS.cond rfl (fun hc3 => ?_) (fun hc3 => ?_) <;> (try simp only [decide_eq_true_eq, decide_eq_false_iff_not, Bool.and_eq_true, Bool.or_eq_true, Bool.and_eq_false_iff, Bool.or_eq_false_iff, Bool.not_eq_true', Bool.not_eq_false', ne_eq, Decidable.not_not, Bool.not_true, Bool.not_false, bne_iff_ne, bne_eq_false_iff_eq, beq_iff_eq, beq_eq_false_iff_ne] at hc3)
      · skip
        rw [heC] at hc3
        have hcnt : (readL lw ls (pickN cs (coreTo lw ls cs s.1.toNat ++ restN cs.length (s.1.toNat + 1)))).length = (readL lw ls cs).length := by omega
        refine CS.region ?_
        refine WS.det rfl rfl rfl (det_move rfl) rfl ?_ -- r11.0 codes.go:322
        refine WS.det rfl rfl rfl (det_assign rfl) rfl ?_ -- r11.1 codes.go:322
        refine WS.done ?_
        refine QS.block_normal ?_
        refine QS.then_code ?_
        refine CS.region ?_
        refine WS.det rfl rfl rfl (det_add rfl rfl (by omega)) rfl ?_ -- r13.0 codes.go:319
        refine WS.det rfl rfl rfl (det_move rfl) rfl ?_ -- r13.1 codes.go:319
        refine WS.done ?_
        refine QS.sel [1, 0, 1] rfl ?_
        skip
        exact QS.head ((s.1 + 1, s.2.1, v34)) rfl (by first | simp only [e1, leftN_yes hin hcnt, coreTo_yes hcnt, heC, heG] | (simp only [e1, leftN_no hin hcnt, coreTo_no hcnt, List.map_append, List.map_singleton]; simp only [Int.ofNat_eq_natCast, Int.toNat_of_nonneg hs1])) ⟨⟨by simp; omega, by simp; omega⟩, by simp; omega⟩
      · skip
        rw [heC] at hc3
        have hcnt : ¬ (readL lw ls (pickN cs (coreTo lw ls cs s.1.toNat ++ restN cs.length (s.1.toNat + 1)))).length = (readL lw ls cs).length := by omega
        refine CS.region ?_
        refine WS.det rfl rfl rfl (det_move rfl) rfl ?_ -- r12.0 codes.go:324
        refine WS.det rfl rfl rfl (det_move rfl) rfl ?_ -- r12.1 codes.go:324
        refine WS.buildI1 sl24 zv3 rfl (fun _ => rfl) ?_; intro v43 -- r12.2 codes.go:324
        refine WS.appendI (j := 2) sl24 zv3 rfl rfl rfl (fun u hu => oints_SlI hu (j := 0) rfl) (by first | omega | (simp; omega) | (simp only [List.length_append, List.length_singleton, List.length_map, List.length_cons, List.length_nil] at *; omega)) (by first | omega | (simp; omega) | (simp only [List.length_append, List.length_singleton, List.length_map, List.length_cons, List.length_nil] at *; omega)) (fun _ => rfl) (fun _ => rfl) ?_; intro v44; refine WS.oc (j := 2) rfl (fun hv44 => ?_) -- r12.3 codes.go:324
        refine WS.det rfl rfl rfl (det_assign rfl) rfl ?_ -- r12.4 codes.go:324
        refine WS.done ?_
        refine QS.block_normal ?_
        refine QS.then_code ?_
        refine CS.region ?_
        refine WS.det rfl rfl rfl (det_add rfl rfl (by omega)) rfl ?_ -- r13.0 codes.go:319
        refine WS.det rfl rfl rfl (det_move rfl) rfl ?_ -- r13.1 codes.go:319
        refine WS.done ?_
        refine QS.sel [2, 2, 2] rfl ?_
        exact QS.head ((s.1 + 1, v44, s.2.2)) rfl (by first | simp only [e1, leftN_yes hin hcnt, coreTo_yes hcnt, heC, heG] | (simp only [e1, leftN_no hin hcnt, coreTo_no hcnt, List.map_append, List.map_singleton]; simp only [Int.ofNat_eq_natCast, Int.toNat_of_nonneg hs1])) ⟨⟨by simp; omega, by simp; omega⟩, by simp; omega⟩
    · skip
      refine CS.leave ?_
      refine QS.then_exit ?_
      refine QS.then_exit ?_
      refine QS.block_exit ?_
      refine QS.then_code ?_
      refine CS.seq ?_
      refine CS.region ?_
      refine WS.det rfl rfl rfl (det_move rfl) rfl ?_ -- r14.0 codes.go:327
      refine WS.det rfl rfl rfl (det_assign rfl) rfl ?_ -- r14.1 codes.go:327
      refine WS.det rfl rfl rfl (det_assign rfl) rfl ?_ -- r14.2 codes.go:327
      refine WS.done ?_
      refine QS.then_code ?_
      refine CS.ret ?_
      exact out2 rfl rfl rfl (retIe (j := 0) rfl (by rw [if_pos hc1, show s.1.toNat = cs.length by omega]) (by rw [hc1])) -- ret 2

theorem RCore_c (lw ls : Int) (cs : List Clue) (gs : List Value) (cv : Value) (w : World) (hk : ClS w cv cs gs) :
    Calls Try.prog 47 #[.agg #[.int .i64 lw, .int .i64 ls], cv] w (fun e w' => ∃ x : Value, (∃ u0, SlI u0 x (if cluesE lw ls cs = 0 then (coreTo lw ls cs cs.length).map Int.ofNat else [])) ∧ RetF w (.tuple #[x, .int .i64 (cluesE lw ls cs)]) (roI x (if cluesE lw ls cs = 0 then (coreTo lw ls cs cs.length).map Int.ofNat else [])) e w') := by
  refine enter Try.func47 rfl rfl (Nat.le_of_ble_eq_true rfl) ?_
  refine CS.seq ?_
  refine CS.region ?_
  refine WS.box rfl rfl (fun _ => rfl) ?_; intro b2 hb2 -- r0.0 ref.go:335
  refine WS.det rfl rfl rfl (det_assign rfl) rfl ?_ -- r0.1 ref.go:335
  refine WS.det rfl rfl rfl (det_assign rfl) rfl ?_ -- r0.2 ref.go:335
  refine WS.done ?_
  refine QS.then_code ?_
  refine CS.seq ?_
  refine CS.region ?_
  refine WS.det rfl rfl rfl ((by first | exact det_loadb0 (j := 0) rfl rfl tk23 | exact det_loadbN (j := 0) rfl rfl (by rfl) tk23 | exact det_loadwN rfl (by assumption) (by rfl) tk23 | exact det_loadbK (n := 2) (j := 0) rfl rfl rfl rfl tk23)) rfl ?_ -- r1.0 ref.go:336
  refine WS.det rfl rfl rfl (det_move rfl) rfl ?_ -- r1.1 ref.go:336
  refine WS.det rfl rfl rfl (det_callB rfl rfl ent37 (fun u hu => RCount_c _ _ _ _ _ u (hk.st hu))) rfl ?_ -- r1.2 ref.go:336
  refine WS.det rfl rfl rfl (det_move rfl) rfl ?_ -- r1.3 ref.go:336
  refine WS.det rfl rfl rfl (det_extract rfl rfl) rfl ?_ -- r1.4 ref.go:336
  refine WS.det rfl rfl rfl (det_extract rfl rfl) rfl ?_ -- r1.5 ref.go:336
  refine WS.det rfl rfl rfl (det_assign rfl) rfl ?_ -- r1.6 ref.go:336
  refine WS.det rfl rfl rfl (det_assign rfl) rfl ?_ -- r1.7 ref.go:336
  refine WS.done ?_
  refine QS.then_code ?_
  refine CS.seq ?_
  refine CS.seq ?_
  refine CS.region ?_
  refine WS.det rfl rfl rfl (det_move rfl) rfl ?_ -- r2.0 ref.go:337
  refine WS.det rfl rfl rfl (det_ne rfl rfl) rfl ?_ -- r2.1 ref.go:337
  refine WS.done ?_
  refine QS.then_code ?_
  refine CS.cond rfl (fun hc1 => ?_) (fun hc1 => ?_) <;> (try simp only [decide_eq_true_eq, decide_eq_false_iff_not, Bool.and_eq_true, Bool.or_eq_true, Bool.and_eq_false_iff, Bool.or_eq_false_iff, Bool.not_eq_true', Bool.not_eq_false', ne_eq, Decidable.not_not, Bool.not_true, Bool.not_false, bne_iff_ne, bne_eq_false_iff_eq, beq_iff_eq, beq_eq_false_iff_ne] at hc1)
  · skip
    refine CS.seq ?_
    refine CS.region ?_
    refine WS.det rfl rfl rfl (det_move rfl) rfl ?_ -- r3.0 ref.go:338
    refine WS.det rfl rfl rfl (det_assign rfl) rfl ?_ -- r3.1 ref.go:338
    refine WS.det rfl rfl rfl (det_assign rfl) rfl ?_ -- r3.2 ref.go:338
    refine WS.done ?_
    refine QS.then_code ?_
    refine CS.ret ?_
    refine QS.then_ret ?_
    exact out2 rfl rfl rfl (retIn (by simp [hc1]) (by simp [hc1])) -- ret 1
  · skip
    have hL := cluesE_lock hc1
    have hC := cluesE_clue hc1
    have hcl20 := cluesE_len hc1
    have hgl := hk.len
    have hol := clFlat_one (cs := cs) hk.one
    have hnb : numsB ((cs.length : Int).toNat) (-1) = (leftN lw ls cs 0).map Int.ofNat := by rw [leftN_range]; exact numsB_all cs.length
    refine CS.skip ?_
    refine QS.then_code ?_
    refine CS.seq ?_
    refine CS.region ?_
    refine WS.det rfl rfl rfl (det_move rfl) rfl ?_ -- r4.0 ref.go:340
    refine WS.det rfl rfl rfl ((by first | exact det_lenS sl31 rfl (by assumption) | exact det_lenS sl31 rfl (by first | exact SlL.sp (by assumption) | exact ClS.sp (by assumption)) | exact det_lenO sl31 rfl | exact det_lenV sl31 rfl ⟨_, _, rfl⟩)) rfl ?_ -- r4.1 ref.go:340
    refine WS.callF rfl rfl ent76 (fun u hu => numbers_c _ _ u (by omega) (by omega)) (fun _ => rfl) ?_; intro v23 hv23 -- r4.2 ref.go:340
    refine WS.det rfl rfl rfl (det_assign rfl) rfl ?_ -- r4.3 ref.go:340
    refine WS.done ?_
    refine QS.then_code ?_
    refine CS.seq ?_
    refine CS.seq ?_
    refine CS.region ?_
    refine WS.det rfl rfl rfl (det_assign rfl) rfl ?_ -- r5.0 ref.go:341
    refine WS.done ?_
    refine QS.then_code ?_
    refine CS.block ?_
    refine CS.loopM (σ := Int × Value) [10, 11, 24, 25, 26, 27, 28, 29, 30, 31, 32, 33, 34, 35, 36, 37, 38, 39, 40, 41, 42, 43, 44, 45, 46, 47, 48, 49, 50, 51, 52, 53, 54, 55, 56, 57] (fun s => [(8, s.2), (9, .int .i64 s.1)]) (fun s => [oints 3 s.2 ((leftN lw ls cs s.1.toNat).map Int.ofNat), blk b2 [.int .i64 lw, .int .i64 ls] 23]) (fun s => 0 ≤ s.1 ∧ s.1 ≤ cs.length) (fun s => (cs.length - s.1).toNat) (0, v23) (fun _ _ => rfl) rfl (by simp only [Int.toNat_zero, ← hnb]) ⟨by simp, by simp⟩ ?_
    intro r t hs
    obtain ⟨hr1, hr2⟩ := hs
    refine CS.seq ?_
    refine CS.seq ?_
    refine CS.region ?_
    refine WS.det rfl rfl rfl (det_move rfl) rfl ?_ -- r6.0 ref.go:341
    refine WS.det rfl rfl rfl (det_move rfl) rfl ?_ -- r6.1 ref.go:341
    refine WS.det rfl rfl rfl ((by first | exact det_lenS sl31 rfl (by assumption) | exact det_lenS sl31 rfl (by first | exact SlL.sp (by assumption) | exact ClS.sp (by assumption)) | exact det_lenO sl31 rfl | exact det_lenV sl31 rfl ⟨_, _, rfl⟩)) rfl ?_ -- r6.2 ref.go:341
    refine WS.det rfl rfl rfl (det_lt rfl rfl) rfl ?_ -- r6.3 ref.go:341
    refine WS.done ?_
    refine QS.then_code ?_
    refine CS.cond rfl (fun hc2 => ?_) (fun hc2 => ?_) <;> (try simp only [decide_eq_true_eq, decide_eq_false_iff_not, Bool.and_eq_true, Bool.or_eq_true, Bool.and_eq_false_iff, Bool.or_eq_false_iff, Bool.not_eq_true', Bool.not_eq_false', ne_eq, Decidable.not_not, Bool.not_true, Bool.not_false, bne_iff_ne, bne_eq_false_iff_eq, beq_iff_eq, beq_eq_false_iff_ne] at hc2)
    · skip
      have hin : r.1.toNat < cs.length := by omega
      have e1 : (r.1 + 1).toNat = r.1.toNat + 1 := by omega
      have hlt : ∀ k ∈ leftN lw ls cs r.1.toNat, k < cs.length := fun k hk => leftN_lt k hk (by omega)
      have hltg : ∀ k ∈ leftN lw ls cs r.1.toNat, k < gs.length := fun k hk => by rw [hgl]; exact hlt k hk
      have hll := leftN_len (w := lw) (s := ls) (cs := cs) (i := r.1.toNat) (by omega)
      have hcl := coreTo_len lw ls cs r.1.toNat
      have hfl := leftN_filter (w := lw) (s := ls) (cs := cs) (i := r.1.toNat) hin
      have hml : ((leftN lw ls cs r.1.toNat).map Int.ofNat).length = (leftN lw ls cs r.1.toNat).length := by simp
      refine CS.skip ?_
      refine QS.then_code ?_
      refine CS.seq ?_
      refine CS.block ?_
      refine CS.seq ?_
      refine CS.region ?_
      refine WS.det rfl rfl rfl (det_assign rfl) rfl ?_ -- r8.0 ref.go:342
      refine WS.done ?_
      refine QS.then_code ?_
      refine CS.seq ?_
      refine CS.seq ?_
      refine CS.region ?_
      refine WS.det rfl rfl rfl (det_assign rfl) rfl ?_ -- r9.0 ref.go:343
      refine WS.done ?_
      refine QS.then_code ?_
      refine CS.block ?_
      refine CS.weak (fun _ hu => hu.osl0 (e := 3) (size := 1)) ?_
      refine CS.loopM (σ := Int × Value) [30, 31, 32, 33, 34, 35, 36, 37, 38, 39, 40, 41, 42, 43, 44, 45, 46, 47, 48] (fun s => [(10, s.2), (11, .int .i64 s.1)]) (fun s => [oints 3 s.2 ((((leftN lw ls cs r.1.toNat).take s.1.toNat).filter (fun k => decide (k ≠ r.1.toNat))).map Int.ofNat), oints 3 r.2 ((leftN lw ls cs r.1.toNat).map Int.ofNat), blk b2 [.int .i64 lw, .int .i64 ls] 23]) (fun s => 0 ≤ s.1 ∧ s.1 ≤ (leftN lw ls cs r.1.toNat).length) (fun s => ((leftN lw ls cs r.1.toNat).length - s.1).toNat) (0, .slice none 0 0) (fun _ _ => rfl) rfl rfl ⟨by simp, by simp⟩ ?_
      intro q t hs
      obtain ⟨hq1, hq2⟩ := hs
      have hfl2 : (((leftN lw ls cs r.1.toNat).take q.1.toNat).filter (fun k => decide (k ≠ r.1.toNat))).length ≤ q.1.toNat := Nat.le_trans (List.length_filter_le _ _) (List.length_take_le _ _)
      refine CS.seq ?_
      refine CS.seq ?_
      refine CS.region ?_
      refine WS.det rfl rfl rfl (det_move rfl) rfl ?_ -- r10.0 ref.go:343
      refine WS.det rfl rfl rfl (det_move rfl) rfl ?_ -- r10.1 ref.go:343
      refine WS.det rfl rfl rfl (det_lenOI (j := 1) sl24 rfl rfl) rfl ?_ -- r10.2 ref.go:343
      refine WS.det rfl rfl rfl (det_lt rfl rfl) rfl ?_ -- r10.3 ref.go:343
      refine WS.done ?_
      refine QS.then_code ?_
      refine CS.cond rfl (fun hc3 => ?_) (fun hc3 => ?_) <;> (try simp only [decide_eq_true_eq, decide_eq_false_iff_not, Bool.and_eq_true, Bool.or_eq_true, Bool.and_eq_false_iff, Bool.or_eq_false_iff, Bool.not_eq_true', Bool.not_eq_false', ne_eq, Decidable.not_not, Bool.not_true, Bool.not_false, bne_iff_ne, bne_eq_false_iff_eq, beq_iff_eq, beq_eq_false_iff_ne] at hc3)
      · skip
        have hq3 : q.1 < (leftN lw ls cs r.1.toNat).length := by omega
        have hat := ofNat_at (leftN lw ls cs r.1.toNat) hq1 hq3
        refine CS.skip ?_
        refine QS.then_code ?_
        refine CS.seq ?_
        refine CS.block ?_
        refine CS.seq ?_
        refine CS.region ?_
        refine WS.det rfl rfl rfl (det_move rfl) rfl ?_ -- r12.0 ref.go:344
        refine WS.det rfl rfl rfl (det_move rfl) rfl ?_ -- r12.1 ref.go:344
        refine WS.det rfl rfl rfl (det_idxOI (j := 1) sl24 rfl rfl rfl (by omega) (by omega)) rfl ?_ -- r12.2 ref.go:344
        refine WS.det rfl rfl rfl (det_ldOI (j := 1) rfl rfl (by omega) tk3) rfl ?_ -- r12.3 ref.go:344
        refine WS.det rfl rfl rfl (det_move rfl) rfl ?_ -- r12.4 ref.go:344
        refine WS.det rfl rfl rfl (det_ne rfl rfl) rfl ?_ -- r12.5 ref.go:344
        refine WS.done ?_
        refine QS.then_code ?_
        refine CS.cond rfl (fun hc4 => ?_) (fun hc4 => ?_) <;> (try simp only [decide_eq_true_eq, decide_eq_false_iff_not, Bool.and_eq_true, Bool.or_eq_true, Bool.and_eq_false_iff, Bool.or_eq_false_iff, Bool.not_eq_true', Bool.not_eq_false', ne_eq, Decidable.not_not, Bool.not_true, Bool.not_false, bne_iff_ne, bne_eq_false_iff_eq, beq_iff_eq, beq_eq_false_iff_ne] at hc4)
        · skip
          have hne : ¬ (leftN lw ls cs r.1.toNat).getD q.1.toNat 0 = r.1.toNat := by omega
          refine CS.region ?_
          refine WS.det rfl rfl rfl (det_move rfl) rfl ?_ -- r13.0 ref.go:345
          refine WS.det rfl rfl rfl (det_move rfl) rfl ?_ -- r13.1 ref.go:345
          refine WS.det rfl rfl rfl (det_move rfl) rfl ?_ -- r13.2 ref.go:345
          refine WS.det rfl rfl rfl (det_idxOI (j := 1) sl24 rfl rfl rfl (by omega) (by omega)) rfl ?_ -- r13.3 ref.go:345
          refine WS.det rfl rfl rfl (det_ldOI (j := 1) rfl rfl (by omega) tk3) rfl ?_ -- r13.4 ref.go:345
          refine WS.buildI1 sl24 zv3 rfl (fun _ => rfl) ?_; intro v47 -- r13.5 ref.go:345
          refine WS.appendI (j := 1) sl24 zv3 rfl rfl rfl (fun u hu => oints_SlI hu (j := 0) rfl) (by first | omega | (simp; omega) | (simp only [List.length_append, List.length_singleton, List.length_map, List.length_cons, List.length_nil] at *; omega)) (by first | omega | (simp; omega) | (simp only [List.length_append, List.length_singleton, List.length_map, List.length_cons, List.length_nil] at *; omega)) (fun _ => rfl) (fun _ => rfl) ?_; intro v48; refine WS.oc (j := 1) rfl (fun hv48 => ?_) -- r13.6 ref.go:345
          refine WS.det rfl rfl rfl (det_assign rfl) rfl ?_ -- r13.7 ref.go:345
          refine WS.done ?_
          refine QS.block_normal ?_
          refine QS.then_code ?_
          refine CS.region ?_
          refine WS.det rfl rfl rfl (det_move rfl) rfl ?_ -- r11.0 ref.go:343
          refine WS.det rfl rfl rfl (det_add rfl rfl (by omega)) rfl ?_ -- r11.1 ref.go:343
          refine WS.det rfl rfl rfl (det_assign rfl) rfl ?_ -- r11.2 ref.go:343
          refine WS.done ?_
          refine QS.sel [1, 1, 1] rfl ?_
          exact QS.head ((q.1 + 1, v48)) rfl (by simp only [fil_snocI (leftN lw ls cs r.1.toNat) hq1 hq3, decide_eq_true_eq, ne_eq, hne, not_false_eq_true, not_true_eq_false, if_true, if_false, List.append_nil]) ⟨⟨by simp; omega, by simp; omega⟩, by simp; omega⟩
        · skip
          have hne : (leftN lw ls cs r.1.toNat).getD q.1.toNat 0 = r.1.toNat := by omega
          refine CS.skip ?_
          refine QS.block_normal ?_
          refine QS.then_code ?_
          refine CS.region ?_
          refine WS.det rfl rfl rfl (det_move rfl) rfl ?_ -- r11.0 ref.go:343
          refine WS.det rfl rfl rfl (det_add rfl rfl (by omega)) rfl ?_ -- r11.1 ref.go:343
          refine WS.det rfl rfl rfl (det_assign rfl) rfl ?_ -- r11.2 ref.go:343
          refine WS.done ?_
          exact QS.head ((q.1 + 1, q.2)) rfl (by simp only [fil_snocI (leftN lw ls cs r.1.toNat) hq1 hq3, decide_eq_true_eq, ne_eq, hne, not_false_eq_true, not_true_eq_false, if_true, if_false, List.append_nil]) ⟨⟨by simp; omega, by simp; omega⟩, by simp; omega⟩
      · skip
        have hfw : ((leftN lw ls cs r.1.toNat).take q.1.toNat).filter (fun k => decide (k ≠ r.1.toNat)) = coreTo lw ls cs r.1.toNat ++ restN cs.length (r.1.toNat + 1) := by rw [List.take_of_length_le (by omega), hfl]
        have hfk : ∀ k ∈ coreTo lw ls cs r.1.toNat ++ restN cs.length (r.1.toNat + 1), k < cs.length := fun k hk => by
          rw [← hfl] at hk
          exact hlt k (List.mem_filter.1 hk).1
        have hfn : (coreTo lw ls cs r.1.toNat ++ restN cs.length (r.1.toNat + 1)).length ≤ 1000 := by
          have := List.length_filter_le (fun k => decide (k ≠ r.1.toNat)) (leftN lw ls cs r.1.toNat)
          rw [hfl] at this
          omega
        have hfc : ∀ c ∈ pickN cs (coreTo lw ls cs r.1.toNat ++ restN cs.length (r.1.toNat + 1)), clueB lw ls c = true := fun c hc => hC c (pickN_mem hfk hc)
        refine CS.leave ?_
        refine QS.then_exit ?_
        refine QS.then_exit ?_
        refine QS.block_exit ?_
        refine QS.then_code ?_
        refine CS.seq ?_
        refine CS.drawnAll (k := 8) mixed rfl rfl ?_
        refine AS.take 0 rfl (by kernel_rfl) (by kernel_rfl) (by kernel_rfl) rfl rfl ((by first | exact det_loadb0 (j := 2) rfl rfl tk23 | exact det_loadbN (j := 2) rfl rfl (by rfl) tk23 | exact det_loadwN rfl (by assumption) (by rfl) tk23 | exact det_loadbK (n := 2) (j := 2) rfl rfl rfl rfl tk23)) rfl rfl ?_ -- r14.0 ref.go:348
        refine AS.take 1 rfl (by kernel_rfl) (by kernel_rfl) (by kernel_rfl) rfl rfl (det_move rfl) rfl rfl ?_ -- r14.1 ref.go:348
        refine AS.take 2 rfl (by kernel_rfl) (by kernel_rfl) (by kernel_rfl) rfl rfl (det_move rfl) rfl rfl ?_ -- r14.2 ref.go:348
        refine AS.take 6 rfl (by kernel_rfl) (by kernel_rfl) (by kernel_rfl) rfl rfl (det_move rfl) rfl rfl ?_ -- r14.6 ref.go:348
        refine AS.one (i := 3) (by kernel_rfl) rfl (by first | exact fun _ h => h | exact fun _ h => h.sub (by repeat first | exact List.Sublist.refl _ | apply List.Sublist.cons_cons | apply List.Sublist.cons)) rfl ?_
        refine WS.callF rfl rfl ent75 (fun u hu => Some_c cs gs _ (coreTo lw ls cs r.1.toNat ++ restN cs.length (r.1.toNat + 1)) _ u (hk.st hu) (by rw [← hfw]; exact oints_SlI hu (j := 0) rfl) hfk hfn) (fun _ => rfl) ?_; intro v52 hv52 -- r14.3 ref.go:348
        refine WS.done ?_
        refine QS.then_AS ?_
        refine AS.one (i := 4) (by kernel_rfl) rfl (by first | exact fun _ h => h | exact fun _ h => h.sub (by repeat first | exact List.Sublist.refl _ | apply List.Sublist.cons_cons | apply List.Sublist.cons)) rfl ?_
        refine WS.callF rfl rfl ent69 (fun u hu => RAll_c _ _ _ _ _ u hL hfc ((hk.st hu).pick hfk (osl_SlC hu (j := 0) rfl))) (fun _ => rfl) ?_; rintro ⟨va, ga⟩ ⟨ua, hva⟩ -- r14.4 ref.go:348
        refine WS.done ?_
        refine QS.then_AS ?_
        refine AS.one (i := 5) (by kernel_rfl) rfl (by first | exact fun _ h => h | exact fun _ h => h.sub (by repeat first | exact List.Sublist.refl _ | apply List.Sublist.cons_cons | apply List.Sublist.cons)) rfl ?_
        refine WS.det rfl rfl rfl (det_lenS sl51 rfl (SlL.sp hva)) rfl ?_ -- r14.5 ref.go:348
        refine WS.done ?_
        refine QS.then_AS ?_
        refine AS.one (i := 7) (by kernel_rfl) rfl (by first | exact fun _ h => h | exact fun _ h => h.sub (by repeat first | exact List.Sublist.refl _ | apply List.Sublist.cons_cons | apply List.Sublist.cons)) rfl ?_
        refine WS.det rfl rfl rfl (det_eq rfl rfl) rfl ?_ -- r14.7 ref.go:348
        refine WS.done ?_
        refine QS.then_AS ?_
        refine AS.done (by kernel_rfl) (by first | exact fun _ h => h | exact fun _ h => h.sub (by repeat first | exact List.Sublist.refl _ | apply List.Sublist.cons_cons | apply List.Sublist.cons)) ?_
        refine QS.then_code ?_
        refine CS.cond rfl (fun hc5 => ?_) (fun hc5 => ?_) <;> (try simp only [decide_eq_true_eq, decide_eq_false_iff_not, Bool.and_eq_true, Bool.or_eq_true, Bool.and_eq_false_iff, Bool.or_eq_false_iff, Bool.not_eq_true', Bool.not_eq_false', ne_eq, Decidable.not_not, Bool.not_true, Bool.not_false, bne_iff_ne, bne_eq_false_iff_eq, beq_iff_eq, beq_eq_false_iff_ne] at hc5)
        · skip
          have hcnt : (readL lw ls (pickN cs (coreTo lw ls cs r.1.toNat ++ restN cs.length (r.1.toNat + 1)))).length = (readL lw ls cs).length := by
            simp only [if_pos hc1] at hc5; omega
          refine CS.region ?_
          refine WS.det rfl rfl rfl (det_move rfl) rfl ?_ -- r15.0 ref.go:349
          refine WS.det rfl rfl rfl (det_assign rfl) rfl ?_ -- r15.1 ref.go:349
          refine WS.done ?_
          refine QS.block_normal ?_
          refine QS.then_code ?_
          refine CS.region ?_
          refine WS.det rfl rfl rfl (det_move rfl) rfl ?_ -- r7.0 ref.go:341
          refine WS.det rfl rfl rfl (det_add rfl rfl (by omega)) rfl ?_ -- r7.1 ref.go:341
          refine WS.det rfl rfl rfl (det_assign rfl) rfl ?_ -- r7.2 ref.go:341
          refine WS.done ?_
          refine QS.sel [2, 3] rfl ?_
          skip
          exact QS.head ((r.1 + 1, q.2)) rfl (by first | simp only [e1, leftN_yes hin hcnt, ← hfw] | simp only [e1, leftN_no hin hcnt]) ⟨⟨by simp; omega, by simp; omega⟩, by simp; omega⟩
        · skip
          have hcnt : ¬ (readL lw ls (pickN cs (coreTo lw ls cs r.1.toNat ++ restN cs.length (r.1.toNat + 1)))).length = (readL lw ls cs).length := by
            simp only [if_pos hc1] at hc5; omega
          refine CS.skip ?_
          refine QS.block_normal ?_
          refine QS.then_code ?_
          refine CS.region ?_
          refine WS.det rfl rfl rfl (det_move rfl) rfl ?_ -- r7.0 ref.go:341
          refine WS.det rfl rfl rfl (det_add rfl rfl (by omega)) rfl ?_ -- r7.1 ref.go:341
          refine WS.det rfl rfl rfl (det_assign rfl) rfl ?_ -- r7.2 ref.go:341
          refine WS.done ?_
          refine QS.sel [3, 3] rfl ?_
          exact QS.head ((r.1 + 1, r.2)) rfl (by first | simp only [e1, leftN_yes hin hcnt, ← hfw] | simp only [e1, leftN_no hin hcnt]) ⟨⟨by simp; omega, by simp; omega⟩, by simp; omega⟩
    · skip
      refine CS.leave ?_
      refine QS.then_exit ?_
      refine QS.then_exit ?_
      refine QS.block_exit ?_
      refine QS.then_code ?_
      refine CS.seq ?_
      refine CS.region ?_
      refine WS.det rfl rfl rfl (det_move rfl) rfl ?_ -- r16.0 ref.go:352
      refine WS.det rfl rfl rfl (det_assign rfl) rfl ?_ -- r16.1 ref.go:352
      refine WS.det rfl rfl rfl (det_assign rfl) rfl ?_ -- r16.2 ref.go:352
      refine WS.done ?_
      refine QS.then_code ?_
      refine CS.ret ?_
      exact out2 rfl rfl rfl (retIe (j := 0) rfl (by rw [if_pos hc1, show r.1.toNat = cs.length by omega, leftN_end]) (by rw [hc1])) -- ret 2

theorem Pair_c (lw ls : Int) (cs : List Clue) (gs : List Value) (cv : Value) (w : World) (hk : ClS w cv cs gs) :
    Calls Try.prog 48 #[.agg #[.int .i64 lw, .int .i64 ls], cv] w (fun e w' => ∃ x : Value × Value, (∃ u0, SlI u0 x.1 (if prE lw ls cs = 0 then nth (readL lw ls cs) 0 else []) ∧ SlI u0 x.2 (if prE lw ls cs = 0 then nth (readL lw ls cs) ((readL lw ls cs).length - 1) else [])) ∧ RetF w (.tuple #[x.1, x.2, .int .i64 (prE lw ls cs)]) (roS fun u => SlI u x.1 (if prE lw ls cs = 0 then nth (readL lw ls cs) 0 else []) ∧ SlI u x.2 (if prE lw ls cs = 0 then nth (readL lw ls cs) ((readL lw ls cs).length - 1) else [])) e w') := by
  refine enter Try.func48 rfl rfl (Nat.le_of_ble_eq_true rfl) ?_
  refine CS.seq ?_
  refine CS.region ?_
  refine WS.box rfl rfl (fun _ => rfl) ?_; intro b2 hb2 -- r0.0 codes.go:331
  refine WS.det rfl rfl rfl (det_assign rfl) rfl ?_ -- r0.1 codes.go:331
  refine WS.det rfl rfl rfl (det_assign rfl) rfl ?_ -- r0.2 codes.go:331
  refine WS.det rfl rfl rfl (det_assign rfl) rfl ?_ -- r0.3 codes.go:331
  refine WS.done ?_
  refine QS.then_code ?_
  refine CS.seq ?_
  refine CS.seq ?_
  refine CS.region ?_
  refine WS.det rfl rfl rfl ((by first | exact det_loadb0 (j := 0) rfl rfl tk23 | exact det_loadbN (j := 0) rfl rfl (by rfl) tk23 | exact det_loadwN rfl (by assumption) (by rfl) tk23 | exact det_loadbK (n := 2) (j := 0) rfl rfl rfl rfl tk23)) rfl ?_ -- r1.0 codes.go:332
  refine WS.det rfl rfl rfl (det_move rfl) rfl ?_ -- r1.1 codes.go:332
  refine WS.det rfl rfl rfl (det_callB rfl rfl ent57 (fun u hu => checkClues_c _ _ _ _ _ u (hk.st hu))) rfl ?_ -- r1.2 codes.go:332
  refine WS.det rfl rfl rfl (det_assign rfl) rfl ?_ -- r1.3 codes.go:332
  refine WS.done ?_
  refine QS.then_code ?_
  refine CS.seq ?_
  refine CS.region ?_
  refine WS.det rfl rfl rfl (det_move rfl) rfl ?_ -- r2.0 codes.go:332
  refine WS.det rfl rfl rfl (det_ne rfl rfl) rfl ?_ -- r2.1 codes.go:332
  refine WS.done ?_
  refine QS.then_code ?_
  refine CS.cond rfl (fun hc1 => ?_) (fun hc1 => ?_) <;> (try simp only [decide_eq_true_eq, decide_eq_false_iff_not, Bool.and_eq_true, Bool.or_eq_true, Bool.and_eq_false_iff, Bool.or_eq_false_iff, Bool.not_eq_true', Bool.not_eq_false', ne_eq, Decidable.not_not, Bool.not_true, Bool.not_false, bne_iff_ne, bne_eq_false_iff_eq, beq_iff_eq, beq_eq_false_iff_ne] at hc1)
  · skip
    refine CS.seq ?_
    refine CS.region ?_
    refine WS.det rfl rfl rfl (det_move rfl) rfl ?_ -- r3.0 codes.go:333
    refine WS.det rfl rfl rfl (det_assign rfl) rfl ?_ -- r3.1 codes.go:333
    refine WS.det rfl rfl rfl (det_assign rfl) rfl ?_ -- r3.2 codes.go:333
    refine WS.det rfl rfl rfl (det_assign rfl) rfl ?_ -- r3.3 codes.go:333
    refine WS.done ?_
    refine QS.then_code ?_
    refine CS.ret ?_
    refine QS.then_ret ?_
    exact out3 rfl rfl rfl rfl (retP (fun _ u _ => ⟨by simpa [prE, hc1] using SlI.none u, by simpa [prE, hc1] using SlI.none u⟩) (by simp [prE, hc1])) -- ret 1
  · skip
    have hL := cluesE_lock hc1
    have hC := cluesE_clue hc1
    refine CS.skip ?_
    refine QS.then_code ?_
    refine CS.seq ?_
    refine CS.region ?_
    refine WS.det rfl rfl rfl ((by first | exact det_loadb0 (j := 0) rfl rfl tk23 | exact det_loadbN (j := 0) rfl rfl (by rfl) tk23 | exact det_loadwN rfl (by assumption) (by rfl) tk23 | exact det_loadbK (n := 2) (j := 0) rfl rfl rfl rfl tk23)) rfl ?_ -- r4.0 codes.go:335
    refine WS.det rfl rfl rfl (det_move rfl) rfl ?_ -- r4.1 codes.go:335
    refine WS.callF rfl rfl ent71 (fun u hu => all_c _ _ _ _ _ u hL hC (hk.st hu)) (fun _ => rfl) ?_; rintro ⟨va, ga⟩ ⟨ua, hva⟩ -- r4.2 codes.go:335
    refine WS.det rfl rfl rfl (det_assign rfl) rfl ?_ -- r4.3 codes.go:335
    refine WS.done ?_
    refine QS.then_code ?_
    refine CS.seq ?_
    refine CS.seq ?_
    refine CS.region ?_
    refine WS.det rfl rfl rfl (det_move rfl) rfl ?_ -- r5.0 codes.go:336
    refine WS.det rfl rfl rfl ((by first | exact det_lenS sl51 rfl (by assumption) | exact det_lenS sl51 rfl (by first | exact SlL.sp (by assumption) | exact ClS.sp (by assumption)) | exact det_lenO sl51 rfl | exact det_lenV sl51 rfl ⟨_, _, rfl⟩)) rfl ?_ -- r5.1 codes.go:336
    refine WS.det rfl rfl rfl (det_lt rfl rfl) rfl ?_ -- r5.2 codes.go:336
    refine WS.done ?_
    refine QS.then_code ?_
    refine CS.cond rfl (fun hc2 => ?_) (fun hc2 => ?_) <;> (try simp only [decide_eq_true_eq, decide_eq_false_iff_not, Bool.and_eq_true, Bool.or_eq_true, Bool.and_eq_false_iff, Bool.or_eq_false_iff, Bool.not_eq_true', Bool.not_eq_false', ne_eq, Decidable.not_not, Bool.not_true, Bool.not_false, bne_iff_ne, bne_eq_false_iff_eq, beq_iff_eq, beq_eq_false_iff_ne] at hc2)
    · skip
      refine CS.seq ?_
      refine CS.region ?_
      refine WS.det rfl rfl rfl (det_assign rfl) rfl ?_ -- r6.0 codes.go:337
      refine WS.det rfl rfl rfl (det_assign rfl) rfl ?_ -- r6.1 codes.go:337
      refine WS.det rfl rfl rfl (det_assign rfl) rfl ?_ -- r6.2 codes.go:337
      refine WS.done ?_
      refine QS.then_code ?_
      refine CS.ret ?_
      refine QS.then_ret ?_
      exact out3 rfl rfl rfl rfl (retP (fun _ u _ => ⟨by simpa [prE, hc1, show (readL lw ls cs).length < 2 by omega] using SlI.none u, by simpa [prE, hc1, show (readL lw ls cs).length < 2 by omega] using SlI.none u⟩) (by simp [prE, hc1, show (readL lw ls cs).length < 2 by omega])) -- ret 2
    · skip
      have hpe : prE lw ls cs = 0 := by simp [prE, hc1]; omega
      have hrb := readL_le hL cs
      refine CS.skip ?_
      refine QS.then_code ?_
      refine CS.seq ?_
      refine CS.draw mixed (by kernel_rfl) (by kernel_rfl) ?_
      refine DS.det rfl rfl (det_move rfl) rfl ?_ -- r7.0 codes.go:339
      refine DS.det rfl rfl ((by first | exact det_idxL sl51 rfl rfl (by assumption) (by omega) (by omega) | exact det_idxO sl51 rfl rfl (by omega) (by omega))) rfl ?_ -- r7.1 codes.go:339
      refine DS.det rfl rfl ((by first | exact det_ldL rfl (by assumption) (by omega) tk24 | exact det_ldLR (j := 0) rfl rfl (by assumption) (by omega) tk24 | exact det_loadb (j := 0) rfl rfl rfl tk24 | exact det_loadb (j := 1) rfl rfl rfl tk24 | exact det_loadb (j := 2) rfl rfl rfl tk24 | exact det_loadb (j := 3) rfl rfl rfl tk24 | exact det_loadw rfl (by assumption) rfl tk24)) rfl ?_ -- r7.2 codes.go:339
      refine DS.det rfl rfl (det_move rfl) rfl ?_ -- r7.3 codes.go:339
      refine DS.det rfl rfl (det_move rfl) rfl ?_ -- r7.4 codes.go:339
      refine DS.det rfl rfl ((by first | exact det_lenS sl51 rfl (by assumption) | exact det_lenS sl51 rfl (by first | exact SlL.sp (by assumption) | exact ClS.sp (by assumption)) | exact det_lenO sl51 rfl | exact det_lenV sl51 rfl ⟨_, _, rfl⟩)) rfl ?_ -- r7.5 codes.go:339
      refine DS.det rfl rfl (det_sub rfl rfl (by omega)) rfl ?_ -- r7.6 codes.go:339
      refine DS.det rfl rfl ((by first | exact det_idxL sl51 rfl rfl (by assumption) (by omega) (by omega) | exact det_idxO sl51 rfl rfl (by omega) (by omega))) rfl ?_ -- r7.7 codes.go:339
      refine DS.det rfl rfl ((by first | exact det_ldL rfl (by assumption) (by omega) tk24 | exact det_ldLR (j := 0) rfl rfl (by assumption) (by omega) tk24 | exact det_loadb (j := 0) rfl rfl rfl tk24 | exact det_loadb (j := 1) rfl rfl rfl tk24 | exact det_loadb (j := 2) rfl rfl rfl tk24 | exact det_loadb (j := 3) rfl rfl rfl tk24 | exact det_loadw rfl (by assumption) rfl tk24)) rfl ?_ -- r7.8 codes.go:339
      refine DS.det rfl rfl (det_assign rfl) rfl ?_ -- r7.9 codes.go:339
      refine DS.det rfl rfl (det_assign rfl) rfl ?_ -- r7.10 codes.go:339
      refine DS.det rfl rfl (det_assign rfl) rfl ?_ -- r7.11 codes.go:339
      refine DS.done ?_
      refine QS.then_code ?_
      refine CS.ret ?_
      exact out3 rfl rfl rfl rfl (retP (v1 := nth ga 0) (v2 := nth ga ((readL lw ls cs).length - 1)) (fun S u hs => by
              have h1 : SlL u va (readL lw ls cs) ga := Star.ro (j := 0) rfl hs
              rw [if_pos hpe, if_pos hpe]
              exact ⟨h1.el 0 (by omega) (by omega), h1.el _ (by omega) (by omega)⟩) (by rw [hpe])) -- ret 3

theorem RPair_c (lw ls : Int) (cs : List Clue) (gs : List Value) (cv : Value) (w : World) (hk : ClS w cv cs gs) :
    Calls Try.prog 49 #[.agg #[.int .i64 lw, .int .i64 ls], cv] w (fun e w' => ∃ x : Value × Value, (∃ u0, SlI u0 x.1 (if prE lw ls cs = 0 then nth (readL lw ls cs) 0 else []) ∧ SlI u0 x.2 (if prE lw ls cs = 0 then nth (readL lw ls cs) ((readL lw ls cs).length - 1) else [])) ∧ RetF w (.tuple #[x.1, x.2, .int .i64 (prE lw ls cs)]) (roS fun u => SlI u x.1 (if prE lw ls cs = 0 then nth (readL lw ls cs) 0 else []) ∧ SlI u x.2 (if prE lw ls cs = 0 then nth (readL lw ls cs) ((readL lw ls cs).length - 1) else [])) e w') := by
  refine enter Try.func49 rfl rfl (Nat.le_of_ble_eq_true rfl) ?_
  refine CS.seq ?_
  refine CS.region ?_
  refine WS.box rfl rfl (fun _ => rfl) ?_; intro b2 hb2 -- r0.0 ref.go:356
  refine WS.det rfl rfl rfl (det_assign rfl) rfl ?_ -- r0.1 ref.go:356
  refine WS.det rfl rfl rfl (det_assign rfl) rfl ?_ -- r0.2 ref.go:356
  refine WS.det rfl rfl rfl (det_assign rfl) rfl ?_ -- r0.3 ref.go:356
  refine WS.done ?_
  refine QS.then_code ?_
  refine CS.seq ?_
  refine CS.seq ?_
  refine CS.region ?_
  refine WS.det rfl rfl rfl ((by first | exact det_loadb0 (j := 0) rfl rfl tk23 | exact det_loadbN (j := 0) rfl rfl (by rfl) tk23 | exact det_loadwN rfl (by assumption) (by rfl) tk23 | exact det_loadbK (n := 2) (j := 0) rfl rfl rfl rfl tk23)) rfl ?_ -- r1.0 ref.go:357
  refine WS.det rfl rfl rfl (det_move rfl) rfl ?_ -- r1.1 ref.go:357
  refine WS.det rfl rfl rfl (det_callB rfl rfl ent33 (fun u hu => RCheckClues_c _ _ _ _ _ u (hk.st hu))) rfl ?_ -- r1.2 ref.go:357
  refine WS.det rfl rfl rfl (det_assign rfl) rfl ?_ -- r1.3 ref.go:357
  refine WS.done ?_
  refine QS.then_code ?_
  refine CS.seq ?_
  refine CS.region ?_
  refine WS.det rfl rfl rfl (det_move rfl) rfl ?_ -- r2.0 ref.go:357
  refine WS.det rfl rfl rfl (det_ne rfl rfl) rfl ?_ -- r2.1 ref.go:357
  refine WS.done ?_
  refine QS.then_code ?_
  refine CS.cond rfl (fun hc1 => ?_) (fun hc1 => ?_) <;> (try simp only [decide_eq_true_eq, decide_eq_false_iff_not, Bool.and_eq_true, Bool.or_eq_true, Bool.and_eq_false_iff, Bool.or_eq_false_iff, Bool.not_eq_true', Bool.not_eq_false', ne_eq, Decidable.not_not, Bool.not_true, Bool.not_false, bne_iff_ne, bne_eq_false_iff_eq, beq_iff_eq, beq_eq_false_iff_ne] at hc1)
  · skip
    refine CS.seq ?_
    refine CS.region ?_
    refine WS.det rfl rfl rfl (det_move rfl) rfl ?_ -- r3.0 ref.go:358
    refine WS.det rfl rfl rfl (det_assign rfl) rfl ?_ -- r3.1 ref.go:358
    refine WS.det rfl rfl rfl (det_assign rfl) rfl ?_ -- r3.2 ref.go:358
    refine WS.det rfl rfl rfl (det_assign rfl) rfl ?_ -- r3.3 ref.go:358
    refine WS.done ?_
    refine QS.then_code ?_
    refine CS.ret ?_
    refine QS.then_ret ?_
    exact out3 rfl rfl rfl rfl (retP (fun _ u _ => ⟨by simpa [prE, hc1] using SlI.none u, by simpa [prE, hc1] using SlI.none u⟩) (by simp [prE, hc1])) -- ret 1
  · skip
    have hL := cluesE_lock hc1
    have hC := cluesE_clue hc1
    refine CS.skip ?_
    refine QS.then_code ?_
    refine CS.seq ?_
    refine CS.region ?_
    refine WS.det rfl rfl rfl ((by first | exact det_loadb0 (j := 0) rfl rfl tk23 | exact det_loadbN (j := 0) rfl rfl (by rfl) tk23 | exact det_loadwN rfl (by assumption) (by rfl) tk23 | exact det_loadbK (n := 2) (j := 0) rfl rfl rfl rfl tk23)) rfl ?_ -- r4.0 ref.go:360
    refine WS.det rfl rfl rfl (det_move rfl) rfl ?_ -- r4.1 ref.go:360
    refine WS.callF rfl rfl ent69 (fun u hu => RAll_c _ _ _ _ _ u hL hC (hk.st hu)) (fun _ => rfl) ?_; rintro ⟨va, ga⟩ ⟨ua, hva⟩ -- r4.2 ref.go:360
    refine WS.det rfl rfl rfl (det_assign rfl) rfl ?_ -- r4.3 ref.go:360
    refine WS.done ?_
    refine QS.then_code ?_
    refine CS.seq ?_
    refine CS.seq ?_
    refine CS.region ?_
    refine WS.det rfl rfl rfl (det_move rfl) rfl ?_ -- r5.0 ref.go:361
    refine WS.det rfl rfl rfl ((by first | exact det_lenS sl51 rfl (by assumption) | exact det_lenS sl51 rfl (by first | exact SlL.sp (by assumption) | exact ClS.sp (by assumption)) | exact det_lenO sl51 rfl | exact det_lenV sl51 rfl ⟨_, _, rfl⟩)) rfl ?_ -- r5.1 ref.go:361
    refine WS.det rfl rfl rfl (det_lt rfl rfl) rfl ?_ -- r5.2 ref.go:361
    refine WS.done ?_
    refine QS.then_code ?_
    refine CS.cond rfl (fun hc2 => ?_) (fun hc2 => ?_) <;> (try simp only [decide_eq_true_eq, decide_eq_false_iff_not, Bool.and_eq_true, Bool.or_eq_true, Bool.and_eq_false_iff, Bool.or_eq_false_iff, Bool.not_eq_true', Bool.not_eq_false', ne_eq, Decidable.not_not, Bool.not_true, Bool.not_false, bne_iff_ne, bne_eq_false_iff_eq, beq_iff_eq, beq_eq_false_iff_ne] at hc2)
    · skip
      refine CS.seq ?_
      refine CS.region ?_
      refine WS.det rfl rfl rfl (det_assign rfl) rfl ?_ -- r6.0 ref.go:362
      refine WS.det rfl rfl rfl (det_assign rfl) rfl ?_ -- r6.1 ref.go:362
      refine WS.det rfl rfl rfl (det_assign rfl) rfl ?_ -- r6.2 ref.go:362
      refine WS.done ?_
      refine QS.then_code ?_
      refine CS.ret ?_
      refine QS.then_ret ?_
      exact out3 rfl rfl rfl rfl (retP (fun _ u _ => ⟨by simpa [prE, hc1, show (readL lw ls cs).length < 2 by omega] using SlI.none u, by simpa [prE, hc1, show (readL lw ls cs).length < 2 by omega] using SlI.none u⟩) (by simp [prE, hc1, show (readL lw ls cs).length < 2 by omega])) -- ret 2
    · skip
      have hpe : prE lw ls cs = 0 := by simp [prE, hc1]; omega
      have hrb := readL_le hL cs
      refine CS.skip ?_
      refine QS.then_code ?_
      refine CS.seq ?_
      refine CS.draw mixed (by kernel_rfl) (by kernel_rfl) ?_
      refine DS.det rfl rfl (det_move rfl) rfl ?_ -- r7.0 ref.go:364
      refine DS.det rfl rfl ((by first | exact det_idxL sl51 rfl rfl (by assumption) (by omega) (by omega) | exact det_idxO sl51 rfl rfl (by omega) (by omega))) rfl ?_ -- r7.1 ref.go:364
      refine DS.det rfl rfl ((by first | exact det_ldL rfl (by assumption) (by omega) tk24 | exact det_ldLR (j := 0) rfl rfl (by assumption) (by omega) tk24 | exact det_loadb (j := 0) rfl rfl rfl tk24 | exact det_loadb (j := 1) rfl rfl rfl tk24 | exact det_loadb (j := 2) rfl rfl rfl tk24 | exact det_loadb (j := 3) rfl rfl rfl tk24 | exact det_loadw rfl (by assumption) rfl tk24)) rfl ?_ -- r7.2 ref.go:364
      refine DS.det rfl rfl (det_move rfl) rfl ?_ -- r7.3 ref.go:364
      refine DS.det rfl rfl (det_move rfl) rfl ?_ -- r7.4 ref.go:364
      refine DS.det rfl rfl ((by first | exact det_lenS sl51 rfl (by assumption) | exact det_lenS sl51 rfl (by first | exact SlL.sp (by assumption) | exact ClS.sp (by assumption)) | exact det_lenO sl51 rfl | exact det_lenV sl51 rfl ⟨_, _, rfl⟩)) rfl ?_ -- r7.5 ref.go:364
      refine DS.det rfl rfl (det_sub rfl rfl (by omega)) rfl ?_ -- r7.6 ref.go:364
      refine DS.det rfl rfl ((by first | exact det_idxL sl51 rfl rfl (by assumption) (by omega) (by omega) | exact det_idxO sl51 rfl rfl (by omega) (by omega))) rfl ?_ -- r7.7 ref.go:364
      refine DS.det rfl rfl ((by first | exact det_ldL rfl (by assumption) (by omega) tk24 | exact det_ldLR (j := 0) rfl rfl (by assumption) (by omega) tk24 | exact det_loadb (j := 0) rfl rfl rfl tk24 | exact det_loadb (j := 1) rfl rfl rfl tk24 | exact det_loadb (j := 2) rfl rfl rfl tk24 | exact det_loadb (j := 3) rfl rfl rfl tk24 | exact det_loadw rfl (by assumption) rfl tk24)) rfl ?_ -- r7.8 ref.go:364
      refine DS.det rfl rfl (det_assign rfl) rfl ?_ -- r7.9 ref.go:364
      refine DS.det rfl rfl (det_assign rfl) rfl ?_ -- r7.10 ref.go:364
      refine DS.det rfl rfl (det_assign rfl) rfl ?_ -- r7.11 ref.go:364
      refine DS.done ?_
      refine QS.then_code ?_
      refine CS.ret ?_
      exact out3 rfl rfl rfl rfl (retP (v1 := nth ga 0) (v2 := nth ga ((readL lw ls cs).length - 1)) (fun S u hs => by
              have h1 : SlL u va (readL lw ls cs) ga := Star.ro (j := 0) rfl hs
              rw [if_pos hpe, if_pos hpe]
              exact ⟨h1.el 0 (by omega) (by omega), h1.el _ (by omega) (by omega)⟩) (by rw [hpe])) -- ret 3

end Go.Proofs.Ytldagbcceefcdaa
