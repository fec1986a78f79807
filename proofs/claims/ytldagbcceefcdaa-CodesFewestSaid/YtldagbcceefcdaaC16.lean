/- Contracts of functions, printed by a program of the prover (gen.py). -/
import Derived.Test.YtldagbcceefcdaaC15
import Derived.Test.YtldagbcceefcdaaCore
namespace Go.Proofs.Ytldagbcceefcdaa
open Go.RowKit Go.Proofs
set_option maxRecDepth 100000
set_option linter.unusedVariables false
set_option linter.unusedSimpArgs false

theorem Some_c (cs : List Clue) (gs : List Value) (cv : Value) (ks : List Nat) (nv : Value) (w : World) (hk : ClS w cv cs gs) (h2 : SlI w nv (ks.map Int.ofNat)) (hn : ∀ k ∈ ks, k < cs.length) (hm : ks.length ≤ 1000) :
    Calls Try.prog 75 #[cv, nv] w (fun e w' => ∃ v' : Value, v'.oneCell' = true ∧ RetF w v' (osl 36 7 v' (pickN cs ks).length (clFlat (pickN cs ks) (pickN gs ks))) e w') := by
  have hks : (ks.map Int.ofNat).length = ks.length := by simp
  have hgl := hk.len
  refine enter Try.func75 rfl rfl (Nat.le_of_ble_eq_true rfl) ?_
  refine CS.seq ?_
  refine CS.region ?_
  refine WS.det rfl rfl rfl (det_assign rfl) rfl ?_ -- r0.0 ref.go:300
  refine WS.done ?_
  refine QS.then_code ?_
  refine CS.seq ?_
  refine CS.region ?_
  refine WS.det rfl rfl rfl (det_assign rfl) rfl ?_ -- r1.0 ref.go:301
  refine WS.done ?_
  refine QS.then_code ?_
  refine CS.seq ?_
  refine CS.seq ?_
  refine CS.region ?_
  refine WS.det rfl rfl rfl (det_assign rfl) rfl ?_ -- r2.0 ref.go:302
  refine WS.done ?_
  refine QS.then_code ?_
  refine CS.block ?_
  refine CS.weak (fun _ hu => hu.osl0 (e := 36) (size := 7)) ?_
  refine CS.loopM (σ := Int × Value) [7, 8, 9, 10, 11, 12, 13, 14, 15, 16, 17, 18, 19, 20, 21, 22] (fun s => [(5, s.2), (6, .int .i64 s.1)]) (fun s => [osl 36 7 s.2 (pickN cs (ks.take s.1.toNat)).length (clFlat (pickN cs (ks.take s.1.toNat)) (pickN gs (ks.take s.1.toNat)))]) (fun s => 0 ≤ s.1 ∧ s.1 ≤ ks.length) (fun s => (ks.length - s.1).toNat) (0, .slice none 0 0) (fun _ _ => rfl) rfl rfl ⟨by simp, by simp⟩ ?_
  intro s t hs
  obtain ⟨hs1, hs2⟩ := hs
  have htl := List.length_take_le s.1.toNat ks
  refine CS.seq ?_
  refine CS.seq ?_
  refine CS.region ?_
  refine WS.det rfl rfl rfl (det_move rfl) rfl ?_ -- r3.0 ref.go:302
  refine WS.det rfl rfl rfl (det_move rfl) rfl ?_ -- r3.1 ref.go:302
  refine WS.det rfl rfl rfl ((by first | exact det_lenS sl24 rfl (by assumption) | exact det_lenS sl24 rfl (by first | exact SlL.sp (by assumption) | exact ClS.sp (by assumption)) | exact det_lenO sl24 rfl | exact det_lenV sl24 rfl ⟨_, _, rfl⟩)) rfl ?_ -- r3.2 ref.go:302
  refine WS.det rfl rfl rfl (det_lt rfl rfl) rfl ?_ -- r3.3 ref.go:302
  refine WS.done ?_
  refine QS.then_code ?_
  refine CS.cond rfl (fun hc1 => ?_) (fun hc1 => ?_) <;> (try simp only [decide_eq_true_eq, decide_eq_false_iff_not, Bool.and_eq_true, Bool.or_eq_true, Bool.and_eq_false_iff, Bool.or_eq_false_iff, Bool.not_eq_true', Bool.not_eq_false', ne_eq, Decidable.not_not, Bool.not_true, Bool.not_false, bne_iff_ne, bne_eq_false_iff_eq, beq_iff_eq, beq_eq_false_iff_ne] at hc1)
  · skip
    have hs3 : s.1 < ks.length := by omega
    have hat := ofNat_at ks hs1 hs3
    have hlt : ks.getD s.1.toNat 0 < cs.length := by
      have h3 : s.1.toNat < ks.length := by omega
      simp only [List.getD, List.getElem?_eq_getElem h3, Option.getD_some]
      exact hn _ (List.getElem_mem h3)
    have hg1 : (nth gs (nth (ks.map Int.ofNat) s.1)).oneCell' = true := hk.one _ (nth_mem (by omega) (by omega))
    refine CS.skip ?_
    refine QS.then_code ?_
    refine CS.seq ?_
    refine CS.block ?_
    refine CS.region ?_
    refine WS.det rfl rfl rfl (det_move rfl) rfl ?_ -- r5.0 ref.go:303
    refine WS.det rfl rfl rfl (det_move rfl) rfl ?_ -- r5.1 ref.go:303
    refine WS.det rfl rfl rfl (det_move rfl) rfl ?_ -- r5.2 ref.go:303
    refine WS.det rfl rfl rfl (det_move rfl) rfl ?_ -- r5.3 ref.go:303
    refine WS.det rfl rfl rfl ((by first | exact det_idxI sl24 rfl rfl (by assumption) (by omega) (by omega) | exact det_idxO sl24 rfl rfl (by omega) (by omega))) rfl ?_ -- r5.4 ref.go:303
    refine WS.det rfl rfl rfl ((by first | exact det_ldI rfl (by assumption) (by omega) tk3 | exact det_loadb (j := 0) rfl rfl rfl tk3 | exact det_loadb (j := 1) rfl rfl rfl tk3 | exact det_loadb (j := 2) rfl rfl rfl tk3 | exact det_loadb (j := 3) rfl rfl rfl tk3 | exact det_loadw rfl (by assumption) rfl tk3)) rfl ?_ -- r5.5 ref.go:303
    refine WS.det rfl rfl rfl (det_idxCl sl31 rfl rfl (by assumption) (by omega) (by omega)) rfl ?_ -- r5.6 ref.go:303
    refine WS.det rfl rfl rfl ((by first | exact det_ldCl rfl (by assumption) (by omega) tk36 | exact det_loadb0 (j := 0) rfl rfl tk36 | exact det_loadb0 (j := 1) rfl rfl tk36 | exact det_loadb0 (j := 2) rfl rfl tk36 | exact det_loadb0 (j := 3) rfl rfl tk36 | exact det_loadbN (j := 0) rfl rfl (by rfl) tk36 | exact det_loadbN (j := 1) rfl rfl (by rfl) tk36 | exact det_loadbN (j := 2) rfl rfl (by rfl) tk36 | exact det_loadbN (j := 3) rfl rfl (by rfl) tk36 | exact det_loadwN rfl (by assumption) (by rfl) tk36 | exact det_loadbK (n := 7) (j := 0) rfl rfl rfl rfl tk36 | exact det_loadbK (n := 7) (j := 1) rfl rfl rfl rfl tk36 | exact det_loadbK (n := 7) (j := 2) rfl rfl rfl rfl tk36 | exact det_loadbK (n := 7) (j := 3) rfl rfl rfl rfl tk36)) rfl ?_ -- r5.7 ref.go:303
    refine WS.buildC1 sl31 zv36 (c := nth cs (nth (ks.map Int.ofNat) s.1)) (gv := nth gs (nth (ks.map Int.ofNat) s.1)) rfl (fun _ => rfl) ?_; intro v21 -- r5.8 ref.go:303
    refine WS.appendCl (j := 1) (jz := 0) sl31 zv36 rfl rfl rfl (by simp [pickN_len]) rfl rfl hg1 (by rw [pickN_len]; omega) (by rw [pickN_len]; omega) (fun _ => rfl) (fun _ => rfl) ?_; intro v22 hv22 -- r5.9 ref.go:303
    refine WS.det rfl rfl rfl (det_assign rfl) rfl ?_ -- r5.10 ref.go:303
    refine WS.done ?_
    refine QS.block_normal ?_
    refine QS.then_code ?_
    refine CS.region ?_
    refine WS.det rfl rfl rfl (det_move rfl) rfl ?_ -- r4.0 ref.go:302
    refine WS.det rfl rfl rfl (det_add rfl rfl (by omega)) rfl ?_ -- r4.1 ref.go:302
    refine WS.det rfl rfl rfl (det_assign rfl) rfl ?_ -- r4.2 ref.go:302
    refine WS.done ?_
    refine QS.sel [1] rfl ?_
    exact QS.head ((s.1 + 1, v22)) rfl (by simp only [pick_snoc cs ks hs1 hs3, pick_snoc gs ks hs1 hs3]) ⟨⟨by simp; omega, by simp; omega⟩, by simp; omega⟩
  · skip
    refine CS.leave ?_
    refine QS.then_exit ?_
    refine QS.then_exit ?_
    refine QS.block_exit ?_
    refine QS.then_code ?_
    refine CS.seq ?_
    refine CS.region ?_
    refine WS.det rfl rfl rfl (det_move rfl) rfl ?_ -- r6.0 ref.go:305
    refine WS.det rfl rfl rfl (det_assign rfl) rfl ?_ -- r6.1 ref.go:305
    refine WS.done ?_
    refine QS.then_code ?_
    refine CS.ret ?_
    refine QS.oc (j := 0) rfl (fun hv5 => ?_)
    have hta : ks.take s.1.toNat = ks := List.take_of_length_le (by omega)
    rw [hta]
    exact out1 rfl rfl (fun u hu => ⟨_, hv5, retF (j := 0) rfl u hu⟩) -- ret 1

theorem numbers_c (n but : Int) (w : World) (h0 : 0 ≤ n) (hm : n ≤ 1000) :
    Calls Try.prog 76 #[.int .i64 n, .int .i64 but] w (fun e w' => ∃ v' : Value, v'.oneCell' = true ∧ RetF w v' (oints 3 v' (numsB n.toNat but)) e w') := by
  refine enter Try.func76 rfl rfl (Nat.le_of_ble_eq_true rfl) ?_
  refine CS.seq ?_
  refine CS.region ?_
  refine WS.det rfl rfl rfl (det_assign rfl) rfl ?_ -- r0.0 ref.go:309
  refine WS.done ?_
  refine QS.then_code ?_
  refine CS.seq ?_
  refine CS.region ?_
  refine WS.det rfl rfl rfl (det_assign rfl) rfl ?_ -- r1.0 ref.go:310
  refine WS.done ?_
  refine QS.then_code ?_
  refine CS.seq ?_
  refine CS.seq ?_
  refine CS.region ?_
  refine WS.det rfl rfl rfl (det_assign rfl) rfl ?_ -- r2.0 ref.go:311
  refine WS.done ?_
  refine QS.then_code ?_
  refine CS.block ?_
  refine CS.weak (fun _ hu => hu.osl0 (e := 3) (size := 1)) ?_
  refine CS.loopM (σ := Int × Value) [7, 8, 9, 10, 11, 12, 13, 14, 15, 16, 17, 18] (fun s => [(5, s.2), (6, .int .i64 s.1)]) (fun s => [oints 3 s.2 (numsB s.1.toNat but)]) (fun s => 0 ≤ s.1 ∧ s.1 ≤ n) (fun s => (n - s.1).toNat) (0, .slice none 0 0) (fun _ _ => rfl) rfl rfl ⟨by simp, by simp; omega⟩ ?_
  intro s t hs
  obtain ⟨hs1, hs2⟩ := hs
  have htl := numsB_len s.1.toNat but
  refine CS.seq ?_
  refine CS.seq ?_
  refine CS.region ?_
  refine WS.det rfl rfl rfl (det_move rfl) rfl ?_ -- r3.0 ref.go:311
  refine WS.det rfl rfl rfl (det_move rfl) rfl ?_ -- r3.1 ref.go:311
  refine WS.det rfl rfl rfl (det_lt rfl rfl) rfl ?_ -- r3.2 ref.go:311
  refine WS.done ?_
  refine QS.then_code ?_
  refine CS.cond rfl (fun hc1 => ?_) (fun hc1 => ?_) <;> (try simp only [decide_eq_true_eq, decide_eq_false_iff_not, Bool.and_eq_true, Bool.or_eq_true, Bool.and_eq_false_iff, Bool.or_eq_false_iff, Bool.not_eq_true', Bool.not_eq_false', ne_eq, Decidable.not_not, Bool.not_true, Bool.not_false, bne_iff_ne, bne_eq_false_iff_eq, beq_iff_eq, beq_eq_false_iff_ne] at hc1)
  · skip
    refine CS.skip ?_
    refine QS.then_code ?_
    refine CS.seq ?_
    refine CS.block ?_
    refine CS.seq ?_
    refine CS.region ?_
    refine WS.det rfl rfl rfl (det_move rfl) rfl ?_ -- r5.0 ref.go:312
    refine WS.det rfl rfl rfl (det_move rfl) rfl ?_ -- r5.1 ref.go:312
    refine WS.det rfl rfl rfl (det_ne rfl rfl) rfl ?_ -- r5.2 ref.go:312
    refine WS.done ?_
    refine QS.then_code ?_
    refine CS.cond rfl (fun hc2 => ?_) (fun hc2 => ?_) <;> (try simp only [decide_eq_true_eq, decide_eq_false_iff_not, Bool.and_eq_true, Bool.or_eq_true, Bool.and_eq_false_iff, Bool.or_eq_false_iff, Bool.not_eq_true', Bool.not_eq_false', ne_eq, Decidable.not_not, Bool.not_true, Bool.not_false, bne_iff_ne, bne_eq_false_iff_eq, beq_iff_eq, beq_eq_false_iff_ne] at hc2)
    · skip
      refine CS.region ?_
      refine WS.det rfl rfl rfl (det_move rfl) rfl ?_ -- r6.0 ref.go:313
      refine WS.det rfl rfl rfl (det_move rfl) rfl ?_ -- r6.1 ref.go:313
      refine WS.buildI1 sl24 zv3 rfl (fun _ => rfl) ?_; intro v17 -- r6.2 ref.go:313
      refine WS.appendI (j := 1) sl24 zv3 rfl rfl rfl (fun u hu => oints_SlI hu (j := 0) rfl) (by first | omega | (simp; omega) | (simp only [List.length_append, List.length_singleton, List.length_map, List.length_cons, List.length_nil] at *; omega)) (by first | omega | (simp; omega) | (simp only [List.length_append, List.length_singleton, List.length_map, List.length_cons, List.length_nil] at *; omega)) (fun _ => rfl) (fun _ => rfl) ?_; intro v18; refine WS.oc (j := 1) rfl (fun hv18 => ?_) -- r6.3 ref.go:313
      refine WS.det rfl rfl rfl (det_assign rfl) rfl ?_ -- r6.4 ref.go:313
      refine WS.done ?_
      refine QS.block_normal ?_
      refine QS.then_code ?_
      refine CS.region ?_
      refine WS.det rfl rfl rfl (det_move rfl) rfl ?_ -- r4.0 ref.go:311
      refine WS.det rfl rfl rfl (det_add rfl rfl (by omega)) rfl ?_ -- r4.1 ref.go:311
      refine WS.det rfl rfl rfl (det_assign rfl) rfl ?_ -- r4.2 ref.go:311
      refine WS.done ?_
      refine QS.sel [1] rfl ?_
      exact QS.head ((s.1 + 1, v18)) rfl (by first | simp only [numsB_yes hs1 hc2] | simp only [numsB_no hs1 hc2]) ⟨⟨by simp; omega, by simp; omega⟩, by simp; omega⟩
    · skip
      refine CS.skip ?_
      refine QS.block_normal ?_
      refine QS.then_code ?_
      refine CS.region ?_
      refine WS.det rfl rfl rfl (det_move rfl) rfl ?_ -- r4.0 ref.go:311
      refine WS.det rfl rfl rfl (det_add rfl rfl (by omega)) rfl ?_ -- r4.1 ref.go:311
      refine WS.det rfl rfl rfl (det_assign rfl) rfl ?_ -- r4.2 ref.go:311
      refine WS.done ?_
      exact QS.head ((s.1 + 1, s.2)) rfl (by first | simp only [numsB_yes hs1 hc2] | simp only [numsB_no hs1 hc2]) ⟨⟨by simp; omega, by simp; omega⟩, by simp; omega⟩
  · skip
    refine CS.leave ?_
    refine QS.then_exit ?_
    refine QS.then_exit ?_
    refine QS.block_exit ?_
    refine QS.then_code ?_
    refine CS.seq ?_
    refine CS.region ?_
    refine WS.det rfl rfl rfl (det_move rfl) rfl ?_ -- r7.0 ref.go:316
    refine WS.det rfl rfl rfl (det_assign rfl) rfl ?_ -- r7.1 ref.go:316
    refine WS.done ?_
    refine QS.then_code ?_
    refine CS.ret ?_
    refine QS.oc (j := 0) rfl (fun hv5 => ?_)
    have hta : s.1 = n := by omega
    rw [hta]
    exact out1 rfl rfl (fun u hu => ⟨_, hv5, retF (j := 0) rfl u hu⟩) -- ret 1

theorem Idle_c (lw ls : Int) (cs : List Clue) (gs : List Value) (cv : Value) (w : World) (hk : ClS w cv cs gs) :
    Calls Try.prog 44 #[.agg #[.int .i64 lw, .int .i64 ls], cv] w (fun e w' => ∃ x : Value, (∃ u0, SlI u0 x (if cluesE lw ls cs = 0 then idleTo lw ls cs cs.length else [])) ∧ RetF w (.tuple #[x, .int .i64 (cluesE lw ls cs)]) (roI x (if cluesE lw ls cs = 0 then idleTo lw ls cs cs.length else [])) e w') := by
  refine enter Try.func44 rfl rfl (Nat.le_of_ble_eq_true rfl) ?_
  refine CS.seq ?_
  refine CS.region ?_
  refine WS.box rfl rfl (fun _ => rfl) ?_; intro b2 hb2 -- r0.0 codes.go:299
  refine WS.det rfl rfl rfl (det_assign rfl) rfl ?_ -- r0.1 codes.go:299
  refine WS.det rfl rfl rfl (det_assign rfl) rfl ?_ -- r0.2 codes.go:299
  refine WS.done ?_
  refine QS.then_code ?_
  refine CS.seq ?_
  refine CS.seq ?_
  refine CS.region ?_
  refine WS.det rfl rfl rfl ((by first | exact det_loadb0 (j := 0) rfl rfl tk23 | exact det_loadbN (j := 0) rfl rfl (by rfl) tk23 | exact det_loadwN rfl (by assumption) (by rfl) tk23 | exact det_loadbK (n := 2) (j := 0) rfl rfl rfl rfl tk23)) rfl ?_ -- r1.0 codes.go:300
  refine WS.det rfl rfl rfl (det_move rfl) rfl ?_ -- r1.1 codes.go:300
  refine WS.det rfl rfl rfl (det_callB rfl rfl ent57 (fun u hu => checkClues_c _ _ _ _ _ u (hk.st hu))) rfl ?_ -- r1.2 codes.go:300
  refine WS.det rfl rfl rfl (det_assign rfl) rfl ?_ -- r1.3 codes.go:300
  refine WS.done ?_
  refine QS.then_code ?_
  refine CS.seq ?_
  refine CS.region ?_
  refine WS.det rfl rfl rfl (det_move rfl) rfl ?_ -- r2.0 codes.go:300
  refine WS.det rfl rfl rfl (det_ne rfl rfl) rfl ?_ -- r2.1 codes.go:300
  refine WS.done ?_
  refine QS.then_code ?_
  refine CS.cond rfl (fun hc1 => ?_) (fun hc1 => ?_) <;> (try simp only [decide_eq_true_eq, decide_eq_false_iff_not, Bool.and_eq_true, Bool.or_eq_true, Bool.and_eq_false_iff, Bool.or_eq_false_iff, Bool.not_eq_true', Bool.not_eq_false', ne_eq, Decidable.not_not, Bool.not_true, Bool.not_false, bne_iff_ne, bne_eq_false_iff_eq, beq_iff_eq, beq_eq_false_iff_ne] at hc1)
  · skip
    refine CS.seq ?_
    refine CS.region ?_
    refine WS.det rfl rfl rfl (det_move rfl) rfl ?_ -- r3.0 codes.go:301
    refine WS.det rfl rfl rfl (det_assign rfl) rfl ?_ -- r3.1 codes.go:301
    refine WS.det rfl rfl rfl (det_assign rfl) rfl ?_ -- r3.2 codes.go:301
    refine WS.done ?_
    refine QS.then_code ?_
    refine CS.ret ?_
    refine QS.then_ret ?_
    exact out2 rfl rfl rfl (retIn (by simp [hc1]) (by simp [hc1])) -- ret 1
  · skip
    have hL := cluesE_lock hc1
    have hC := cluesE_clue hc1
    have hcl20 := cluesE_len hc1
    have hgl := hk.len
    have hol := clFlat_one (cs := cs) hk.one
    refine CS.skip ?_
    refine QS.then_code ?_
    refine CS.seq ?_
    refine CS.region ?_
    refine WS.det rfl rfl rfl ((by first | exact det_loadb0 (j := 0) rfl rfl tk23 | exact det_loadbN (j := 0) rfl rfl (by rfl) tk23 | exact det_loadwN rfl (by assumption) (by rfl) tk23 | exact det_loadbK (n := 2) (j := 0) rfl rfl rfl rfl tk23)) rfl ?_ -- r4.0 codes.go:303
    refine WS.det rfl rfl rfl (det_move rfl) rfl ?_ -- r4.1 codes.go:303
    refine WS.det rfl rfl rfl (det_callB rfl rfl ent70 (fun u hu => count_c _ _ _ _ _ u hL hC (hk.st hu))) rfl ?_ -- r4.2 codes.go:303
    refine WS.det rfl rfl rfl (det_assign rfl) rfl ?_ -- r4.3 codes.go:303
    refine WS.done ?_
    refine QS.then_code ?_
    refine CS.seq ?_
    refine CS.seq ?_
    refine CS.region ?_
    refine WS.det rfl rfl rfl (det_move rfl) rfl ?_ -- r5.0 codes.go:304
    refine WS.det rfl rfl rfl ((by first | exact det_lenS sl31 rfl (by assumption) | exact det_lenS sl31 rfl (by first | exact SlL.sp (by assumption) | exact ClS.sp (by assumption)) | exact det_lenO sl31 rfl | exact det_lenV sl31 rfl ⟨_, _, rfl⟩)) rfl ?_ -- r5.1 codes.go:304
    refine WS.det rfl rfl rfl (det_move rfl) rfl ?_ -- r5.2 codes.go:304
    refine WS.done ?_
    refine QS.then_code ?_
    refine CS.block ?_
    refine CS.weak (fun _ hu => hu.osl0 (e := 3) (size := 1)) ?_
    refine CS.loopM (σ := Int × Value) [8, 21, 22, 23, 24, 25, 26, 27, 28, 29, 30, 31, 32, 33, 34, 35, 36, 37] (fun s => [(4, s.2), (20, .int .i64 s.1)]) (fun s => [oints 3 s.2 (idleTo lw ls cs s.1.toNat), blk b2 [.int .i64 lw, .int .i64 ls] 23]) (fun s => 0 ≤ s.1 ∧ s.1 ≤ cs.length) (fun s => (cs.length - s.1).toNat) (0, .slice none 0 0) (fun _ _ => rfl) rfl rfl ⟨by simp, by simp⟩ ?_
    intro s t hs
    obtain ⟨hs1, hs2⟩ := hs
    have htl := idleTo_len lw ls cs s.1.toNat
    refine CS.seq ?_
    refine CS.region ?_
    refine WS.det rfl rfl rfl (det_lt rfl rfl) rfl ?_ -- r6.0 codes.go:304
    refine WS.done ?_
    refine QS.then_code ?_
    refine CS.seq ?_
    refine CS.cond rfl (fun hc2 => ?_) (fun hc2 => ?_) <;> (try simp only [decide_eq_true_eq, decide_eq_false_iff_not, Bool.and_eq_true, Bool.or_eq_true, Bool.and_eq_false_iff, Bool.or_eq_false_iff, Bool.not_eq_true', Bool.not_eq_false', ne_eq, Decidable.not_not, Bool.not_true, Bool.not_false, bne_iff_ne, bne_eq_false_iff_eq, beq_iff_eq, beq_eq_false_iff_ne] at hc2)
    · skip
      have hera : ∀ c ∈ cs.eraseIdx s.1.toNat, clueB lw ls c = true := fun c hc => hC c (List.mem_of_mem_eraseIdx hc)
      refine CS.skip ?_
      refine QS.then_code ?_
      refine CS.seq ?_
      refine CS.block ?_
      refine CS.seq ?_
      refine CS.region ?_
      refine WS.det rfl rfl rfl (det_move rfl) rfl ?_ -- r7.0 codes.go:304
      refine WS.det rfl rfl rfl (det_assign rfl) rfl ?_ -- r7.1 codes.go:304
      refine WS.done ?_
      refine QS.then_code ?_
      refine CS.seq ?_
      refine CS.drawnAll (k := 10) mixed rfl rfl ?_
      refine AS.take 0 rfl (by kernel_rfl) (by kernel_rfl) (by kernel_rfl) rfl rfl ((by first | exact det_loadb0 (j := 1) rfl rfl tk23 | exact det_loadbN (j := 1) rfl rfl (by rfl) tk23 | exact det_loadwN rfl (by assumption) (by rfl) tk23 | exact det_loadbK (n := 2) (j := 1) rfl rfl rfl rfl tk23)) rfl rfl ?_ -- r8.0 codes.go:305
      refine AS.take 1 rfl (by kernel_rfl) (by kernel_rfl) (by kernel_rfl) rfl rfl (det_move rfl) rfl rfl ?_ -- r8.1 codes.go:305
      refine AS.take 3 rfl (by kernel_rfl) (by kernel_rfl) (by kernel_rfl) rfl rfl (det_move rfl) rfl rfl ?_ -- r8.3 codes.go:305
      refine AS.take 4 rfl (by kernel_rfl) (by kernel_rfl) (by kernel_rfl) rfl rfl (det_move rfl) rfl rfl ?_ -- r8.4 codes.go:305
      refine AS.take 5 rfl (by kernel_rfl) (by kernel_rfl) (by kernel_rfl) rfl rfl (det_add rfl rfl (by omega)) rfl rfl ?_ -- r8.5 codes.go:305
      refine AS.take 8 rfl (by kernel_rfl) (by kernel_rfl) (by kernel_rfl) rfl rfl (det_move rfl) rfl rfl ?_ -- r8.8 codes.go:305
      refine AS.one (i := 2) (by kernel_rfl) rfl (by first | exact fun _ h => h | exact fun _ h => h.sub (by repeat first | exact List.Sublist.refl _ | apply List.Sublist.cons_cons | apply List.Sublist.cons)) rfl ?_
      refine WS.callF rfl rfl ent74 (fun u hu => CloneC_c cs gs _ u (hk.st hu) (by omega)) (fun _ => rfl) ?_; intro v25 hv25 -- r8.2 codes.go:305
      refine WS.done ?_
      refine QS.then_AS ?_
      refine AS.one (i := 6) (by kernel_rfl) rfl (by first | exact fun _ h => h | exact fun _ h => h.sub (by repeat first | exact List.Sublist.refl _ | apply List.Sublist.cons_cons | apply List.Sublist.cons)) rfl ?_
      refine WS.callS (p := fun v' : Value => v'.oneCell' = true) rfl rfl ent73 (fun u hu => DeleteC_c _ cs gs _ s.1 hu hgl hk.one hs1 (by omega) (by omega)) (fun _ => rfl) ?_; intro v29 hv29 -- r8.6 codes.go:305
      refine WS.done ?_
      refine QS.then_AS ?_
      refine AS.one (i := 7) (by kernel_rfl) rfl (by first | exact fun _ h => h | exact fun _ h => h.sub (by repeat first | exact List.Sublist.refl _ | apply List.Sublist.cons_cons | apply List.Sublist.cons)) rfl ?_
      refine WS.det rfl rfl rfl (det_callB rfl rfl ent70 (fun u hu => count_c _ _ _ _ _ u hL hera ((hk.st hu).era (osl_SlC hu (j := 0) rfl)))) rfl ?_ -- r8.7 codes.go:305
      refine WS.done ?_
      refine QS.then_AS ?_
      refine AS.take 9 rfl (by kernel_rfl) (by kernel_rfl) (by kernel_rfl) rfl rfl (det_eq rfl rfl) rfl rfl ?_ -- r8.9 codes.go:305
      refine AS.done (by kernel_rfl) (by first | exact fun _ h => h | exact fun _ h => h.sub (by repeat first | exact List.Sublist.refl _ | apply List.Sublist.cons_cons | apply List.Sublist.cons)) ?_
      refine QS.then_code ?_
      refine CS.cond rfl (fun hc3 => ?_) (fun hc3 => ?_) <;> (try simp only [decide_eq_true_eq, decide_eq_false_iff_not, Bool.and_eq_true, Bool.or_eq_true, Bool.and_eq_false_iff, Bool.or_eq_false_iff, Bool.not_eq_true', Bool.not_eq_false', ne_eq, Decidable.not_not, Bool.not_true, Bool.not_false, bne_iff_ne, bne_eq_false_iff_eq, beq_iff_eq, beq_eq_false_iff_ne] at hc3)
      · skip
        have hcnt : (readL lw ls (cs.eraseIdx s.1.toNat)).length = (readL lw ls cs).length := by omega
        refine CS.region ?_
        refine WS.det rfl rfl rfl (det_move rfl) rfl ?_ -- r9.0 codes.go:306
        refine WS.det rfl rfl rfl (det_move rfl) rfl ?_ -- r9.1 codes.go:306
        refine WS.buildI1 sl24 zv3 rfl (fun _ => rfl) ?_; intro v35 -- r9.2 codes.go:306
        refine WS.appendI (j := 2) sl24 zv3 rfl rfl rfl (fun u hu => oints_SlI hu (j := 0) rfl) (by first | omega | (simp; omega) | (simp only [List.length_append, List.length_singleton, List.length_map, List.length_cons, List.length_nil] at *; omega)) (by first | omega | (simp; omega) | (simp only [List.length_append, List.length_singleton, List.length_map, List.length_cons, List.length_nil] at *; omega)) (fun _ => rfl) (fun _ => rfl) ?_; intro v36; refine WS.oc (j := 2) rfl (fun hv36 => ?_) -- r9.3 codes.go:306
        refine WS.det rfl rfl rfl (det_assign rfl) rfl ?_ -- r9.4 codes.go:306
        refine WS.done ?_
        refine QS.block_normal ?_
        refine QS.then_code ?_
        refine CS.region ?_
        refine WS.det rfl rfl rfl (det_add rfl rfl (by omega)) rfl ?_ -- r10.0 codes.go:304
        refine WS.det rfl rfl rfl (det_move rfl) rfl ?_ -- r10.1 codes.go:304
        refine WS.done ?_
        refine QS.sel [2, 2] rfl ?_
        exact QS.head ((s.1 + 1, v36)) rfl (by first | simp only [idleTo_yes hs1 hcnt] | simp only [idleTo_no hs1 hcnt]) ⟨⟨by simp; omega, by simp; omega⟩, by simp; omega⟩
      · skip
        have hcnt : ¬ (readL lw ls (cs.eraseIdx s.1.toNat)).length = (readL lw ls cs).length := by omega
        refine CS.skip ?_
        refine QS.block_normal ?_
        refine QS.then_code ?_
        refine CS.region ?_
        refine WS.det rfl rfl rfl (det_add rfl rfl (by omega)) rfl ?_ -- r10.0 codes.go:304
        refine WS.det rfl rfl rfl (det_move rfl) rfl ?_ -- r10.1 codes.go:304
        refine WS.done ?_
        refine QS.sel [1, 1] rfl ?_
        exact QS.head ((s.1 + 1, s.2)) rfl (by first | simp only [idleTo_yes hs1 hcnt] | simp only [idleTo_no hs1 hcnt]) ⟨⟨by simp; omega, by simp; omega⟩, by simp; omega⟩
    · skip
      refine CS.leave ?_
      refine QS.then_exit ?_
      refine QS.then_exit ?_
      refine QS.block_exit ?_
      refine QS.then_code ?_
      refine CS.seq ?_
      refine CS.region ?_
      refine WS.det rfl rfl rfl (det_move rfl) rfl ?_ -- r11.0 codes.go:309
      refine WS.det rfl rfl rfl (det_assign rfl) rfl ?_ -- r11.1 codes.go:309
      refine WS.det rfl rfl rfl (det_assign rfl) rfl ?_ -- r11.2 codes.go:309
      refine WS.done ?_
      refine QS.then_code ?_
      refine CS.ret ?_
      exact out2 rfl rfl rfl (retIe (j := 0) rfl (by rw [if_pos hc1, show s.1.toNat = cs.length by omega]) (by rw [hc1])) -- ret 2

theorem RIdle_c (lw ls : Int) (cs : List Clue) (gs : List Value) (cv : Value) (w : World) (hk : ClS w cv cs gs) :
    Calls Try.prog 45 #[.agg #[.int .i64 lw, .int .i64 ls], cv] w (fun e w' => ∃ x : Value, (∃ u0, SlI u0 x (if cluesE lw ls cs = 0 then idleTo lw ls cs cs.length else [])) ∧ RetF w (.tuple #[x, .int .i64 (cluesE lw ls cs)]) (roI x (if cluesE lw ls cs = 0 then idleTo lw ls cs cs.length else [])) e w') := by
  refine enter Try.func45 rfl rfl (Nat.le_of_ble_eq_true rfl) ?_
  refine CS.seq ?_
  refine CS.region ?_
  refine WS.box rfl rfl (fun _ => rfl) ?_; intro b2 hb2 -- r0.0 ref.go:320
  refine WS.det rfl rfl rfl (det_assign rfl) rfl ?_ -- r0.1 ref.go:320
  refine WS.det rfl rfl rfl (det_assign rfl) rfl ?_ -- r0.2 ref.go:320
  refine WS.done ?_
  refine QS.then_code ?_
  refine CS.seq ?_
  refine CS.region ?_
  refine WS.det rfl rfl rfl ((by first | exact det_loadb0 (j := 0) rfl rfl tk23 | exact det_loadbN (j := 0) rfl rfl (by rfl) tk23 | exact det_loadwN rfl (by assumption) (by rfl) tk23 | exact det_loadbK (n := 2) (j := 0) rfl rfl rfl rfl tk23)) rfl ?_ -- r1.0 ref.go:321
  refine WS.det rfl rfl rfl (det_move rfl) rfl ?_ -- r1.1 ref.go:321
  refine WS.det rfl rfl rfl (det_callB rfl rfl ent37 (fun u hu => RCount_c _ _ _ _ _ u (hk.st hu))) rfl ?_ -- r1.2 ref.go:321
  refine WS.det rfl rfl rfl (det_move rfl) rfl ?_ -- r1.3 ref.go:321
  refine WS.det rfl rfl rfl (det_extract rfl rfl) rfl ?_ -- r1.4 ref.go:321
  refine WS.det rfl rfl rfl (det_extract rfl rfl) rfl ?_ -- r1.5 ref.go:321
  refine WS.det rfl rfl rfl (det_assign rfl) rfl ?_ -- r1.6 ref.go:321
  refine WS.det rfl rfl rfl (det_assign rfl) rfl ?_ -- r1.7 ref.go:321
  refine WS.done ?_
  refine QS.then_code ?_
  refine CS.seq ?_
  refine CS.seq ?_
  refine CS.region ?_
  refine WS.det rfl rfl rfl (det_move rfl) rfl ?_ -- r2.0 ref.go:322
  refine WS.det rfl rfl rfl (det_ne rfl rfl) rfl ?_ -- r2.1 ref.go:322
  refine WS.done ?_
  refine QS.then_code ?_
  refine CS.cond rfl (fun hc1 => ?_) (fun hc1 => ?_) <;> (try simp only [decide_eq_true_eq, decide_eq_false_iff_not, Bool.and_eq_true, Bool.or_eq_true, Bool.and_eq_false_iff, Bool.or_eq_false_iff, Bool.not_eq_true', Bool.not_eq_false', ne_eq, Decidable.not_not, Bool.not_true, Bool.not_false, bne_iff_ne, bne_eq_false_iff_eq, beq_iff_eq, beq_eq_false_iff_ne] at hc1)
  · skip
    refine CS.seq ?_
    refine CS.region ?_
    refine WS.det rfl rfl rfl (det_move rfl) rfl ?_ -- r3.0 ref.go:323
    refine WS.det rfl rfl rfl (det_assign rfl) rfl ?_ -- r3.1 ref.go:323
    refine WS.det rfl rfl rfl (det_assign rfl) rfl ?_ -- r3.2 ref.go:323
    refine WS.done ?_
    refine QS.then_code ?_
    refine CS.ret ?_
    refine QS.then_ret ?_
    exact out2 rfl rfl rfl (retIn (by simp [hc1]) (by simp [hc1])) -- ret 1
  · skip
    have hL := cluesE_lock hc1
    have hC := cluesE_clue hc1
    have hcl20 := cluesE_len hc1
    have hgl := hk.len
    have hol := clFlat_one (cs := cs) hk.one
    refine CS.skip ?_
    refine QS.then_code ?_
    refine CS.seq ?_
    refine CS.region ?_
    refine WS.det rfl rfl rfl (det_assign rfl) rfl ?_ -- r4.0 ref.go:325
    refine WS.done ?_
    refine QS.then_code ?_
    refine CS.seq ?_
    refine CS.seq ?_
    refine CS.region ?_
    refine WS.det rfl rfl rfl (det_assign rfl) rfl ?_ -- r5.0 ref.go:326
    refine WS.done ?_
    refine QS.then_code ?_
    refine CS.block ?_
    refine CS.weak (fun _ hu => hu.osl0 (e := 3) (size := 1)) ?_
    refine CS.loopM (σ := Int × Value) [19, 20, 21, 22, 23, 24, 25, 26, 27, 28, 29, 30, 31, 32, 33, 34, 35, 36, 37, 38, 39] (fun s => [(8, s.2), (9, .int .i64 s.1)]) (fun s => [oints 3 s.2 (idleTo lw ls cs s.1.toNat), blk b2 [.int .i64 lw, .int .i64 ls] 23]) (fun s => 0 ≤ s.1 ∧ s.1 ≤ cs.length) (fun s => (cs.length - s.1).toNat) (0, .slice none 0 0) (fun _ _ => rfl) rfl rfl ⟨by simp, by simp⟩ ?_
    intro s t hs
    obtain ⟨hs1, hs2⟩ := hs
    have htl := idleTo_len lw ls cs s.1.toNat
    refine CS.seq ?_
    refine CS.seq ?_
    refine CS.region ?_
    refine WS.det rfl rfl rfl (det_move rfl) rfl ?_ -- r6.0 ref.go:326
    refine WS.det rfl rfl rfl (det_move rfl) rfl ?_ -- r6.1 ref.go:326
    refine WS.det rfl rfl rfl ((by first | exact det_lenS sl31 rfl (by assumption) | exact det_lenS sl31 rfl (by first | exact SlL.sp (by assumption) | exact ClS.sp (by assumption)) | exact det_lenO sl31 rfl | exact det_lenV sl31 rfl ⟨_, _, rfl⟩)) rfl ?_ -- r6.2 ref.go:326
    refine WS.det rfl rfl rfl (det_lt rfl rfl) rfl ?_ -- r6.3 ref.go:326
    refine WS.done ?_
    refine QS.then_code ?_
    refine CS.cond rfl (fun hc2 => ?_) (fun hc2 => ?_) <;> (try simp only [decide_eq_true_eq, decide_eq_false_iff_not, Bool.and_eq_true, Bool.or_eq_true, Bool.and_eq_false_iff, Bool.or_eq_false_iff, Bool.not_eq_true', Bool.not_eq_false', ne_eq, Decidable.not_not, Bool.not_true, Bool.not_false, bne_iff_ne, bne_eq_false_iff_eq, beq_iff_eq, beq_eq_false_iff_ne] at hc2)
    · skip
      have hera : ∀ c ∈ cs.eraseIdx s.1.toNat, clueB lw ls c = true := fun c hc => hC c (List.mem_of_mem_eraseIdx hc)
      have hei := era_pick cs s.1.toNat
      have hnb : numsB ((cs.length : Int).toNat) s.1 = ((List.range cs.length).eraseIdx s.1.toNat).map Int.ofNat := by
        have := numsB_era (n := cs.length) (i := s.1.toNat) (by omega)
        rw [show ((s.1.toNat : Nat) : Int) = s.1 by omega] at this
        exact this
      have hrl : ((List.range cs.length).eraseIdx s.1.toNat).length ≤ 1000 := by
        have := List.length_eraseIdx_le (List.range cs.length) s.1.toNat
        simp at this
        omega
      rw [hei] at hera
      refine CS.skip ?_
      refine QS.then_code ?_
      refine CS.seq ?_
      refine CS.block ?_
      refine CS.seq ?_
      refine CS.drawnAll (k := 11) mixed rfl rfl ?_
      refine AS.take 0 rfl (by kernel_rfl) (by kernel_rfl) (by kernel_rfl) rfl rfl ((by first | exact det_loadb0 (j := 1) rfl rfl tk23 | exact det_loadbN (j := 1) rfl rfl (by rfl) tk23 | exact det_loadwN rfl (by assumption) (by rfl) tk23 | exact det_loadbK (n := 2) (j := 1) rfl rfl rfl rfl tk23)) rfl rfl ?_ -- r8.0 ref.go:327
      refine AS.take 1 rfl (by kernel_rfl) (by kernel_rfl) (by kernel_rfl) rfl rfl (det_move rfl) rfl rfl ?_ -- r8.1 ref.go:327
      refine AS.take 2 rfl (by kernel_rfl) (by kernel_rfl) (by kernel_rfl) rfl rfl (det_move rfl) rfl rfl ?_ -- r8.2 ref.go:327
      refine AS.take 3 rfl (by kernel_rfl) (by kernel_rfl) (by kernel_rfl) rfl rfl ((by first | exact det_lenS sl31 rfl (by assumption) | exact det_lenS sl31 rfl (by first | exact SlL.sp (by assumption) | exact ClS.sp (by assumption)) | exact det_lenO sl31 rfl | exact det_lenV sl31 rfl ⟨_, _, rfl⟩)) rfl rfl ?_ -- r8.3 ref.go:327
      refine AS.take 4 rfl (by kernel_rfl) (by kernel_rfl) (by kernel_rfl) rfl rfl (det_move rfl) rfl rfl ?_ -- r8.4 ref.go:327
      refine AS.take 9 rfl (by kernel_rfl) (by kernel_rfl) (by kernel_rfl) rfl rfl (det_move rfl) rfl rfl ?_ -- r8.9 ref.go:327
      refine AS.one (i := 5) (by kernel_rfl) rfl (by first | exact fun _ h => h | exact fun _ h => h.sub (by repeat first | exact List.Sublist.refl _ | apply List.Sublist.cons_cons | apply List.Sublist.cons)) rfl ?_
      refine WS.callF rfl rfl ent76 (fun u hu => numbers_c _ _ u (by omega) (by omega)) (fun _ => rfl) ?_; intro v30 hv30 -- r8.5 ref.go:327
      refine WS.done ?_
      refine QS.then_AS ?_
      refine AS.one (i := 6) (by kernel_rfl) rfl (by first | exact fun _ h => h | exact fun _ h => h.sub (by repeat first | exact List.Sublist.refl _ | apply List.Sublist.cons_cons | apply List.Sublist.cons)) rfl ?_
      refine WS.callF rfl rfl ent75 (fun u hu => Some_c cs gs _ ((List.range cs.length).eraseIdx s.1.toNat) _ u (hk.st hu) (by rw [← hnb]; exact oints_SlI hu (j := 0) rfl) range_era_lt hrl) (fun _ => rfl) ?_; intro v31 hv31 -- r8.6 ref.go:327
      refine WS.done ?_
      refine QS.then_AS ?_
      refine AS.one (i := 7) (by kernel_rfl) rfl (by first | exact fun _ h => h | exact fun _ h => h.sub (by repeat first | exact List.Sublist.refl _ | apply List.Sublist.cons_cons | apply List.Sublist.cons)) rfl ?_
      refine WS.callF rfl rfl ent69 (fun u hu => RAll_c _ _ _ _ _ u hL hera ((hk.st hu).pick range_era_lt (osl_SlC hu (j := 0) rfl))) (fun _ => rfl) ?_; rintro ⟨va, ga⟩ ⟨ua, hva⟩ -- r8.7 ref.go:327
      refine WS.done ?_
      refine QS.then_AS ?_
      refine AS.one (i := 8) (by kernel_rfl) rfl (by first | exact fun _ h => h | exact fun _ h => h.sub (by repeat first | exact List.Sublist.refl _ | apply List.Sublist.cons_cons | apply List.Sublist.cons)) rfl ?_
      refine WS.det rfl rfl rfl (det_lenS sl51 rfl (SlL.sp hva)) rfl ?_ -- r8.8 ref.go:327
      refine WS.done ?_
      refine QS.then_AS ?_
      refine AS.one (i := 10) (by kernel_rfl) rfl (by first | exact fun _ h => h | exact fun _ h => h.sub (by repeat first | exact List.Sublist.refl _ | apply List.Sublist.cons_cons | apply List.Sublist.cons)) rfl ?_
      refine WS.det rfl rfl rfl (det_eq rfl rfl) rfl ?_ -- r8.10 ref.go:327
      refine WS.done ?_
      refine QS.then_AS ?_
      refine AS.done (by kernel_rfl) (by first | exact fun _ h => h | exact fun _ h => h.sub (by repeat first | exact List.Sublist.refl _ | apply List.Sublist.cons_cons | apply List.Sublist.cons)) ?_
      refine QS.then_code ?_
      refine CS.cond rfl (fun hc3 => ?_) (fun hc3 => ?_) <;> (try simp only [decide_eq_true_eq, decide_eq_false_iff_not, Bool.and_eq_true, Bool.or_eq_true, Bool.and_eq_false_iff, Bool.or_eq_false_iff, Bool.not_eq_true', Bool.not_eq_false', ne_eq, Decidable.not_not, Bool.not_true, Bool.not_false, bne_iff_ne, bne_eq_false_iff_eq, beq_iff_eq, beq_eq_false_iff_ne] at hc3)
      · skip
        have hcnt : (readL lw ls (cs.eraseIdx s.1.toNat)).length = (readL lw ls cs).length := by
          rw [hei]; simp only [if_pos hc1] at hc3; omega
        refine CS.region ?_
        refine WS.det rfl rfl rfl (det_move rfl) rfl ?_ -- r9.0 ref.go:328
        refine WS.det rfl rfl rfl (det_move rfl) rfl ?_ -- r9.1 ref.go:328
        refine WS.buildI1 sl24 zv3 rfl (fun _ => rfl) ?_; intro v38 -- r9.2 ref.go:328
        refine WS.appendI (j := 4) sl24 zv3 rfl rfl rfl (fun u hu => oints_SlI hu (j := 0) rfl) (by first | omega | (simp; omega) | (simp only [List.length_append, List.length_singleton, List.length_map, List.length_cons, List.length_nil] at *; omega)) (by first | omega | (simp; omega) | (simp only [List.length_append, List.length_singleton, List.length_map, List.length_cons, List.length_nil] at *; omega)) (fun _ => rfl) (fun _ => rfl) ?_; intro v39; refine WS.oc (j := 4) rfl (fun hv39 => ?_) -- r9.3 ref.go:328
        refine WS.det rfl rfl rfl (det_assign rfl) rfl ?_ -- r9.4 ref.go:328
        refine WS.done ?_
        refine QS.block_normal ?_
        refine QS.then_code ?_
        refine CS.region ?_
        refine WS.det rfl rfl rfl (det_move rfl) rfl ?_ -- r7.0 ref.go:326
        refine WS.det rfl rfl rfl (det_add rfl rfl (by omega)) rfl ?_ -- r7.1 ref.go:326
        refine WS.det rfl rfl rfl (det_assign rfl) rfl ?_ -- r7.2 ref.go:326
        refine WS.done ?_
        refine QS.sel [4, 4] rfl ?_
        exact QS.head ((s.1 + 1, v39)) rfl (by first | simp only [idleTo_yes hs1 hcnt] | simp only [idleTo_no hs1 hcnt]) ⟨⟨by simp; omega, by simp; omega⟩, by simp; omega⟩
      · skip
        have hcnt : ¬ (readL lw ls (cs.eraseIdx s.1.toNat)).length = (readL lw ls cs).length := by
          rw [hei]; simp only [if_pos hc1] at hc3; omega
        refine CS.skip ?_
        refine QS.block_normal ?_
        refine QS.then_code ?_
        refine CS.region ?_
        refine WS.det rfl rfl rfl (det_move rfl) rfl ?_ -- r7.0 ref.go:326
        refine WS.det rfl rfl rfl (det_add rfl rfl (by omega)) rfl ?_ -- r7.1 ref.go:326
        refine WS.det rfl rfl rfl (det_assign rfl) rfl ?_ -- r7.2 ref.go:326
        refine WS.done ?_
        refine QS.sel [3, 3] rfl ?_
        exact QS.head ((s.1 + 1, s.2)) rfl (by first | simp only [idleTo_yes hs1 hcnt] | simp only [idleTo_no hs1 hcnt]) ⟨⟨by simp; omega, by simp; omega⟩, by simp; omega⟩
    · skip
      refine CS.leave ?_
      refine QS.then_exit ?_
      refine QS.then_exit ?_
      refine QS.block_exit ?_
      refine QS.then_code ?_
      refine CS.seq ?_
      refine CS.region ?_
      refine WS.det rfl rfl rfl (det_move rfl) rfl ?_ -- r10.0 ref.go:331
      refine WS.det rfl rfl rfl (det_assign rfl) rfl ?_ -- r10.1 ref.go:331
      refine WS.det rfl rfl rfl (det_assign rfl) rfl ?_ -- r10.2 ref.go:331
      refine WS.done ?_
      refine QS.then_code ?_
      refine CS.ret ?_
      exact out2 rfl rfl rfl (retIe (j := 0) rfl (by rw [if_pos hc1, show s.1.toNat = cs.length by omega]) (by rw [hc1])) -- ret 2

end Go.Proofs.Ytldagbcceefcdaa
