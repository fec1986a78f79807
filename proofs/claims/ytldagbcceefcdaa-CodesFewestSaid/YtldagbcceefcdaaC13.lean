/- Contracts of functions, printed by a program of the prover (gen.py). -/
import Derived.Test.YtldagbcceefcdaaC12
namespace Go.Proofs.Ytldagbcceefcdaa
open Go.RowKit Go.Proofs
set_option maxRecDepth 100000
set_option linter.unusedVariables false
set_option linter.unusedSimpArgs false

theorem Shows_c (lw ls : Int) (cs : List Clue) (gs : List Value) (cv : Value) (w : World) (hk : ClS w cv cs gs) :
    Calls Try.prog 42 #[.agg #[.int .i64 lw, .int .i64 ls], cv] w (fun e w' => ∃ x : Value × List Value, (∃ u0, SlL u0 x.1 (if cluesE lw ls cs = 0 then showL lw ls (readL lw ls cs) else []) x.2) ∧ RetF w (.tuple #[x.1, .int .i64 (cluesE lw ls cs)]) (roL x.1 (if cluesE lw ls cs = 0 then showL lw ls (readL lw ls cs) else []) x.2) e w') := by
  refine enterM St.nil Try.func42 rfl rfl (Nat.le_of_ble_eq_true rfl) ?_
  refine CS.seq ?_
  refine CS.region ?_
  refine WS.box rfl rfl (fun _ => rfl) ?_; intro b2 hb2 -- r0.0 codes.go:261
  refine WS.det rfl rfl rfl (det_assign rfl) rfl ?_ -- r0.1 codes.go:261
  refine WS.det rfl rfl rfl (det_assign rfl) rfl ?_ -- r0.2 codes.go:261
  refine WS.done ?_
  refine QS.then_code ?_
  refine CS.seq ?_
  refine CS.seq ?_
  refine CS.region ?_
  refine WS.det rfl rfl rfl ((by first | exact det_loadb0 (j := 0) rfl rfl tk23 | exact det_loadbN (j := 0) rfl rfl (by rfl) tk23 | exact det_loadwN rfl (by assumption) (by rfl) tk23 | exact det_loadbK (n := 2) (j := 0) rfl rfl rfl rfl tk23)) rfl ?_ -- r1.0 codes.go:262
  refine WS.det rfl rfl rfl (det_move rfl) rfl ?_ -- r1.1 codes.go:262
  refine WS.det rfl rfl rfl (det_callB rfl rfl ent57 (fun u hu => checkClues_c _ _ _ _ _ u (hk.st hu))) rfl ?_ -- r1.2 codes.go:262
  refine WS.det rfl rfl rfl (det_assign rfl) rfl ?_ -- r1.3 codes.go:262
  refine WS.done ?_
  refine QS.then_code ?_
  refine CS.seq ?_
  refine CS.region ?_
  refine WS.det rfl rfl rfl (det_move rfl) rfl ?_ -- r2.0 codes.go:262
  refine WS.det rfl rfl rfl (det_ne rfl rfl) rfl ?_ -- r2.1 codes.go:262
  refine WS.done ?_
  refine QS.then_code ?_
  refine CS.cond rfl (fun hc1 => ?_) (fun hc1 => ?_) <;> (try simp only [decide_eq_true_eq, decide_eq_false_iff_not, Bool.and_eq_true, Bool.or_eq_true, Bool.and_eq_false_iff, Bool.or_eq_false_iff, Bool.not_eq_true', Bool.not_eq_false', ne_eq, Decidable.not_not, Bool.not_true, Bool.not_false, bne_iff_ne, bne_eq_false_iff_eq, beq_iff_eq, beq_eq_false_iff_ne] at hc1)
  · skip
    refine CS.seq ?_
    refine CS.region ?_
    refine WS.det rfl rfl rfl (det_move rfl) rfl ?_ -- r3.0 codes.go:263
    refine WS.det rfl rfl rfl (det_assign rfl) rfl ?_ -- r3.1 codes.go:263
    refine WS.det rfl rfl rfl (det_assign rfl) rfl ?_ -- r3.2 codes.go:263
    refine WS.done ?_
    refine QS.then_code ?_
    refine CS.ret ?_
    refine QS.then_ret ?_
    exact outE (Or.inl rfl) (res2 rfl rfl rfl) (retLne (f := fun z => .tuple #[z, .int .i64 (cluesE lw ls cs)]) (by simp [hc1]) (by simp [hc1])) -- ret 1
  · skip
    have hL := cluesE_lock hc1
    have hC := cluesE_clue hc1
    have hl := lock_of hL
    refine CS.skip ?_
    refine QS.then_code ?_
    refine CS.seq ?_
    refine CS.region ?_
    refine WS.alloc zv92 (fun _ => rfl) ?_; intro b7 hb7 -- r4.0 codes.go:265
    refine WS.done ?_
    refine QS.then_code ?_
    refine CS.seq ?_
    refine CS.seq ?_
    refine CS.region ?_
    refine WS.det rfl rfl rfl ((by first | exact det_loadb0 (j := 1) rfl rfl tk23 | exact det_loadbN (j := 1) rfl rfl (by rfl) tk23 | exact det_loadwN rfl (by assumption) (by rfl) tk23 | exact det_loadbK (n := 2) (j := 1) rfl rfl rfl rfl tk23)) rfl ?_ -- r5.0 codes.go:266
    refine WS.det rfl rfl rfl (det_move rfl) rfl ?_ -- r5.1 codes.go:266
    refine WS.callF rfl rfl ent67 (fun u hu => readings_c _ _ _ _ _ u (hk.st hu)) (fun _ => rfl) ?_; intro br _; refine WS.unpack ?_ -- r5.2 codes.go:266
    refine WS.done ?_
    refine QS.then_code ?_
    refine CS.block ?_
    refine CS.weak (L' := [blk b7 (shC lw [] [] 0) 92, blk b2 [.int .i64 lw, .int .i64 ls] 23] ++ [blk br.1 [.int .i64 lw, .int .i64 ls] 77, blk br.2 [cv] 31]) (fun u hu => (by rw [shC_nil]; exact hu.sel [2, 2, 0, 0] rfl)) ?_
    refine CS.rangeA (A := [blk br.1 [.int .i64 lw, .int .i64 ls] 77, blk br.2 [cv] 31]) rfl ent92 (readingsI_c lw ls cs gs cv w br.1 br.2 hL hk hC) (fun pre => [blk b7 (shC lw pre [] 0) 92, blk b2 [.int .i64 lw, .int .i64 ls] 23]) (fun kd pre => match kd with | _ => [fact False]) (fun _ => rfl) (Nat.le_of_ble_eq_true rfl) (fun _ => rfl) ?_ ?_ ?_
    · intro lr pre x post v F hall
      have hx := (readL_mem hL (show x ∈ readL lw ls cs by rw [hall]; simp)).1
      have hx4 := (code_ten hL hx).1
      have hx10 := (code_ten hL hx).2
      have hxl := (code_of hx).1
      refine CS.block ?_
      refine CS.seq ?_
      refine CS.region ?_
      refine WS.det rfl rfl rfl (det_move rfl) rfl ?_ -- r7.0 codes.go:267
      refine WS.det rfl rfl rfl (det_lenOI (j := 0) sl24 rfl rfl) rfl ?_ -- r7.1 codes.go:267
      refine WS.det rfl rfl rfl (det_move rfl) rfl ?_ -- r7.2 codes.go:267
      refine WS.done ?_
      refine QS.then_code ?_
      refine CS.block ?_
      refine CS.loopM (σ := Int) [9, 10, 28, 29, 30, 31, 32, 33, 34, 35, 36] (fun s => [(27, .int .i64 s)]) (fun s => [oints 3 v x, blk b7 (shC lw pre x s.toNat) 92, blk b2 [.int .i64 lw, .int .i64 ls] 23, F]) (fun s => 0 ≤ s ∧ s ≤ x.length) (fun s => (x.length - s).toNat) 0 (fun _ _ => rfl) rfl (by simp only [Int.toNat_zero, shC_zero x]; rfl) ⟨by omega, by omega⟩ ?_
      intro s t hs
      obtain ⟨hs1, hs2⟩ := hs
      refine CS.seq ?_
      refine CS.region ?_
      refine WS.det rfl rfl rfl (det_lt rfl rfl) rfl ?_ -- r8.0 codes.go:267
      refine WS.done ?_
      refine QS.then_code ?_
      refine CS.seq ?_
      refine CS.cond rfl (fun hc2 => ?_) (fun hc2 => ?_) <;> (try simp only [decide_eq_true_eq, decide_eq_false_iff_not, Bool.and_eq_true, Bool.or_eq_true, Bool.and_eq_false_iff, Bool.or_eq_false_iff, Bool.not_eq_true', Bool.not_eq_false', ne_eq, Decidable.not_not, Bool.not_true, Bool.not_false, bne_iff_ne, bne_eq_false_iff_eq, beq_iff_eq, beq_eq_false_iff_ne] at hc2)
      · skip
        have hxs := hx10 _ (nth_mem hs1 (show s < x.length by omega))
        refine CS.skip ?_
        refine QS.then_code ?_
        refine CS.seq ?_
        refine CS.block ?_
        refine CS.seq ?_
        refine CS.region ?_
        refine WS.det rfl rfl rfl (det_move rfl) rfl ?_ -- r9.0 codes.go:267
        refine WS.det rfl rfl rfl (det_idxOI (j := 0) sl24 rfl rfl rfl (by omega) (by omega)) rfl ?_ -- r9.1 codes.go:267
        refine WS.det rfl rfl rfl (det_ldOI (j := 0) rfl rfl (by omega) tk3) rfl ?_ -- r9.2 codes.go:267
        refine WS.det rfl rfl rfl (det_assign rfl) rfl ?_ -- r9.3 codes.go:267
        refine WS.det rfl rfl rfl (det_assign rfl) rfl ?_ -- r9.4 codes.go:267
        refine WS.done ?_
        refine QS.then_code ?_
        refine CS.region ?_
        refine WS.det rfl rfl rfl (det_move rfl) rfl ?_ -- r10.0 codes.go:268
        refine WS.det rfl rfl rfl (det_move rfl) rfl ?_ -- r10.1 codes.go:268
        refine WS.det rfl rfl rfl (det_indexA arr92 rfl rfl (by omega) (by omega)) rfl ?_ -- r10.2 codes.go:268
        refine WS.det rfl rfl rfl (det_indexA arr91 rfl rfl (by omega) (by omega)) rfl ?_ -- r10.3 codes.go:268
        refine WS.store (j := 1) rfl rfl (by rw [shC_len]; omega) rfl rfl tk4 (lset_eq _ _ _) rfl ?_ -- r10.4 codes.go:268
        refine WS.done ?_
        refine QS.block_normal ?_
        refine QS.then_code ?_
        refine CS.region ?_
        refine WS.det rfl rfl rfl (det_add rfl rfl (by omega)) rfl ?_ -- r11.0 codes.go:267
        refine WS.det rfl rfl rfl (det_move rfl) rfl ?_ -- r11.1 codes.go:267
        refine WS.done ?_
        exact QS.head (s + 1) rfl (by simp only [shC_set hs1 (show s < 4 by omega) hxs]) ⟨⟨by omega, by omega⟩, by omega⟩
      · skip
        refine CS.leave ?_
        refine QS.then_exit ?_
        refine QS.then_exit ?_
        refine QS.block_exit ?_
        refine QS.block_normal ?_
        refine QS.sel [0, 0, 0, 0] rfl ?_
        exact fun u hu => by
          simp only [roundQ]
          rw [shC_full (w := lw) (m := s) (by omega) (by omega)] at hu
          exact hu
    · intro D
      refine QS.block_normal ?_
      refine QS.then_code ?_
      refine CS.seq ?_
      refine CS.region ?_
      refine WS.det rfl rfl rfl ((by first | exact det_fieldAddr rfl fo23_0 | exact det_fieldAddrS rfl fo23_0)) rfl ?_ -- r12.0 codes.go:271
      refine WS.det rfl rfl rfl ((by first | exact det_loadb (j := 2) rfl rfl rfl tk3 | exact det_loadw rfl (by assumption) rfl tk3)) rfl ?_ -- r12.1 codes.go:271
      refine WS.makeLists (e := 3) sl51 rfl rfl zv24 (by omega) (by omega) (by omega) (fun _ => rfl) ?_; intro v39 -- r12.2 codes.go:271
      refine WS.det rfl rfl rfl (det_assign rfl) rfl ?_ -- r12.3 codes.go:271
      refine WS.done ?_
      refine QS.then_code ?_
      refine CS.seq ?_
      refine CS.seq ?_
      refine CS.region ?_
      refine WS.det rfl rfl rfl (det_move rfl) rfl ?_ -- r13.0 codes.go:272
      refine WS.det rfl rfl rfl (det_lenO (j := 0) sl51 rfl rfl) rfl ?_ -- r13.1 codes.go:272
      refine WS.det rfl rfl rfl (det_move rfl) rfl ?_ -- r13.2 codes.go:272
      refine WS.done ?_
      refine QS.then_code ?_
      refine CS.block ?_
      refine CS.loopM (σ := Int × List (Value × List Int)) [12, 13, 14, 43, 44, 45, 46, 47, 48, 49, 50, 51, 52, 53, 54, 55, 56, 57, 58, 59, 60, 61, 62, 63, 64] (fun s => [(42, .int .i64 s.1)]) (fun s => [osl 24 1 v39 (s.2.map (·.1)).length (s.2.map (·.1)), star (loi 3 s.2), recd D (.deferred (some [])), blk b7 (shC lw (readL lw ls cs) [] 0) 92, blk b2 [.int .i64 lw, .int .i64 ls] 23, blk br.1 [.int .i64 lw, .int .i64 ls] 77, blk br.2 [cv] 31]) (fun s => 0 ≤ s.1 ∧ s.1 ≤ lw ∧ s.2.map (·.2) = rowsTo lw (readL lw ls cs) 10 s.1.toNat 0) (fun s => (lw - s.1).toNat) (0, List.replicate lw.toNat (.slice none 0 0, [])) (fun _ _ => rfl) rfl rfl ⟨by simp, by simp; omega, by simp [rowsTo_start]⟩ ?_
      intro r t hs
      have hln : (List.map (fun x => x.1) (List.replicate lw.toNat ((Value.slice none 0 0, []) : Value × List Int))).length = lw.toNat := by simp
      obtain ⟨hr1, hr2, hr3⟩ := hs
      refine CS.seq ?_
      refine CS.region ?_
      refine WS.det rfl rfl rfl (det_lt rfl rfl) rfl ?_ -- r14.0 codes.go:272
      refine WS.done ?_
      refine QS.then_code ?_
      refine CS.seq ?_
      refine CS.cond rfl (fun hc3 => ?_) (fun hc3 => ?_) <;> (try simp only [decide_eq_true_eq, decide_eq_false_iff_not, Bool.and_eq_true, Bool.or_eq_true, Bool.and_eq_false_iff, Bool.or_eq_false_iff, Bool.not_eq_true', Bool.not_eq_false', ne_eq, Decidable.not_not, Bool.not_true, Bool.not_false, bne_iff_ne, bne_eq_false_iff_eq, beq_iff_eq, beq_eq_false_iff_ne] at hc3)
      · skip
        refine CS.skip ?_
        refine QS.then_code ?_
        refine CS.seq ?_
        refine CS.block ?_
        refine CS.seq ?_
        refine CS.region ?_
        refine WS.det rfl rfl rfl (det_move rfl) rfl ?_ -- r15.0 codes.go:272
        refine WS.det rfl rfl rfl (det_assign rfl) rfl ?_ -- r15.1 codes.go:272
        refine WS.done ?_
        refine QS.then_code ?_
        refine CS.seq ?_
        refine CS.region ?_
        refine WS.det rfl rfl rfl (det_move rfl) rfl ?_ -- r16.0 codes.go:273
        refine WS.det rfl rfl rfl (det_indexA arr92 rfl rfl (by omega) (by omega)) rfl ?_ -- r16.1 codes.go:273
        refine WS.det rfl rfl rfl (det_loadbK (cs := shR lw (readL lw ls cs) r.1.toNat) (j := 3) rfl rfl (shC_row (by omega)) (shR_len _ _ _) tk91) rfl ?_ -- r16.2 codes.go:273
        refine WS.det rfl rfl rfl (det_move rfl) rfl ?_ -- r16.3 codes.go:273
        refine WS.done ?_
        refine QS.then_code ?_
        refine CS.block ?_
        refine CS.loopM (σ := Int × List (Value × List Int)) [13, 14, 49, 50, 51, 52, 53, 54, 55, 56, 57, 58, 59, 60, 61, 62, 63] (fun s => [(48, .int .i64 s.1)]) (fun s => [osl 24 1 v39 (s.2.map (·.1)).length (s.2.map (·.1)), star (loi 3 s.2), recd D (.deferred (some [])), blk b7 (shC lw (readL lw ls cs) [] 0) 92, blk b2 [.int .i64 lw, .int .i64 ls] 23, blk br.1 [.int .i64 lw, .int .i64 ls] 77, blk br.2 [cv] 31]) (fun s => 0 ≤ s.1 ∧ s.1 ≤ 10 ∧ s.2.map (·.2) = rowsTo lw (readL lw ls cs) 10 r.1.toNat s.1.toNat) (fun s => (10 - s.1).toNat) (0, r.2) (fun _ _ => rfl) rfl rfl ⟨by simp, by simp, hr3⟩ ?_
        intro q t hs
        obtain ⟨hq1, hq2, hq3⟩ := hs
        have hri : r.1.toNat < lw.toNat := by omega
        obtain ⟨ga2, hp⟩ := snd_at hq3 (rowsTo_at hri)
        have hpl := snd_len hq3
        have hpl2 : (rowsTo lw (readL lw ls cs) 10 r.1.toNat q.1.toNat).length = lw.toNat := by simp [rowsTo]
        have hpl3 : (q.2.map (·.1)).length = lw.toNat := by rw [List.length_map]; omega
        have hrl := rowTo_len lw (readL lw ls cs) r.1.toNat q.1.toNat
        refine CS.seq ?_
        refine CS.region ?_
        refine WS.det rfl rfl rfl (det_lt rfl rfl) rfl ?_ -- r17.0 codes.go:273
        refine WS.done ?_
        refine QS.then_code ?_
        refine CS.seq ?_
        refine CS.cond rfl (fun hc4 => ?_) (fun hc4 => ?_) <;> (try simp only [decide_eq_true_eq, decide_eq_false_iff_not, Bool.and_eq_true, Bool.or_eq_true, Bool.and_eq_false_iff, Bool.or_eq_false_iff, Bool.not_eq_true', Bool.not_eq_false', ne_eq, Decidable.not_not, Bool.not_true, Bool.not_false, bne_iff_ne, bne_eq_false_iff_eq, beq_iff_eq, beq_eq_false_iff_ne] at hc4)
        · skip
          refine CS.skip ?_
          refine QS.then_code ?_
          refine CS.seq ?_
          refine CS.block ?_
          refine CS.seq ?_
          refine CS.region ?_
          refine WS.det rfl rfl rfl (det_move rfl) rfl ?_ -- r18.0 codes.go:273
          refine WS.det rfl rfl rfl (det_indexArr Try.underlying91 tk4 rfl rfl (by omega) (by omega) (shR_at (by omega) (by omega))) rfl ?_ -- r18.1 codes.go:273
          refine WS.det rfl rfl rfl (det_assign rfl) rfl ?_ -- r18.2 codes.go:273
          refine WS.det rfl rfl rfl (det_assign rfl) rfl ?_ -- r18.3 codes.go:273
          refine WS.done ?_
          refine QS.then_code ?_
          refine CS.seq ?_
          refine CS.region ?_
          refine WS.det rfl rfl rfl (det_move rfl) rfl ?_ -- r19.0 codes.go:274
          refine WS.done ?_
          refine QS.then_code ?_
          refine CS.cond rfl (fun hc5 => ?_) (fun hc5 => ?_) <;> (try simp only [decide_eq_true_eq, decide_eq_false_iff_not, Bool.and_eq_true, Bool.or_eq_true, Bool.and_eq_false_iff, Bool.or_eq_false_iff, Bool.not_eq_true', Bool.not_eq_false', ne_eq, Decidable.not_not, Bool.not_true, Bool.not_false, bne_iff_ne, bne_eq_false_iff_eq, beq_iff_eq, beq_eq_false_iff_ne] at hc5)
          · skip
            have hfl : flag lw (readL lw ls cs) r.1.toNat q.1.toNat = true := hc5
            refine CS.region ?_
            refine WS.det rfl rfl rfl (det_move rfl) rfl ?_ -- r20.0 codes.go:275
            refine WS.det rfl rfl rfl (det_move rfl) rfl ?_ -- r20.1 codes.go:275
            refine WS.det rfl rfl rfl (det_move rfl) rfl ?_ -- r20.2 codes.go:275
            refine WS.det rfl rfl rfl (det_move rfl) rfl ?_ -- r20.3 codes.go:275
            refine WS.det rfl rfl rfl (det_idxO (j := 0) sl51 rfl rfl rfl (by omega) (by omega)) rfl ?_ -- r20.4 codes.go:275
            refine WS.det rfl rfl rfl (det_ldO (j := 0) rfl rfl (by rw [Nat.mul_one, List.getElem?_map, hp]; rfl) tk24) rfl ?_ -- r20.5 codes.go:275
            refine WS.det rfl rfl rfl (det_move rfl) rfl ?_ -- r20.6 codes.go:275
            refine WS.buildI1 sl24 zv3 rfl (fun _ => rfl) ?_; intro v60 -- r20.7 codes.go:275
            refine WS.appendAt (j := 2) (p := (ga2, rowTo lw (readL lw ls cs) r.1.toNat q.1.toNat)) (i := r.1.toNat) sl24 zv3 rfl rfl hp rfl (fun u hu => oints_SlI hu (j := 0) rfl) (by simp only [List.length_singleton]; omega) (by simp only [List.length_singleton]; omega) (fun _ => rfl) (fun _ => rfl) ?_; intro v61 hv61 -- r20.8 codes.go:275
            refine WS.det rfl rfl rfl (det_idxO (j := 1) sl51 rfl rfl rfl (by omega) (by omega)) rfl ?_ -- r20.9 codes.go:275
            refine WS.storeO (j := 1) rfl rfl (by rw [Nat.mul_one, List.length_map]; omega) rfl hv61 tk24 rfl ?_ -- r20.10 codes.go:275
            refine WS.done ?_
            refine QS.block_normal ?_
            refine QS.then_code ?_
            refine CS.region ?_
            refine WS.det rfl rfl rfl (det_add rfl rfl (by omega)) rfl ?_ -- r21.0 codes.go:273
            refine WS.det rfl rfl rfl (det_move rfl) rfl ?_ -- r21.1 codes.go:273
            refine WS.done ?_
            refine QS.sel [1, 1, 1, 1, 1, 1, 1] rfl ?_
            exact QS.head ((q.1 + 1, q.2.set r.1.toNat (v61, rowTo lw (readL lw ls cs) r.1.toNat q.1.toNat ++ [q.1]))) rfl (by simp only [map_fst_set, Nat.mul_one, List.length_set]) ⟨⟨by simp; omega, by simp; omega, by simp only; rw [map_snd_set hq3, ← rowTo_yes hq1 hfl, rowsTo_set hri]⟩, by simp; omega⟩
          · skip
            have hfl : flag lw (readL lw ls cs) r.1.toNat q.1.toNat = false := hc5
            refine CS.skip ?_
            refine QS.block_normal ?_
            refine QS.then_code ?_
            refine CS.region ?_
            refine WS.det rfl rfl rfl (det_add rfl rfl (by omega)) rfl ?_ -- r21.0 codes.go:273
            refine WS.det rfl rfl rfl (det_move rfl) rfl ?_ -- r21.1 codes.go:273
            refine WS.done ?_
            exact QS.head ((q.1 + 1, q.2)) rfl (by simp only [map_fst_set, Nat.mul_one, List.length_set]) ⟨⟨by simp; omega, by simp; omega, by simp only; rw [hq3, rowsTo_same (rowTo_no hq1 hfl)]⟩, by simp; omega⟩
        · skip
          refine CS.leave ?_
          refine QS.then_exit ?_
          refine QS.then_exit ?_
          refine QS.block_exit ?_
          refine QS.block_normal ?_
          refine QS.then_code ?_
          refine CS.region ?_
          refine WS.det rfl rfl rfl (det_add rfl rfl (by omega)) rfl ?_ -- r22.0 codes.go:272
          refine WS.det rfl rfl rfl (det_move rfl) rfl ?_ -- r22.1 codes.go:272
          refine WS.done ?_
          exact QS.head ((r.1 + 1, q.2)) rfl rfl ⟨⟨by simp; omega, by simp; omega, by simp only; rw [hq3, show q.1.toNat = 10 by omega, rowsTo_next, show (r.1 + 1).toNat = r.1.toNat + 1 by omega]⟩, by simp; omega⟩
      · skip
        refine CS.leave ?_
        refine QS.then_exit ?_
        refine QS.then_exit ?_
        refine QS.block_exit ?_
        refine QS.then_code ?_
        refine CS.seq ?_
        refine CS.region ?_
        refine WS.det rfl rfl rfl (det_move rfl) rfl ?_ -- r23.0 codes.go:279
        refine WS.det rfl rfl rfl (det_assign rfl) rfl ?_ -- r23.1 codes.go:279
        refine WS.det rfl rfl rfl (det_assign rfl) rfl ?_ -- r23.2 codes.go:279
        refine WS.done ?_
        refine QS.then_code ?_
        refine CS.ret ?_
        exact outM (j := 2) (Or.inl rfl) rfl (res2 rfl rfl rfl) (retLe (f := fun z => .tuple #[z, .int .i64 (cluesE lw ls cs)]) (by rw [hr3, show r.1.toNat = lw.toNat by omega, rows_ten (by omega) (fun y hy => (readL_mem hL hy).1), if_pos hc1]) (by rw [hc1])) -- ret 2
    · intro D kd pre x post hall
      cases kd with
      | _ => exact fun u hu => (hu.factE (j := 1) rfl).elim

theorem RShows_c (lw ls : Int) (cs : List Clue) (gs : List Value) (cv : Value) (w : World) (hk : ClS w cv cs gs) :
    Calls Try.prog 43 #[.agg #[.int .i64 lw, .int .i64 ls], cv] w (fun e w' => ∃ x : Value × List Value, (∃ u0, SlL u0 x.1 (if cluesE lw ls cs = 0 then showL lw ls (readL lw ls cs) else []) x.2) ∧ RetF w (.tuple #[x.1, .int .i64 (cluesE lw ls cs)]) (roL x.1 (if cluesE lw ls cs = 0 then showL lw ls (readL lw ls cs) else []) x.2) e w') := by
  refine enter Try.func43 rfl rfl (Nat.le_of_ble_eq_true rfl) ?_
  refine CS.seq ?_
  refine CS.region ?_
  refine WS.box rfl rfl (fun _ => rfl) ?_; intro b2 hb2 -- r0.0 ref.go:262
  refine WS.det rfl rfl rfl (det_assign rfl) rfl ?_ -- r0.1 ref.go:262
  refine WS.det rfl rfl rfl (det_assign rfl) rfl ?_ -- r0.2 ref.go:262
  refine WS.done ?_
  refine QS.then_code ?_
  refine CS.seq ?_
  refine CS.seq ?_
  refine CS.region ?_
  refine WS.det rfl rfl rfl ((by first | exact det_loadb0 (j := 0) rfl rfl tk23 | exact det_loadbN (j := 0) rfl rfl (by rfl) tk23 | exact det_loadwN rfl (by assumption) (by rfl) tk23 | exact det_loadbK (n := 2) (j := 0) rfl rfl rfl rfl tk23)) rfl ?_ -- r1.0 ref.go:263
  refine WS.det rfl rfl rfl (det_move rfl) rfl ?_ -- r1.1 ref.go:263
  refine WS.det rfl rfl rfl (det_callB rfl rfl ent33 (fun u hu => RCheckClues_c _ _ _ _ _ u (hk.st hu))) rfl ?_ -- r1.2 ref.go:263
  refine WS.det rfl rfl rfl (det_assign rfl) rfl ?_ -- r1.3 ref.go:263
  refine WS.done ?_
  refine QS.then_code ?_
  refine CS.seq ?_
  refine CS.region ?_
  refine WS.det rfl rfl rfl (det_move rfl) rfl ?_ -- r2.0 ref.go:263
  refine WS.det rfl rfl rfl (det_ne rfl rfl) rfl ?_ -- r2.1 ref.go:263
  refine WS.done ?_
  refine QS.then_code ?_
  refine CS.cond rfl (fun hc1 => ?_) (fun hc1 => ?_) <;> (try simp only [decide_eq_true_eq, decide_eq_false_iff_not, Bool.and_eq_true, Bool.or_eq_true, Bool.and_eq_false_iff, Bool.or_eq_false_iff, Bool.not_eq_true', Bool.not_eq_false', ne_eq, Decidable.not_not, Bool.not_true, Bool.not_false, bne_iff_ne, bne_eq_false_iff_eq, beq_iff_eq, beq_eq_false_iff_ne] at hc1)
  · skip
    refine CS.seq ?_
    refine CS.region ?_
    refine WS.det rfl rfl rfl (det_move rfl) rfl ?_ -- r3.0 ref.go:264
    refine WS.det rfl rfl rfl (det_assign rfl) rfl ?_ -- r3.1 ref.go:264
    refine WS.det rfl rfl rfl (det_assign rfl) rfl ?_ -- r3.2 ref.go:264
    refine WS.done ?_
    refine QS.then_code ?_
    refine CS.ret ?_
    refine QS.then_ret ?_
    exact out2 rfl rfl rfl (retLne (f := fun z => .tuple #[z, .int .i64 (cluesE lw ls cs)]) (by simp [hc1]) (by simp [hc1])) -- ret 1
  · skip
    have hL := cluesE_lock hc1
    have hC := cluesE_clue hc1
    have hl := lock_of hL
    refine CS.skip ?_
    refine QS.then_code ?_
    refine CS.seq ?_
    refine CS.region ?_
    refine WS.det rfl rfl rfl ((by first | exact det_loadb0 (j := 0) rfl rfl tk23 | exact det_loadbN (j := 0) rfl rfl (by rfl) tk23 | exact det_loadwN rfl (by assumption) (by rfl) tk23 | exact det_loadbK (n := 2) (j := 0) rfl rfl rfl rfl tk23)) rfl ?_ -- r4.0 ref.go:266
    refine WS.det rfl rfl rfl (det_move rfl) rfl ?_ -- r4.1 ref.go:266
    refine WS.callF rfl rfl ent69 (fun u hu => RAll_c _ _ _ _ _ u hL hC (hk.st hu)) (fun _ => rfl) ?_; rintro ⟨va, ga⟩ ⟨ua, hva⟩ -- r4.2 ref.go:266
    refine WS.det rfl rfl rfl (det_assign rfl) rfl ?_ -- r4.3 ref.go:266
    refine WS.done ?_
    refine QS.then_code ?_
    refine CS.seq ?_
    refine CS.region ?_
    refine WS.det rfl rfl rfl ((by first | exact det_fieldAddr rfl fo23_0 | exact det_fieldAddrS rfl fo23_0)) rfl ?_ -- r5.0 ref.go:267
    refine WS.det rfl rfl rfl ((by first | exact det_loadb (j := 1) rfl rfl rfl tk3 | exact det_loadw rfl (by assumption) rfl tk3)) rfl ?_ -- r5.1 ref.go:267
    refine WS.makeLists (e := 3) sl51 rfl rfl zv24 (by omega) (by omega) (by omega) (fun _ => rfl) ?_; intro v24 -- r5.2 ref.go:267
    refine WS.det rfl rfl rfl (det_assign rfl) rfl ?_ -- r5.3 ref.go:267
    refine WS.done ?_
    refine QS.then_code ?_
    refine CS.seq ?_
    refine CS.seq ?_
    refine CS.region ?_
    refine WS.det rfl rfl rfl (det_assign rfl) rfl ?_ -- r6.0 ref.go:268
    refine WS.done ?_
    refine QS.then_code ?_
    refine CS.block ?_
    refine CS.loopM (σ := Int × List (Value × List Int)) [10, 11, 12, 25, 26, 27, 28, 29, 30, 31, 32, 33, 34, 35, 36, 37, 38, 39, 40, 41, 42, 43, 44, 45, 46, 47, 48, 49, 50, 51, 52, 53, 54, 55, 56, 57, 58, 59, 60, 61, 62, 63, 64, 65] (fun s => [(9, .int .i64 s.1)]) (fun s => [osl 24 1 v24 (s.2.map (·.1)).length (s.2.map (·.1)), star (loi 3 s.2), roL va (readL lw ls cs) ga, blk b2 [.int .i64 lw, .int .i64 ls] 23]) (fun s => 0 ≤ s.1 ∧ s.1 ≤ lw ∧ s.2.map (·.2) = rowsTo lw (readL lw ls cs) ls.toNat s.1.toNat 0) (fun s => (lw - s.1).toNat) (0, List.replicate lw.toNat (.slice none 0 0, [])) (fun _ _ => rfl) rfl rfl ⟨by simp, by simp; omega, by simp [rowsTo_start]⟩ ?_
    intro r t hs
    have hln : (List.map (fun x => x.1) (List.replicate lw.toNat ((Value.slice none 0 0, []) : Value × List Int))).length = lw.toNat := by simp
    obtain ⟨hr1, hr2, hr3⟩ := hs
    refine CS.seq ?_
    refine CS.seq ?_
    refine CS.region ?_
    refine WS.det rfl rfl rfl (det_move rfl) rfl ?_ -- r7.0 ref.go:268
    refine WS.det rfl rfl rfl ((by first | exact det_fieldAddr rfl fo23_0 | exact det_fieldAddrS rfl fo23_0)) rfl ?_ -- r7.1 ref.go:268
    refine WS.det rfl rfl rfl ((by first | exact det_loadb (j := 3) rfl rfl rfl tk3 | exact det_loadw rfl (by assumption) rfl tk3)) rfl ?_ -- r7.2 ref.go:268
    refine WS.det rfl rfl rfl (det_lt rfl rfl) rfl ?_ -- r7.3 ref.go:268
    refine WS.done ?_
    refine QS.then_code ?_
    refine CS.cond rfl (fun hc2 => ?_) (fun hc2 => ?_) <;> (try simp only [decide_eq_true_eq, decide_eq_false_iff_not, Bool.and_eq_true, Bool.or_eq_true, Bool.and_eq_false_iff, Bool.or_eq_false_iff, Bool.not_eq_true', Bool.not_eq_false', ne_eq, Decidable.not_not, Bool.not_true, Bool.not_false, bne_iff_ne, bne_eq_false_iff_eq, beq_iff_eq, beq_eq_false_iff_ne] at hc2)
    · skip
      refine CS.skip ?_
      refine QS.then_code ?_
      refine CS.seq ?_
      refine CS.block ?_
      refine CS.seq ?_
      refine CS.region ?_
      refine WS.det rfl rfl rfl (det_assign rfl) rfl ?_ -- r9.0 ref.go:269
      refine WS.done ?_
      refine QS.then_code ?_
      refine CS.block ?_
      refine CS.loopM (σ := Int × List (Value × List Int)) [11, 12, 31, 32, 33, 34, 35, 36, 37, 38, 39, 40, 41, 42, 43, 44, 45, 46, 47, 48, 49, 50, 51, 52, 53, 54, 55, 56, 57, 58, 59, 60, 61, 62, 63, 64, 65] (fun s => [(10, .int .i64 s.1)]) (fun s => [osl 24 1 v24 (s.2.map (·.1)).length (s.2.map (·.1)), star (loi 3 s.2), roL va (readL lw ls cs) ga, blk b2 [.int .i64 lw, .int .i64 ls] 23]) (fun s => 0 ≤ s.1 ∧ s.1 ≤ ls ∧ s.2.map (·.2) = rowsTo lw (readL lw ls cs) ls.toNat r.1.toNat s.1.toNat) (fun s => (10 - s.1).toNat) (0, r.2) (fun _ _ => rfl) rfl rfl ⟨by simp, by simp; omega, hr3⟩ ?_
      intro q t hs
      obtain ⟨hq1, hq2, hq3⟩ := hs
      have hri : r.1.toNat < lw.toNat := by omega
      obtain ⟨ga2, hp⟩ := snd_at hq3 (rowsTo_at hri)
      have hpl := snd_len hq3
      have hpl2 : (rowsTo lw (readL lw ls cs) ls.toNat r.1.toNat q.1.toNat).length = lw.toNat := by simp [rowsTo]
      have hpl3 : (q.2.map (·.1)).length = lw.toNat := by rw [List.length_map]; omega
      have hrl := rowTo_len lw (readL lw ls cs) r.1.toNat q.1.toNat
      refine CS.seq ?_
      refine CS.seq ?_
      refine CS.region ?_
      refine WS.det rfl rfl rfl (det_move rfl) rfl ?_ -- r10.0 ref.go:269
      refine WS.det rfl rfl rfl ((by first | exact det_fieldAddr rfl fo23_1 | exact det_fieldAddrS rfl fo23_1)) rfl ?_ -- r10.1 ref.go:269
      refine WS.det rfl rfl rfl ((by first | exact det_loadb (j := 3) rfl rfl rfl tk3 | exact det_loadw rfl (by assumption) rfl tk3)) rfl ?_ -- r10.2 ref.go:269
      refine WS.det rfl rfl rfl (det_lt rfl rfl) rfl ?_ -- r10.3 ref.go:269
      refine WS.done ?_
      refine QS.then_code ?_
      refine CS.cond rfl (fun hc3 => ?_) (fun hc3 => ?_) <;> (try simp only [decide_eq_true_eq, decide_eq_false_iff_not, Bool.and_eq_true, Bool.or_eq_true, Bool.and_eq_false_iff, Bool.or_eq_false_iff, Bool.not_eq_true', Bool.not_eq_false', ne_eq, Decidable.not_not, Bool.not_true, Bool.not_false, bne_iff_ne, bne_eq_false_iff_eq, beq_iff_eq, beq_eq_false_iff_ne] at hc3)
      · skip
        refine CS.skip ?_
        refine QS.then_code ?_
        refine CS.seq ?_
        refine CS.block ?_
        refine CS.seq ?_
        refine CS.region ?_
        refine WS.det rfl rfl rfl (det_assign rfl) rfl ?_ -- r12.0 ref.go:270
        refine WS.done ?_
        refine QS.then_code ?_
        refine CS.seq ?_
        refine CS.seq ?_
        refine CS.region ?_
        refine WS.det rfl rfl rfl (det_assign rfl) rfl ?_ -- r13.0 ref.go:271
        refine WS.done ?_
        refine QS.then_code ?_
        refine CS.block ?_
        refine CS.loopM (σ := Bool × Int) [37, 38, 39, 40, 41, 42, 43, 44, 45, 46, 47, 48, 49, 50, 51, 52, 53, 54] (fun s => [(11, .bool s.1), (12, .int .i64 s.2)]) (fun _ => _) (fun s => 0 ≤ s.2 ∧ s.2 ≤ (readL lw ls cs).length ∧ s.1 = ((readL lw ls cs).take s.2.toNat).any (fun y => decide (nth y r.1 = q.1))) (fun s => ((readL lw ls cs).length - s.2).toNat) (false, 0) (fun _ _ => rfl) rfl rfl ⟨by simp, by simp, by simp⟩ ?_
        intro z t hs
        obtain ⟨hz1, hz2, hz3⟩ := hs
        have hbl := readL_le hL cs
        refine CS.seq ?_
        refine CS.seq ?_
        refine CS.region ?_
        refine WS.det rfl rfl rfl (det_move rfl) rfl ?_ -- r14.0 ref.go:271
        refine WS.det rfl rfl rfl (det_move rfl) rfl ?_ -- r14.1 ref.go:271
        refine WS.det rfl rfl rfl ((by first | exact det_lenS sl51 rfl (by assumption) | exact det_lenS sl51 rfl (by first | exact SlL.sp (by assumption) | exact ClS.sp (by assumption)) | exact det_lenO sl51 rfl | exact det_lenV sl51 rfl ⟨_, _, rfl⟩)) rfl ?_ -- r14.2 ref.go:271
        refine WS.det rfl rfl rfl (det_lt rfl rfl) rfl ?_ -- r14.3 ref.go:271
        refine WS.done ?_
        refine QS.then_code ?_
        refine CS.cond rfl (fun hc4 => ?_) (fun hc4 => ?_) <;> (try simp only [decide_eq_true_eq, decide_eq_false_iff_not, Bool.and_eq_true, Bool.or_eq_true, Bool.and_eq_false_iff, Bool.or_eq_false_iff, Bool.not_eq_true', Bool.not_eq_false', ne_eq, Decidable.not_not, Bool.not_true, Bool.not_false, bne_iff_ne, bne_eq_false_iff_eq, beq_iff_eq, beq_eq_false_iff_ne] at hc4)
        · skip
          have hel := hva.el z.2 hz1 (by omega)
          have hcl := (code_of (readL_nth hL hz1 (show z.2 < (readL lw ls cs).length by omega))).1
          refine CS.skip ?_
          refine QS.then_code ?_
          refine CS.seq ?_
          refine CS.block ?_
          refine CS.region ?_
          refine WS.det rfl rfl rfl (det_move rfl) rfl ?_ -- r16.0 ref.go:272
          refine WS.det rfl rfl rfl (det_move rfl) rfl ?_ -- r16.1 ref.go:272
          refine WS.guardF rfl rfl rfl rfl (fun hg => det_move rfl) rfl ?_ -- r16.2 ref.go:272
          refine WS.guardF rfl rfl rfl rfl (fun hg => det_move rfl) rfl ?_ -- r16.3 ref.go:272
          refine WS.guardF rfl rfl rfl rfl (fun hg => (by first | exact det_idxL sl51 (ev_cond hg rfl) (ev_cond hg rfl) (by assumption) (by (try simp only [decide_eq_true_eq, decide_eq_false_iff_not, Bool.and_eq_true, Bool.or_eq_true, Bool.and_eq_false_iff, Bool.or_eq_false_iff, Bool.not_eq_true', Bool.not_eq_false', ne_eq, Decidable.not_not, Bool.not_true, Bool.not_false, bne_iff_ne, bne_eq_false_iff_eq, beq_iff_eq, beq_eq_false_iff_ne] at hg); omega) (by (try simp only [decide_eq_true_eq, decide_eq_false_iff_not, Bool.and_eq_true, Bool.or_eq_true, Bool.and_eq_false_iff, Bool.or_eq_false_iff, Bool.not_eq_true', Bool.not_eq_false', ne_eq, Decidable.not_not, Bool.not_true, Bool.not_false, bne_iff_ne, bne_eq_false_iff_eq, beq_iff_eq, beq_eq_false_iff_ne] at hg); omega) | exact det_idxO sl51 (ev_cond hg rfl) (ev_cond hg rfl) (by (try simp only [decide_eq_true_eq, decide_eq_false_iff_not, Bool.and_eq_true, Bool.or_eq_true, Bool.and_eq_false_iff, Bool.or_eq_false_iff, Bool.not_eq_true', Bool.not_eq_false', ne_eq, Decidable.not_not, Bool.not_true, Bool.not_false, bne_iff_ne, bne_eq_false_iff_eq, beq_iff_eq, beq_eq_false_iff_ne] at hg); omega) (by (try simp only [decide_eq_true_eq, decide_eq_false_iff_not, Bool.and_eq_true, Bool.or_eq_true, Bool.and_eq_false_iff, Bool.or_eq_false_iff, Bool.not_eq_true', Bool.not_eq_false', ne_eq, Decidable.not_not, Bool.not_true, Bool.not_false, bne_iff_ne, bne_eq_false_iff_eq, beq_iff_eq, beq_eq_false_iff_ne] at hg); omega))) rfl ?_ -- r16.4 ref.go:272
          refine WS.guardF rfl rfl rfl rfl (fun hg => (by first | exact det_ldL (ev_cond hg rfl) (by assumption) (by (try simp only [decide_eq_true_eq, decide_eq_false_iff_not, Bool.and_eq_true, Bool.or_eq_true, Bool.and_eq_false_iff, Bool.or_eq_false_iff, Bool.not_eq_true', Bool.not_eq_false', ne_eq, Decidable.not_not, Bool.not_true, Bool.not_false, bne_iff_ne, bne_eq_false_iff_eq, beq_iff_eq, beq_eq_false_iff_ne] at hg); omega) tk24 | exact det_ldLR (j := 2) (ev_cond hg rfl) rfl (by assumption) (by (try simp only [decide_eq_true_eq, decide_eq_false_iff_not, Bool.and_eq_true, Bool.or_eq_true, Bool.and_eq_false_iff, Bool.or_eq_false_iff, Bool.not_eq_true', Bool.not_eq_false', ne_eq, Decidable.not_not, Bool.not_true, Bool.not_false, bne_iff_ne, bne_eq_false_iff_eq, beq_iff_eq, beq_eq_false_iff_ne] at hg); omega) tk24 | exact det_loadb (j := 0) (ev_cond hg rfl) rfl rfl tk24 | exact det_loadb (j := 1) (ev_cond hg rfl) rfl rfl tk24 | exact det_loadb (j := 2) (ev_cond hg rfl) rfl rfl tk24 | exact det_loadb (j := 3) (ev_cond hg rfl) rfl rfl tk24 | exact det_loadw (ev_cond hg rfl) (by assumption) rfl tk24)) rfl ?_ -- r16.5 ref.go:272
          refine WS.guardF rfl rfl rfl rfl (fun hg => det_move rfl) rfl ?_ -- r16.6 ref.go:272
          refine WS.guardF rfl rfl rfl rfl (fun hg => (by first | exact det_idxI sl24 (ev_cond hg rfl) (ev_cond hg rfl) (by assumption) (by (try simp only [decide_eq_true_eq, decide_eq_false_iff_not, Bool.and_eq_true, Bool.or_eq_true, Bool.and_eq_false_iff, Bool.or_eq_false_iff, Bool.not_eq_true', Bool.not_eq_false', ne_eq, Decidable.not_not, Bool.not_true, Bool.not_false, bne_iff_ne, bne_eq_false_iff_eq, beq_iff_eq, beq_eq_false_iff_ne] at hg); omega) (by (try simp only [decide_eq_true_eq, decide_eq_false_iff_not, Bool.and_eq_true, Bool.or_eq_true, Bool.and_eq_false_iff, Bool.or_eq_false_iff, Bool.not_eq_true', Bool.not_eq_false', ne_eq, Decidable.not_not, Bool.not_true, Bool.not_false, bne_iff_ne, bne_eq_false_iff_eq, beq_iff_eq, beq_eq_false_iff_ne] at hg); omega) | exact det_idxO sl24 (ev_cond hg rfl) (ev_cond hg rfl) (by (try simp only [decide_eq_true_eq, decide_eq_false_iff_not, Bool.and_eq_true, Bool.or_eq_true, Bool.and_eq_false_iff, Bool.or_eq_false_iff, Bool.not_eq_true', Bool.not_eq_false', ne_eq, Decidable.not_not, Bool.not_true, Bool.not_false, bne_iff_ne, bne_eq_false_iff_eq, beq_iff_eq, beq_eq_false_iff_ne] at hg); omega) (by (try simp only [decide_eq_true_eq, decide_eq_false_iff_not, Bool.and_eq_true, Bool.or_eq_true, Bool.and_eq_false_iff, Bool.or_eq_false_iff, Bool.not_eq_true', Bool.not_eq_false', ne_eq, Decidable.not_not, Bool.not_true, Bool.not_false, bne_iff_ne, bne_eq_false_iff_eq, beq_iff_eq, beq_eq_false_iff_ne] at hg); omega))) rfl ?_ -- r16.7 ref.go:272
          refine WS.guardF rfl rfl rfl rfl (fun hg => (by first | exact det_ldI (ev_cond hg rfl) (by assumption) (by (try simp only [decide_eq_true_eq, decide_eq_false_iff_not, Bool.and_eq_true, Bool.or_eq_true, Bool.and_eq_false_iff, Bool.or_eq_false_iff, Bool.not_eq_true', Bool.not_eq_false', ne_eq, Decidable.not_not, Bool.not_true, Bool.not_false, bne_iff_ne, bne_eq_false_iff_eq, beq_iff_eq, beq_eq_false_iff_ne] at hg); omega) tk3 | exact det_loadb (j := 0) (ev_cond hg rfl) rfl rfl tk3 | exact det_loadb (j := 1) (ev_cond hg rfl) rfl rfl tk3 | exact det_loadb (j := 2) (ev_cond hg rfl) rfl rfl tk3 | exact det_loadb (j := 3) (ev_cond hg rfl) rfl rfl tk3 | exact det_loadw (ev_cond hg rfl) (by assumption) rfl tk3 | exact det_ldLI (j := 2) (ev_cond hg rfl) rfl (by (try simp only [decide_eq_true_eq, decide_eq_false_iff_not, Bool.and_eq_true, Bool.or_eq_true, Bool.and_eq_false_iff, Bool.or_eq_false_iff, Bool.not_eq_true', Bool.not_eq_false', ne_eq, Decidable.not_not, Bool.not_true, Bool.not_false, bne_iff_ne, bne_eq_false_iff_eq, beq_iff_eq, beq_eq_false_iff_ne] at hg); omega) (by (try simp only [decide_eq_true_eq, decide_eq_false_iff_not, Bool.and_eq_true, Bool.or_eq_true, Bool.and_eq_false_iff, Bool.or_eq_false_iff, Bool.not_eq_true', Bool.not_eq_false', ne_eq, Decidable.not_not, Bool.not_true, Bool.not_false, bne_iff_ne, bne_eq_false_iff_eq, beq_iff_eq, beq_eq_false_iff_ne] at hg); omega) tk3 | exact det_ldIR (j := 2) (ev_cond hg rfl) rfl (by (try simp only [decide_eq_true_eq, decide_eq_false_iff_not, Bool.and_eq_true, Bool.or_eq_true, Bool.and_eq_false_iff, Bool.or_eq_false_iff, Bool.not_eq_true', Bool.not_eq_false', ne_eq, Decidable.not_not, Bool.not_true, Bool.not_false, bne_iff_ne, bne_eq_false_iff_eq, beq_iff_eq, beq_eq_false_iff_ne] at hg); omega) tk3)) rfl ?_ -- r16.8 ref.go:272
          refine WS.guardF rfl rfl rfl rfl (fun hg => det_move rfl) rfl ?_ -- r16.9 ref.go:272
          refine WS.guardF rfl rfl rfl rfl (fun hg => det_eq (ev_cond hg rfl) (ev_cond hg rfl)) rfl ?_ -- r16.10 ref.go:272
          refine WS.det rfl rfl rfl (det_pick_or rfl rfl rfl) rfl ?_ -- r16.11 ref.go:272
          refine WS.det rfl rfl rfl (det_assign rfl) rfl ?_ -- r16.12 ref.go:272
          refine WS.done ?_
          refine QS.block_normal ?_
          refine QS.then_code ?_
          refine CS.region ?_
          refine WS.det rfl rfl rfl (det_move rfl) rfl ?_ -- r15.0 ref.go:271
          refine WS.det rfl rfl rfl (det_add rfl rfl (by omega)) rfl ?_ -- r15.1 ref.go:271
          refine WS.det rfl rfl rfl (det_assign rfl) rfl ?_ -- r15.2 ref.go:271
          refine WS.done ?_
          exact QS.head ((z.1 || decide (nth (nth (readL lw ls cs) z.2) r.1 = q.1), z.2 + 1)) rfl rfl ⟨⟨by simp; omega, by simp; omega, by simp only; rw [take_snocI _ hz1 (by omega), List.any_append, ← hz3]; simp⟩, by simp; omega⟩
        · skip
          refine CS.leave ?_
          refine QS.then_exit ?_
          refine QS.then_exit ?_
          refine QS.block_exit ?_
          refine QS.then_code ?_
          refine CS.seq ?_
          refine CS.region ?_
          refine WS.det rfl rfl rfl (det_move rfl) rfl ?_ -- r17.0 ref.go:274
          refine WS.done ?_
          refine QS.then_code ?_
          refine CS.cond rfl (fun hc5 => ?_) (fun hc5 => ?_) <;> (try simp only [decide_eq_true_eq, decide_eq_false_iff_not, Bool.and_eq_true, Bool.or_eq_true, Bool.and_eq_false_iff, Bool.or_eq_false_iff, Bool.not_eq_true', Bool.not_eq_false', ne_eq, Decidable.not_not, Bool.not_true, Bool.not_false, bne_iff_ne, bne_eq_false_iff_eq, beq_iff_eq, beq_eq_false_iff_ne] at hc5)
          · skip
            have hfl : flag lw (readL lw ls cs) r.1.toNat q.1.toNat = true := by
              rw [flag_any hr1 (by omega) hq1, ← take_all (readL lw ls cs) (i := z.2) (by omega), ← hz3]; exact hc5
            refine CS.region ?_
            refine WS.det rfl rfl rfl (det_move rfl) rfl ?_ -- r18.0 ref.go:275
            refine WS.det rfl rfl rfl (det_move rfl) rfl ?_ -- r18.1 ref.go:275
            refine WS.det rfl rfl rfl (det_move rfl) rfl ?_ -- r18.2 ref.go:275
            refine WS.det rfl rfl rfl (det_move rfl) rfl ?_ -- r18.3 ref.go:275
            refine WS.det rfl rfl rfl (det_idxO (j := 0) sl51 rfl rfl rfl (by omega) (by omega)) rfl ?_ -- r18.4 ref.go:275
            refine WS.det rfl rfl rfl (det_ldO (j := 0) rfl rfl (by rw [Nat.mul_one, List.getElem?_map, hp]; rfl) tk24) rfl ?_ -- r18.5 ref.go:275
            refine WS.det rfl rfl rfl (det_move rfl) rfl ?_ -- r18.6 ref.go:275
            refine WS.buildI1 sl24 zv3 rfl (fun _ => rfl) ?_; intro v63 -- r18.7 ref.go:275
            refine WS.appendAt (j := 2) (p := (ga2, rowTo lw (readL lw ls cs) r.1.toNat q.1.toNat)) (i := r.1.toNat) sl24 zv3 rfl rfl hp rfl (fun u hu => oints_SlI hu (j := 0) rfl) (by simp only [List.length_singleton]; omega) (by simp only [List.length_singleton]; omega) (fun _ => rfl) (fun _ => rfl) ?_; intro v64 hv64 -- r18.8 ref.go:275
            refine WS.det rfl rfl rfl (det_idxO (j := 1) sl51 rfl rfl rfl (by omega) (by omega)) rfl ?_ -- r18.9 ref.go:275
            refine WS.storeO (j := 1) rfl rfl (by rw [Nat.mul_one, List.length_map]; omega) rfl hv64 tk24 rfl ?_ -- r18.10 ref.go:275
            refine WS.done ?_
            refine QS.block_normal ?_
            refine QS.then_code ?_
            refine CS.region ?_
            refine WS.det rfl rfl rfl (det_move rfl) rfl ?_ -- r11.0 ref.go:269
            refine WS.det rfl rfl rfl (det_add rfl rfl (by omega)) rfl ?_ -- r11.1 ref.go:269
            refine WS.det rfl rfl rfl (det_assign rfl) rfl ?_ -- r11.2 ref.go:269
            refine WS.done ?_
            refine QS.sel [1, 1, 1, 1] rfl ?_
            exact QS.head ((q.1 + 1, q.2.set r.1.toNat (v64, rowTo lw (readL lw ls cs) r.1.toNat q.1.toNat ++ [q.1]))) rfl (by simp only [map_fst_set, Nat.mul_one, List.length_set]) ⟨⟨by simp; omega, by simp; omega, by simp only; rw [map_snd_set hq3, ← rowTo_yes hq1 hfl, rowsTo_set hri]⟩, by simp; omega⟩
          · skip
            have hfl : flag lw (readL lw ls cs) r.1.toNat q.1.toNat = false := by
              rw [flag_any hr1 (by omega) hq1, ← take_all (readL lw ls cs) (i := z.2) (by omega), ← hz3]; exact hc5
            refine CS.skip ?_
            refine QS.block_normal ?_
            refine QS.then_code ?_
            refine CS.region ?_
            refine WS.det rfl rfl rfl (det_move rfl) rfl ?_ -- r11.0 ref.go:269
            refine WS.det rfl rfl rfl (det_add rfl rfl (by omega)) rfl ?_ -- r11.1 ref.go:269
            refine WS.det rfl rfl rfl (det_assign rfl) rfl ?_ -- r11.2 ref.go:269
            refine WS.done ?_
            exact QS.head ((q.1 + 1, q.2)) rfl (by simp only [map_fst_set, Nat.mul_one, List.length_set]) ⟨⟨by simp; omega, by simp; omega, by simp only; rw [hq3, rowsTo_same (rowTo_no hq1 hfl)]⟩, by simp; omega⟩
      · skip
        refine CS.leave ?_
        refine QS.then_exit ?_
        refine QS.then_exit ?_
        refine QS.block_exit ?_
        refine QS.block_normal ?_
        refine QS.then_code ?_
        refine CS.region ?_
        refine WS.det rfl rfl rfl (det_move rfl) rfl ?_ -- r8.0 ref.go:268
        refine WS.det rfl rfl rfl (det_add rfl rfl (by omega)) rfl ?_ -- r8.1 ref.go:268
        refine WS.det rfl rfl rfl (det_assign rfl) rfl ?_ -- r8.2 ref.go:268
        refine WS.done ?_
        exact QS.head ((r.1 + 1, q.2)) rfl rfl ⟨⟨by simp; omega, by simp; omega, by simp only; rw [hq3, show q.1.toNat = ls.toNat by omega, rowsTo_next, show (r.1 + 1).toNat = r.1.toNat + 1 by omega]⟩, by simp; omega⟩
    · skip
      refine CS.leave ?_
      refine QS.then_exit ?_
      refine QS.then_exit ?_
      refine QS.block_exit ?_
      refine QS.then_code ?_
      refine CS.seq ?_
      refine CS.region ?_
      refine WS.det rfl rfl rfl (det_move rfl) rfl ?_ -- r19.0 ref.go:279
      refine WS.det rfl rfl rfl (det_assign rfl) rfl ?_ -- r19.1 ref.go:279
      refine WS.det rfl rfl rfl (det_assign rfl) rfl ?_ -- r19.2 ref.go:279
      refine WS.done ?_
      refine QS.then_code ?_
      refine CS.ret ?_
      exact out2 rfl rfl rfl (retLe (f := fun z => .tuple #[z, .int .i64 (cluesE lw ls cs)]) (by rw [hr3, show r.1.toNat = lw.toNat by omega, if_pos hc1]; rfl) (by rw [hc1])) -- ret 2

end Go.Proofs.Ytldagbcceefcdaa
