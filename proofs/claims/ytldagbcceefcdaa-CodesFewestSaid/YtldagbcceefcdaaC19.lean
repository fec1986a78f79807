/- Contracts of functions, printed by a program of the prover (gen.py). -/
import Derived.Test.YtldagbcceefcdaaC18
namespace Go.Proofs.Ytldagbcceefcdaa
open Go.RowKit Go.Proofs
set_option maxRecDepth 100000
set_option linter.unusedVariables false
set_option linter.unusedSimpArgs false

set_option maxHeartbeats 2000000 in
theorem Choose_c (lw ls : Int) (cs : List Clue) (gs : List Value) (cv : Value) (xs : List Int) (xv : Value) (w : World) (hk : ClS w cv cs gs) (h2 : SlI w xv xs) :
    Calls Try.prog 51 #[.agg #[.int .i64 lw, .int .i64 ls], cv, xv] w (fun e w' => ∃ x : Value, (∃ u0, SlI u0 x (if chE lw ls cs xs = 0 then ((chooseX lw ls cs xs).getD []).map Int.ofNat else [])) ∧ RetF w (.tuple #[x, .int .i64 (chE lw ls cs xs)]) (roI x (if chE lw ls cs xs = 0 then ((chooseX lw ls cs xs).getD []).map Int.ofNat else [])) e w') := by
  obtain ⟨hkl, pp, cap, hpv, hkr⟩ := hk.sp
  subst hpv
  replace hk : ClS w (.slice pp cs.length cap) cs gs := ⟨⟨hkl, _, _, rfl, hkr⟩, hk.len, hk.el⟩
  clear hkl hkr
  have hkl := hk.le
  have hcs := hk.sp
  have hgl := hk.len
  refine enterM St.nil Try.func51 rfl rfl (Nat.le_of_ble_eq_true rfl) ?_
  refine CS.seq ?_
  refine CS.region ?_
  refine WS.box rfl rfl (fun _ => rfl) ?_; intro b3 hb3 -- r0.0 codes.go:376
  refine WS.box rfl rfl (fun _ => rfl) ?_; intro b4 hb4 -- r0.1 codes.go:376
  refine WS.det rfl rfl rfl (det_assign rfl) rfl ?_ -- r0.2 codes.go:376
  refine WS.det rfl rfl rfl (det_assign rfl) rfl ?_ -- r0.3 codes.go:376
  refine WS.done ?_
  refine QS.then_code ?_
  refine CS.seq ?_
  refine CS.seq ?_
  refine CS.region ?_
  refine WS.det rfl rfl rfl ((by first | exact det_loadb0 (j := 1) rfl rfl tk23 | exact det_loadbN (j := 1) rfl rfl (by rfl) tk23 | exact det_loadwN rfl (by assumption) (by rfl) tk23 | exact det_loadbK (n := 2) (j := 1) rfl rfl rfl rfl tk23)) rfl ?_ -- r1.0 codes.go:377
  refine WS.det rfl rfl rfl (det_callB rfl rfl ent23 (fun u hu => Check_c _ _ u)) rfl ?_ -- r1.1 codes.go:377
  refine WS.det rfl rfl rfl (det_assign rfl) rfl ?_ -- r1.2 codes.go:377
  refine WS.done ?_
  refine QS.then_code ?_
  refine CS.seq ?_
  refine CS.region ?_
  refine WS.det rfl rfl rfl (det_move rfl) rfl ?_ -- r2.0 codes.go:377
  refine WS.det rfl rfl rfl (det_ne rfl rfl) rfl ?_ -- r2.1 codes.go:377
  refine WS.done ?_
  refine QS.then_code ?_
  refine CS.cond rfl (fun hc1 => ?_) (fun hc1 => ?_) <;> (try simp only [decide_eq_true_eq, decide_eq_false_iff_not, Bool.and_eq_true, Bool.or_eq_true, Bool.and_eq_false_iff, Bool.or_eq_false_iff, Bool.not_eq_true', Bool.not_eq_false', ne_eq, Decidable.not_not, Bool.not_true, Bool.not_false, bne_iff_ne, bne_eq_false_iff_eq, beq_iff_eq, beq_eq_false_iff_ne] at hc1)
  · skip
    refine CS.seq ?_
    refine CS.region ?_
    refine WS.det rfl rfl rfl (det_move rfl) rfl ?_ -- r3.0 codes.go:378
    refine WS.det rfl rfl rfl (det_assign rfl) rfl ?_ -- r3.1 codes.go:378
    refine WS.det rfl rfl rfl (det_assign rfl) rfl ?_ -- r3.2 codes.go:378
    refine WS.done ?_
    refine QS.then_code ?_
    refine CS.ret ?_
    refine QS.then_ret ?_
    exact outE (Or.inl rfl) (res2 rfl rfl rfl) (retIn (by simp [chE, hc1]) (by simp [chE, hc1])) -- ret 1
  · skip
    have hL : lockB lw ls = true := by
      cases h : lockB lw ls with
      | true => rfl
      | false => simp [lockE, h] at hc1
    have hmc := manyC_le hL
    have hal := allC_len lw ls
    refine CS.skip ?_
    refine QS.then_code ?_
    refine CS.seq ?_
    refine CS.seq ?_
    refine CS.region ?_
    refine WS.det rfl rfl rfl ((by first | exact det_loadb (j := 0) rfl rfl rfl tk31 | exact det_loadw rfl (by assumption) rfl tk31)) rfl ?_ -- r4.0 codes.go:380
    refine WS.det rfl rfl rfl ((by first | exact det_lenS sl31 rfl (by assumption) | exact det_lenS sl31 rfl (by first | exact SlL.sp (by assumption) | exact ClS.sp (by assumption)) | exact det_lenO sl31 rfl | exact det_lenV sl31 rfl ⟨_, _, rfl⟩)) rfl ?_ -- r4.1 codes.go:380
    refine WS.det rfl rfl rfl (det_gt rfl rfl) rfl ?_ -- r4.2 codes.go:380
    refine WS.done ?_
    refine QS.then_code ?_
    refine CS.cond rfl (fun hc2 => ?_) (fun hc2 => ?_) <;> (try simp only [decide_eq_true_eq, decide_eq_false_iff_not, Bool.and_eq_true, Bool.or_eq_true, Bool.and_eq_false_iff, Bool.or_eq_false_iff, Bool.not_eq_true', Bool.not_eq_false', ne_eq, Decidable.not_not, Bool.not_true, Bool.not_false, bne_iff_ne, bne_eq_false_iff_eq, beq_iff_eq, beq_eq_false_iff_ne] at hc2)
    · skip
      refine CS.seq ?_
      refine CS.region ?_
      refine WS.det rfl rfl rfl (det_assign rfl) rfl ?_ -- r5.0 codes.go:381
      refine WS.det rfl rfl rfl (det_assign rfl) rfl ?_ -- r5.1 codes.go:381
      refine WS.done ?_
      refine QS.then_code ?_
      refine CS.ret ?_
      refine QS.then_ret ?_
      exact outE (Or.inl rfl) (res2 rfl rfl rfl) (retIn (by simp [chE, hc1, show 12 < cs.length by omega]) (by simp [chE, hc1, show 12 < cs.length by omega])) -- ret 2
    · skip
      refine CS.skip ?_
      refine QS.then_code ?_
      refine CS.seq ?_
      refine CS.seq ?_
      refine CS.region ?_
      refine WS.det rfl rfl rfl ((by first | exact det_loadb0 (j := 1) rfl rfl tk23 | exact det_loadbN (j := 1) rfl rfl (by rfl) tk23 | exact det_loadwN rfl (by assumption) (by rfl) tk23 | exact det_loadbK (n := 2) (j := 1) rfl rfl rfl rfl tk23)) rfl ?_ -- r6.0 codes.go:383
      refine WS.det rfl rfl rfl ((by first | exact det_loadb (j := 0) rfl rfl rfl tk31 | exact det_loadw rfl (by assumption) rfl tk31)) rfl ?_ -- r6.1 codes.go:383
      refine WS.det rfl rfl rfl (det_callB rfl rfl ent57 (fun u hu => checkClues_c _ _ _ _ _ u (hk.st hu))) rfl ?_ -- r6.2 codes.go:383
      refine WS.det rfl rfl rfl (det_assign rfl) rfl ?_ -- r6.3 codes.go:383
      refine WS.done ?_
      refine QS.then_code ?_
      refine CS.seq ?_
      refine CS.region ?_
      refine WS.det rfl rfl rfl (det_move rfl) rfl ?_ -- r7.0 codes.go:383
      refine WS.det rfl rfl rfl (det_ne rfl rfl) rfl ?_ -- r7.1 codes.go:383
      refine WS.done ?_
      refine QS.then_code ?_
      refine CS.cond rfl (fun hc3 => ?_) (fun hc3 => ?_) <;> (try simp only [decide_eq_true_eq, decide_eq_false_iff_not, Bool.and_eq_true, Bool.or_eq_true, Bool.and_eq_false_iff, Bool.or_eq_false_iff, Bool.not_eq_true', Bool.not_eq_false', ne_eq, Decidable.not_not, Bool.not_true, Bool.not_false, bne_iff_ne, bne_eq_false_iff_eq, beq_iff_eq, beq_eq_false_iff_ne] at hc3)
      · skip
        refine CS.seq ?_
        refine CS.region ?_
        refine WS.det rfl rfl rfl (det_move rfl) rfl ?_ -- r8.0 codes.go:384
        refine WS.det rfl rfl rfl (det_assign rfl) rfl ?_ -- r8.1 codes.go:384
        refine WS.det rfl rfl rfl (det_assign rfl) rfl ?_ -- r8.2 codes.go:384
        refine WS.done ?_
        refine QS.then_code ?_
        refine CS.ret ?_
        refine QS.then_ret ?_
        exact outE (Or.inl rfl) (res2 rfl rfl rfl) (retIn (by simp [chE, hc1, show ¬ 12 < cs.length by omega, hc3]) (by simp [chE, hc1, show ¬ 12 < cs.length by omega, hc3])) -- ret 3
      · skip
        have hC := cluesE_clue hc3
        refine CS.skip ?_
        refine QS.then_code ?_
        refine CS.seq ?_
        refine CS.seq ?_
        refine CS.region ?_
        refine WS.det rfl rfl rfl ((by first | exact det_loadb0 (j := 1) rfl rfl tk23 | exact det_loadbN (j := 1) rfl rfl (by rfl) tk23 | exact det_loadwN rfl (by assumption) (by rfl) tk23 | exact det_loadbK (n := 2) (j := 1) rfl rfl rfl rfl tk23)) rfl ?_ -- r9.0 codes.go:386
        refine WS.det rfl rfl rfl (det_move rfl) rfl ?_ -- r9.1 codes.go:386
        refine WS.det rfl rfl rfl (det_callB rfl rfl ent27 (fun u hu => CheckCode_c _ _ _ _ u (h2.st hu))) rfl ?_ -- r9.2 codes.go:386
        refine WS.det rfl rfl rfl (det_assign rfl) rfl ?_ -- r9.3 codes.go:386
        refine WS.done ?_
        refine QS.then_code ?_
        refine CS.seq ?_
        refine CS.region ?_
        refine WS.det rfl rfl rfl (det_move rfl) rfl ?_ -- r10.0 codes.go:386
        refine WS.det rfl rfl rfl (det_ne rfl rfl) rfl ?_ -- r10.1 codes.go:386
        refine WS.done ?_
        refine QS.then_code ?_
        refine CS.cond rfl (fun hc4 => ?_) (fun hc4 => ?_) <;> (try simp only [decide_eq_true_eq, decide_eq_false_iff_not, Bool.and_eq_true, Bool.or_eq_true, Bool.and_eq_false_iff, Bool.or_eq_false_iff, Bool.not_eq_true', Bool.not_eq_false', ne_eq, Decidable.not_not, Bool.not_true, Bool.not_false, bne_iff_ne, bne_eq_false_iff_eq, beq_iff_eq, beq_eq_false_iff_ne] at hc4)
        · skip
          refine CS.seq ?_
          refine CS.region ?_
          refine WS.det rfl rfl rfl (det_move rfl) rfl ?_ -- r11.0 codes.go:387
          refine WS.det rfl rfl rfl (det_assign rfl) rfl ?_ -- r11.1 codes.go:387
          refine WS.det rfl rfl rfl (det_assign rfl) rfl ?_ -- r11.2 codes.go:387
          refine WS.done ?_
          refine QS.then_code ?_
          refine CS.ret ?_
          refine QS.then_ret ?_
          exact outE (Or.inl rfl) (res2 rfl rfl rfl) (retIn (by simp [chE, hc1, show ¬ 12 < cs.length by omega, hc3, hc4]) (by simp [chE, hc1, show ¬ 12 < cs.length by omega, hc3, hc4])) -- ret 4
        · skip
          have hU := use_all hc3 hc4
          have hche : chE lw ls cs xs = if (chooseX lw ls cs xs).isNone then 3 else 0 := by
            have h12 : ¬ 12 < cs.length := by omega
            simp only [chE, hc1, h12, hc3, hc4, not_true_eq_false, if_false]
          refine CS.skip ?_
          refine QS.then_code ?_
          refine CS.seq ?_
          refine CS.region ?_
          refine WS.det rfl rfl rfl ((by first | exact det_loadb (j := 0) rfl rfl rfl tk31 | exact det_loadw rfl (by assumption) rfl tk31)) rfl ?_ -- r12.0 codes.go:389
          refine WS.det rfl rfl rfl ((by first | exact det_lenS sl31 rfl (by assumption) | exact det_lenS sl31 rfl (by first | exact SlL.sp (by assumption) | exact ClS.sp (by assumption)) | exact det_lenO sl31 rfl | exact det_lenV sl31 rfl ⟨_, _, rfl⟩)) rfl ?_ -- r12.1 codes.go:389
          refine WS.makeListsL (f := Value.bool) (e := 4) sl98 rfl rfl zv102 (by omega) (by omega) (by omega) (fun _ => rfl) ?_; intro v42 hv42 -- r12.2 codes.go:389
          refine WS.det rfl rfl rfl ((det_build1 plc100 zv100 rfl rfl (by intro p hp; simp at hp; subst hp; exact hv42))) rfl ?_ -- r12.3 codes.go:389
          refine WS.box rfl rfl (fun _ => rfl) ?_; intro b44 hb44 -- r12.4 codes.go:389
          refine WS.alloc zv97 (fun _ => rfl) ?_; intro b11 hb11 -- r12.5 codes.go:389
          first | refine WS.store (j := 0) rfl rfl (by first | decide | omega | (simp; done) | (simp; omega)) rfl (by first | rfl | assumption) tk97 rfl rfl ?_ | refine WS.store (j := 0) rfl rfl (by first | decide | omega | (simp; done) | (simp; omega)) rfl (by first | rfl | assumption) tk97 (lset_eq _ _ _) rfl ?_ -- r12.6 codes.go:389
          refine WS.done ?_
          refine QS.then_code ?_
          refine CS.seq ?_
          refine CS.seq ?_
          refine CS.region ?_
          refine WS.det rfl rfl rfl ((by first | exact det_loadb0 (j := 5) rfl rfl tk23 | exact det_loadbN (j := 5) rfl rfl (by rfl) tk23 | exact det_loadwN rfl (by assumption) (by rfl) tk23 | exact det_loadbK (n := 2) (j := 5) rfl rfl rfl rfl tk23)) rfl ?_ -- r13.0 codes.go:390
          refine WS.callF rfl rfl ent77 (fun u hu => codes_c _ _ u) (fun _ => rfl) ?_; intro bc _ -- r13.1 codes.go:390
          refine WS.done ?_
          refine QS.then_code ?_
          refine CS.block ?_
          refine CS.weak (L' := [exS fun ps : List (Value × List Bool) => star [osl 102 1 v42 (ps.map (·.1)).length (ps.map (·.1)), star (lol Value.bool 4 ps), fact (ps.map (·.2) = cs.map fun c => [].map (holdsT c))], blk b44 [v42, .int .i64 0] 100, blk b11 [.pointer (some ⟨b44, 0, none⟩)] 97, blk b4 [.slice pp cs.length cap] 31, blk b3 [.int .i64 lw, .int .i64 ls] 23] ++ [blk bc [.int .i64 lw, .int .i64 ls] 77]) (fun u hu => St.exI (List.replicate cs.length ((Value.slice none 0 0, []) : Value × List Bool)) (St.pack (L1 := [_, _, _]) ((hu.factI (p := (List.replicate cs.length ((Value.slice none 0 0, []) : Value × List Bool)).map (·.2) = cs.map fun c => ([] : List (List Int)).map (holdsT c)) (by simp [List.map_const'])).sel [4, 4, 0, 2, 1, 1, 1, 0] rfl))) ?_
          refine CS.rangeA (A := [blk bc [.int .i64 lw, .int .i64 ls] 77]) rfl ent93 (codesI_c lw ls w bc hL) (fun pre => [exS fun ps : List (Value × List Bool) => star [osl 102 1 v42 (ps.map (·.1)).length (ps.map (·.1)), star (lol Value.bool 4 ps), fact (ps.map (·.2) = cs.map fun c => pre.map (holdsT c))], blk b44 [v42, .int .i64 pre.length] 100, blk b11 [.pointer (some ⟨b44, 0, none⟩)] 97, blk b4 [.slice pp cs.length cap] 31, blk b3 [.int .i64 lw, .int .i64 ls] 23]) (fun kd pre => match kd with | _ => [fact False]) (fun _ => rfl) (Nat.le_of_ble_eq_true rfl) (fun _ => rfl) ?_ ?_ ?_
          · intro lr pre x post v F hall
            have hx : codeB lw ls x = true := allC_mem hL (by rw [hall]; simp)
            have hpn : pre.length < manyC lw ls := by rw [← hal, hall]; simp
            refine CS.sel [1, 0, 0, 0, 0, 0, 0] rfl ?_
            refine CS.ex ?_; intro ps
            refine CS.unpack ?_
            refine CS.factE (j := 2) rfl (fun hq => ?_)
            refine CS.sel [0, 0, 1, 1, 1, 1, 1, 1] rfl ?_
            refine CS.block ?_
            refine CS.seq ?_
            refine CS.seq ?_
            refine CS.region ?_
            refine WS.det rfl rfl rfl ((by first | exact det_loadb (j := 5) rfl rfl rfl tk31 | exact det_loadw rfl (by assumption) rfl tk31)) rfl ?_ -- r15.0 codes.go:391
            refine WS.det rfl rfl rfl ((by first | exact det_lenS sl31 rfl (by assumption) | exact det_lenS sl31 rfl (by first | exact SlL.sp (by assumption) | exact ClS.sp (by assumption)) | exact det_lenO sl31 rfl | exact det_lenV sl31 rfl ⟨_, _, rfl⟩)) rfl ?_ -- r15.1 codes.go:391
            refine WS.det rfl rfl rfl (det_move rfl) rfl ?_ -- r15.2 codes.go:391
            refine WS.done ?_
            refine QS.then_code ?_
            refine CS.block ?_
            refine CS.loopM (σ := Int × List (Value × List Bool)) [13, 14, 51, 52, 53, 54, 55, 56, 57, 58, 59, 60, 61, 62, 63, 64, 65, 66, 67, 68, 69, 70, 71, 72, 73] (fun s => [(50, .int .i64 s.1)]) (fun s => [osl 102 1 v42 (s.2.map (·.1)).length (s.2.map (·.1)), star (lol Value.bool 4 s.2), oints 3 v x, blk b44 [v42, .int .i64 pre.length] 100, blk b11 [.pointer (some ⟨b44, 0, none⟩)] 97, blk b4 [.slice pp cs.length cap] 31, blk b3 [.int .i64 lw, .int .i64 ls] 23, F]) (fun s => 0 ≤ s.1 ∧ s.1 ≤ cs.length ∧ s.2.map (·.2) = flgT cs pre x s.1.toNat) (fun s => (cs.length - s.1).toNat) (0, ps) (fun _ _ => rfl) rfl rfl ⟨by simp, by simp, by simp only; rw [hq]; exact flgT_zero.symm⟩ ?_
            intro q t hs
            obtain ⟨hq1, hq2, hq3⟩ := hs
            refine CS.seq ?_
            refine CS.region ?_
            refine WS.det rfl rfl rfl (det_lt rfl rfl) rfl ?_ -- r16.0 codes.go:391
            refine WS.done ?_
            refine QS.then_code ?_
            refine CS.seq ?_
            refine CS.cond rfl (fun hc5 => ?_) (fun hc5 => ?_) <;> (try simp only [decide_eq_true_eq, decide_eq_false_iff_not, Bool.and_eq_true, Bool.or_eq_true, Bool.and_eq_false_iff, Bool.or_eq_false_iff, Bool.not_eq_true', Bool.not_eq_false', ne_eq, Decidable.not_not, Bool.not_true, Bool.not_false, bne_iff_ne, bne_eq_false_iff_eq, beq_iff_eq, beq_eq_false_iff_ne] at hc5)
            · skip
              have hUx : Use lw ls (nth cs q.1) x := ⟨hL, hC _ (nth_mem hq1 (by omega)), hx⟩
              have hin : q.1.toNat < cs.length := by omega
              have hgi : (nth gs q.1).oneCell' = true := hk.one _ (nth_mem hq1 (by omega))
              obtain ⟨ga2, hp⟩ := snd_at hq3 (flgT_at (pre := pre) (x := x) hin)
              have hpl := snd_len hq3
              have hpl2 : (flgT cs pre x q.1.toNat).length = cs.length := by simp [flgT]
              have hpl3 : (q.2.map (·.1)).length = cs.length := by rw [List.length_map]; omega
              refine CS.skip ?_
              refine QS.then_code ?_
              refine CS.seq ?_
              refine CS.block ?_
              refine CS.seq ?_
              refine CS.region ?_
              refine WS.det rfl rfl rfl (det_move rfl) rfl ?_ -- r17.0 codes.go:391
              refine WS.det rfl rfl rfl (det_idxCl sl31 rfl rfl (by assumption) (by omega) (by omega)) rfl ?_ -- r17.1 codes.go:391
              refine WS.det rfl rfl rfl ((by first | exact det_ldCl rfl (by assumption) (by omega) tk36 | exact det_loadb0 (j := 0) rfl rfl tk36 | exact det_loadb0 (j := 1) rfl rfl tk36 | exact det_loadb0 (j := 2) rfl rfl tk36 | exact det_loadb0 (j := 3) rfl rfl tk36 | exact det_loadb0 (j := 4) rfl rfl tk36 | exact det_loadb0 (j := 5) rfl rfl tk36 | exact det_loadb0 (j := 6) rfl rfl tk36 | exact det_loadb0 (j := 7) rfl rfl tk36 | exact det_loadbN (j := 0) rfl rfl (by rfl) tk36 | exact det_loadbN (j := 1) rfl rfl (by rfl) tk36 | exact det_loadbN (j := 2) rfl rfl (by rfl) tk36 | exact det_loadbN (j := 3) rfl rfl (by rfl) tk36 | exact det_loadbN (j := 4) rfl rfl (by rfl) tk36 | exact det_loadbN (j := 5) rfl rfl (by rfl) tk36 | exact det_loadbN (j := 6) rfl rfl (by rfl) tk36 | exact det_loadbN (j := 7) rfl rfl (by rfl) tk36 | exact det_loadwN rfl (by assumption) (by rfl) tk36 | exact det_loadbK (n := 7) (j := 0) rfl rfl rfl rfl tk36 | exact det_loadbK (n := 7) (j := 1) rfl rfl rfl rfl tk36 | exact det_loadbK (n := 7) (j := 2) rfl rfl rfl rfl tk36 | exact det_loadbK (n := 7) (j := 3) rfl rfl rfl rfl tk36 | exact det_loadbK (n := 7) (j := 4) rfl rfl rfl rfl tk36 | exact det_loadbK (n := 7) (j := 5) rfl rfl rfl rfl tk36 | exact det_loadbK (n := 7) (j := 6) rfl rfl rfl rfl tk36 | exact det_loadbK (n := 7) (j := 7) rfl rfl rfl rfl tk36)) rfl ?_ -- r17.2 codes.go:391
              refine WS.alloc zv36 (fun _ => rfl) ?_; intro b14 hb14 -- r17.3 codes.go:391
              refine WS.det rfl rfl rfl (det_assign rfl) rfl ?_ -- r17.4 codes.go:391
              refine WS.storeW (j := 0) rfl rfl rfl rfl (clCells_one hgi) tk36 rfl rfl ?_ -- r17.5 codes.go:391
              refine WS.done ?_
              refine QS.then_code ?_
              refine CS.drawnTillBut 18 2 (k := 19) mixed rfl rfl rfl ?_
              refine AT.take 0 rfl (by kernel_rfl) (na := 19) (by kernel_rfl) rfl (by kernel_rfl) (by kernel_rfl) (by kernel_rfl) rfl rfl ((by first | exact det_loadb (j := 4) rfl rfl rfl tk97 | exact det_loadw rfl (by assumption) rfl tk97)) rfl rfl ?_ -- r18.0 codes.go:392
              refine AT.take 1 rfl (by kernel_rfl) (na := 19) (by kernel_rfl) rfl (by kernel_rfl) (by kernel_rfl) (by kernel_rfl) rfl rfl (det_nilCheck rfl) rfl rfl ?_ -- r18.1 codes.go:392
              refine AT.take 2 rfl (by kernel_rfl) (na := 19) (by kernel_rfl) rfl (by kernel_rfl) (by kernel_rfl) (by kernel_rfl) rfl rfl ((by first | exact det_fieldAddr rfl fo100_0 | exact det_fieldAddrS rfl fo100_0)) rfl rfl ?_ -- r18.2 codes.go:392
              refine AT.take 3 rfl (by kernel_rfl) (na := 19) (by kernel_rfl) rfl (by kernel_rfl) (by kernel_rfl) (by kernel_rfl) rfl rfl ((by first | exact det_loadb (j := 0) rfl rfl rfl tk98 | exact det_loadb (j := 1) rfl rfl rfl tk98 | exact det_loadb (j := 2) rfl rfl rfl tk98 | exact det_loadb (j := 3) rfl rfl rfl tk98 | exact det_loadb (j := 4) rfl rfl rfl tk98 | exact det_loadb (j := 5) rfl rfl rfl tk98 | exact det_loadb (j := 6) rfl rfl rfl tk98 | exact det_loadb (j := 7) rfl rfl rfl tk98 | exact det_loadw rfl (by assumption) rfl tk98)) rfl rfl ?_ -- r18.3 codes.go:392
              refine AT.take 4 rfl (by kernel_rfl) (na := 19) (by kernel_rfl) rfl (by kernel_rfl) (by kernel_rfl) (by kernel_rfl) rfl rfl (det_move rfl) rfl rfl ?_ -- r18.4 codes.go:392
              refine AT.take 5 rfl (by kernel_rfl) (na := 19) (by kernel_rfl) rfl (by kernel_rfl) (by kernel_rfl) (by kernel_rfl) rfl rfl ((by first | exact det_loadb (j := 4) rfl rfl rfl tk97 | exact det_loadw rfl (by assumption) rfl tk97)) rfl rfl ?_ -- r18.5 codes.go:392
              refine AT.take 6 rfl (by kernel_rfl) (na := 19) (by kernel_rfl) rfl (by kernel_rfl) (by kernel_rfl) (by kernel_rfl) rfl rfl (det_nilCheck rfl) rfl rfl ?_ -- r18.6 codes.go:392
              refine AT.take 7 rfl (by kernel_rfl) (na := 19) (by kernel_rfl) rfl (by kernel_rfl) (by kernel_rfl) (by kernel_rfl) rfl rfl ((by first | exact det_fieldAddr rfl fo100_0 | exact det_fieldAddrS rfl fo100_0)) rfl rfl ?_ -- r18.7 codes.go:392
              refine AT.take 8 rfl (by kernel_rfl) (na := 19) (by kernel_rfl) rfl (by kernel_rfl) (by kernel_rfl) (by kernel_rfl) rfl rfl ((by first | exact det_loadb (j := 0) rfl rfl rfl tk98 | exact det_loadb (j := 1) rfl rfl rfl tk98 | exact det_loadb (j := 2) rfl rfl rfl tk98 | exact det_loadb (j := 3) rfl rfl rfl tk98 | exact det_loadb (j := 4) rfl rfl rfl tk98 | exact det_loadb (j := 5) rfl rfl rfl tk98 | exact det_loadb (j := 6) rfl rfl rfl tk98 | exact det_loadb (j := 7) rfl rfl rfl tk98 | exact det_loadw rfl (by assumption) rfl tk98)) rfl rfl ?_ -- r18.8 codes.go:392
              refine AT.take 9 rfl (by kernel_rfl) (na := 19) (by kernel_rfl) rfl (by kernel_rfl) (by kernel_rfl) (by kernel_rfl) rfl rfl (det_move rfl) rfl rfl ?_ -- r18.9 codes.go:392
              refine AT.take 10 rfl (by kernel_rfl) (na := 19) (by kernel_rfl) rfl (by kernel_rfl) (by kernel_rfl) (by kernel_rfl) rfl rfl (det_idxO (j := 1) sl98 rfl rfl rfl (by omega) (by omega)) rfl rfl ?_ -- r18.10 codes.go:392
              refine AT.take 11 rfl (by kernel_rfl) (na := 19) (by kernel_rfl) rfl (by kernel_rfl) (by kernel_rfl) (by kernel_rfl) rfl rfl (det_ldO (j := 1) rfl rfl (by rw [Nat.mul_one, List.getElem?_map, hp]; rfl) tk102) rfl rfl ?_ -- r18.11 codes.go:392
              refine AT.take 12 rfl (by kernel_rfl) (na := 19) (by kernel_rfl) rfl (by kernel_rfl) (by kernel_rfl) (by kernel_rfl) rfl rfl ((by first | exact det_ldCl rfl (by assumption) (by omega) tk36 | exact det_loadb0 (j := 0) rfl rfl tk36 | exact det_loadbN (j := 0) rfl rfl (by rfl) tk36 | exact det_loadwN rfl (by assumption) (by rfl) tk36 | exact det_loadbK (n := 7) (j := 0) rfl rfl rfl rfl tk36)) rfl rfl ?_ -- r18.12 codes.go:392
              refine AT.take 13 rfl (by kernel_rfl) (na := 19) (by kernel_rfl) rfl (by kernel_rfl) (by kernel_rfl) (by kernel_rfl) rfl rfl (det_move rfl) rfl rfl ?_ -- r18.13 codes.go:392
              refine AT.take 14 rfl (by kernel_rfl) (na := 19) (by kernel_rfl) rfl (by kernel_rfl) (by kernel_rfl) (by kernel_rfl) rfl rfl (det_callB rfl rfl ent65 (fun u hu => holds_c _ _ _ _ _ _ u hUx ((hk.st hu).el q.1 hq1 (by omega)) (oints_SlI hu (j := 2) rfl))) rfl rfl ?_ -- r18.14 codes.go:392
              refine AT.one (i := 15) (by kernel_rfl) rfl (by first | (intro h; exact absurd h (by decide)) | exact fun _ _ h => h | exact fun _ _ h => h.sub (by repeat first | exact List.Sublist.refl _ | apply List.Sublist.cons_cons | apply List.Sublist.cons)) rfl ?_
              refine WS.buildV1 sl102 zv4 rfl (by first | rfl | assumption) (fun _ => rfl) ?_; intro v70 -- r18.15 codes.go:392
              refine WS.done ?_
              refine QS.then_AT ?_
              refine AT.one (i := 16) (by kernel_rfl) rfl (by first | (intro h; exact absurd h (by decide)) | exact fun _ _ h => h | exact fun _ _ h => h.sub (by repeat first | exact List.Sublist.refl _ | apply List.Sublist.cons_cons | apply List.Sublist.cons)) rfl ?_
              refine WS.appendAtL (f := Value.bool) (j := 3) (p := (ga2, pre.map (holdsT (cs.getD q.1.toNat default)))) (a := holdsT (cs.getD q.1.toNat default) x) (i := q.1.toNat) sl102 zv4 rfl rfl hp rfl (fun u hu => osl_SlC hu (j := 0) rfl) rfl (by simp only [List.length_map]; omega) (by simp only [List.length_map]; omega) (fun _ => rfl) (fun _ => rfl) ?_; intro v71 hv71 -- r18.16 codes.go:392
              refine WS.done ?_
              refine QS.then_AT ?_
              refine AT.take 17 rfl (by kernel_rfl) (na := 19) (by kernel_rfl) rfl (by kernel_rfl) (by kernel_rfl) (by kernel_rfl) rfl rfl (det_idxO (j := 1) sl98 rfl rfl rfl (by omega) (by omega)) rfl rfl ?_ -- r18.17 codes.go:392
              refine AT.one (i := 18) (by kernel_rfl) rfl (by first | (intro h; exact absurd h (by decide)) | exact fun _ _ h => h | exact fun _ _ h => h.sub (by repeat first | exact List.Sublist.refl _ | apply List.Sublist.cons_cons | apply List.Sublist.cons)) rfl ?_
              refine WS.storeO (j := 2) rfl rfl (by rw [Nat.mul_one, List.length_map]; omega) rfl hv71 tk102 rfl ?_ -- r18.18 codes.go:392
              refine WS.done ?_
              refine QS.then_AT ?_
              refine AT.done (by kernel_rfl) (by first | (intro h; exact absurd h (by decide)) | exact fun _ _ h => h | exact fun _ _ h => h.sub (by repeat first | exact List.Sublist.refl _ | apply List.Sublist.cons_cons | apply List.Sublist.cons)) ?_
              refine QS.block_normal ?_
              refine QS.then_code ?_
              refine CS.region ?_
              refine WS.det rfl rfl rfl (det_add rfl rfl (by omega)) rfl ?_ -- r19.0 codes.go:391
              refine WS.det rfl rfl rfl (det_move rfl) rfl ?_ -- r19.1 codes.go:391
              refine WS.done ?_
              refine QS.sel [2, 2, 2, 2, 2, 2, 2, 2] rfl ?_
              exact QS.head ((q.1 + 1, q.2.set q.1.toNat (v71, pre.map (holdsT (cs.getD q.1.toNat default)) ++ [holdsT (cs.getD q.1.toNat default) x]))) rfl (by simp only [map_fst_set, Nat.mul_one, List.length_set]) ⟨⟨by simp; omega, by simp; omega, by simp only; rw [map_snd_set hq3, flgT_set hin, show (q.1 + 1).toNat = q.1.toNat + 1 by omega]⟩, by simp; omega⟩
            · skip
              refine CS.leave ?_
              refine QS.then_exit ?_
              refine QS.then_exit ?_
              refine QS.block_exit ?_
              refine QS.then_code ?_
              refine CS.region ?_
              refine WS.det rfl rfl rfl ((by first | exact det_loadb (j := 4) rfl rfl rfl tk97 | exact det_loadw rfl (by assumption) rfl tk97)) rfl ?_ -- r20.0 codes.go:394
              refine WS.det rfl rfl rfl (det_nilCheck rfl) rfl ?_ -- r20.1 codes.go:394
              refine WS.det rfl rfl rfl ((by first | exact det_fieldAddr rfl fo100_1 | exact det_fieldAddrS rfl fo100_1)) rfl ?_ -- r20.2 codes.go:394
              refine WS.det rfl rfl rfl ((by first | exact det_ldI rfl (by assumption) (by omega) tk3 | exact det_loadb (j := 0) rfl rfl rfl tk3 | exact det_loadb (j := 1) rfl rfl rfl tk3 | exact det_loadb (j := 2) rfl rfl rfl tk3 | exact det_loadb (j := 3) rfl rfl rfl tk3 | exact det_loadb (j := 4) rfl rfl rfl tk3 | exact det_loadb (j := 5) rfl rfl rfl tk3 | exact det_loadb (j := 6) rfl rfl rfl tk3 | exact det_loadb (j := 7) rfl rfl rfl tk3 | exact det_loadw rfl (by assumption) rfl tk3)) rfl ?_ -- r20.3 codes.go:394
              refine WS.det rfl rfl rfl (det_add rfl rfl (by omega)) rfl ?_ -- r20.4 codes.go:394
              refine WS.det rfl rfl rfl (det_nilCheck rfl) rfl ?_ -- r20.5 codes.go:394
              refine WS.det rfl rfl rfl ((by first | exact det_fieldAddr rfl fo100_1 | exact det_fieldAddrS rfl fo100_1)) rfl ?_ -- r20.6 codes.go:394
              first | refine WS.store (j := 0) rfl rfl (by first | decide | omega | (simp; done) | (simp; omega)) rfl (by first | rfl | assumption) tk3 rfl rfl ?_ | refine WS.store (j := 0) rfl rfl (by first | decide | omega | (simp; done) | (simp; omega)) rfl (by first | rfl | assumption) tk3 (lset_eq _ _ _) rfl ?_ | refine WS.store (j := 1) rfl rfl (by first | decide | omega | (simp; done) | (simp; omega)) rfl (by first | rfl | assumption) tk3 rfl rfl ?_ | refine WS.store (j := 1) rfl rfl (by first | decide | omega | (simp; done) | (simp; omega)) rfl (by first | rfl | assumption) tk3 (lset_eq _ _ _) rfl ?_ | refine WS.store (j := 2) rfl rfl (by first | decide | omega | (simp; done) | (simp; omega)) rfl (by first | rfl | assumption) tk3 rfl rfl ?_ | refine WS.store (j := 2) rfl rfl (by first | decide | omega | (simp; done) | (simp; omega)) rfl (by first | rfl | assumption) tk3 (lset_eq _ _ _) rfl ?_ | refine WS.store (j := 3) rfl rfl (by first | decide | omega | (simp; done) | (simp; omega)) rfl (by first | rfl | assumption) tk3 rfl rfl ?_ | refine WS.store (j := 3) rfl rfl (by first | decide | omega | (simp; done) | (simp; omega)) rfl (by first | rfl | assumption) tk3 (lset_eq _ _ _) rfl ?_ | refine WS.store (j := 4) rfl rfl (by first | decide | omega | (simp; done) | (simp; omega)) rfl (by first | rfl | assumption) tk3 rfl rfl ?_ | refine WS.store (j := 4) rfl rfl (by first | decide | omega | (simp; done) | (simp; omega)) rfl (by first | rfl | assumption) tk3 (lset_eq _ _ _) rfl ?_ | refine WS.store (j := 5) rfl rfl (by first | decide | omega | (simp; done) | (simp; omega)) rfl (by first | rfl | assumption) tk3 rfl rfl ?_ | refine WS.store (j := 5) rfl rfl (by first | decide | omega | (simp; done) | (simp; omega)) rfl (by first | rfl | assumption) tk3 (lset_eq _ _ _) rfl ?_ | refine WS.store (j := 6) rfl rfl (by first | decide | omega | (simp; done) | (simp; omega)) rfl (by first | rfl | assumption) tk3 rfl rfl ?_ | refine WS.store (j := 6) rfl rfl (by first | decide | omega | (simp; done) | (simp; omega)) rfl (by first | rfl | assumption) tk3 (lset_eq _ _ _) rfl ?_ | refine WS.store (j := 7) rfl rfl (by first | decide | omega | (simp; done) | (simp; omega)) rfl (by first | rfl | assumption) tk3 rfl rfl ?_ | refine WS.store (j := 7) rfl rfl (by first | decide | omega | (simp; done) | (simp; omega)) rfl (by first | rfl | assumption) tk3 (lset_eq _ _ _) rfl ?_ -- r20.7 codes.go:394
              refine WS.done ?_
              refine QS.block_normal ?_
              refine QS.sel [0, 0, 0, 0, 0, 0, 0, 0] rfl ?_
              exact fun u hu => by
                simp only [roundQ, List.length_append, List.length_singleton]
                have h1 := hu.factI (p := q.2.map (·.2) = cs.map fun c => (pre ++ [x]).map (holdsT c)) (by rw [hq3, show q.1.toNat = cs.length by omega, flgT_end])
                have h2 := h1.sel [1, 1, 0, 0, 0, 0, 0, 0, 0] rfl
                refine St.perm ?_ (List.Perm.swap _ _ _)
                exact St.exI q.2 (St.pack (L1 := [_, _, _]) h2)
          · intro D
            refine QS.sel [1, 0, 0, 0, 0, 0, 0] rfl ?_
            refine QS.ex ?_; intro ps
            refine QS.unpack ?_
            refine QS.factE (j := 2) rfl (fun hq => ?_)
            refine QS.sel [0, 0, 2, 2, 2, 2, 1, 1] rfl ?_
            refine QS.block_normal ?_
            refine QS.then_code ?_
            refine CS.seq ?_
            refine CS.region ?_
            refine WS.det rfl rfl rfl (det_assign rfl) rfl ?_ -- r21.0 codes.go:396
            refine WS.done ?_
            refine QS.then_code ?_
            refine CS.seq ?_
            refine CS.seq ?_
            refine CS.region ?_
            refine WS.det rfl rfl rfl ((by first | exact det_loadb (j := 4) rfl rfl rfl tk31 | exact det_loadw rfl (by assumption) rfl tk31)) rfl ?_ -- r22.0 codes.go:397
            refine WS.det rfl rfl rfl ((by first | exact det_lenS sl31 rfl (by assumption) | exact det_lenS sl31 rfl (by first | exact SlL.sp (by assumption) | exact ClS.sp (by assumption)) | exact det_lenO sl31 rfl | exact det_lenV sl31 rfl ⟨_, _, rfl⟩)) rfl ?_ -- r22.1 codes.go:397
            refine WS.det rfl rfl rfl (det_move rfl) rfl ?_ -- r22.2 codes.go:397
            refine WS.done ?_
            refine QS.then_code ?_
            refine CS.block ?_
            refine CS.weak (fun _ hu => hu.osl0 (e := 3) (size := 1)) ?_
            refine CS.loopM (σ := Int × Value) [16, 17, 84, 85, 86, 87, 88, 89, 90, 91, 92, 93, 94, 95] (fun s => [(15, s.2), (83, .int .i64 s.1)]) (fun s => [oints 3 s.2 ((usTo cs xs s.1.toNat).map Int.ofNat), osl 102 1 v42 (ps.map (·.1)).length (ps.map (·.1)), star (lol Value.bool 4 ps), blk b44 [v42, .int .i64 (allC lw ls).length] 100, blk b11 [.pointer (some ⟨b44, 0, none⟩)] 97, blk b4 [.slice pp cs.length cap] 31, blk b3 [.int .i64 lw, .int .i64 ls] 23, recd D (.deferred (some [])), blk bc [.int .i64 lw, .int .i64 ls] 77]) (fun s => 0 ≤ s.1 ∧ s.1 ≤ cs.length) (fun s => (cs.length - s.1).toNat) (0, .slice none 0 0) (fun _ _ => rfl) rfl rfl ⟨by simp, by simp⟩ ?_
            intro r t hs
            obtain ⟨hr1, hr2⟩ := hs
            have hutl := usTo_len (cs := cs) (xs := xs) r.1.toNat
            refine CS.seq ?_
            refine CS.region ?_
            refine WS.det rfl rfl rfl (det_lt rfl rfl) rfl ?_ -- r23.0 codes.go:397
            refine WS.done ?_
            refine QS.then_code ?_
            refine CS.seq ?_
            refine CS.cond rfl (fun hc6 => ?_) (fun hc6 => ?_) <;> (try simp only [decide_eq_true_eq, decide_eq_false_iff_not, Bool.and_eq_true, Bool.or_eq_true, Bool.and_eq_false_iff, Bool.or_eq_false_iff, Bool.not_eq_true', Bool.not_eq_false', ne_eq, Decidable.not_not, Bool.not_true, Bool.not_false, bne_iff_ne, bne_eq_false_iff_eq, beq_iff_eq, beq_eq_false_iff_ne] at hc6)
            · skip
              have hUy : Use lw ls (nth cs r.1) xs := hU _ (nth_mem hr1 (by omega))
              have hgi : (nth gs r.1).oneCell' = true := hk.one _ (nth_mem hr1 (by omega))
              refine CS.skip ?_
              refine QS.then_code ?_
              refine CS.seq ?_
              refine CS.block ?_
              refine CS.seq ?_
              refine CS.region ?_
              refine WS.det rfl rfl rfl (det_move rfl) rfl ?_ -- r24.0 codes.go:397
              refine WS.det rfl rfl rfl (det_idxCl sl31 rfl rfl (by assumption) (by omega) (by omega)) rfl ?_ -- r24.1 codes.go:397
              refine WS.det rfl rfl rfl ((by first | exact det_ldCl rfl (by assumption) (by omega) tk36 | exact det_loadb0 (j := 0) rfl rfl tk36 | exact det_loadb0 (j := 1) rfl rfl tk36 | exact det_loadb0 (j := 2) rfl rfl tk36 | exact det_loadb0 (j := 3) rfl rfl tk36 | exact det_loadb0 (j := 4) rfl rfl tk36 | exact det_loadb0 (j := 5) rfl rfl tk36 | exact det_loadb0 (j := 6) rfl rfl tk36 | exact det_loadb0 (j := 7) rfl rfl tk36 | exact det_loadbN (j := 0) rfl rfl (by rfl) tk36 | exact det_loadbN (j := 1) rfl rfl (by rfl) tk36 | exact det_loadbN (j := 2) rfl rfl (by rfl) tk36 | exact det_loadbN (j := 3) rfl rfl (by rfl) tk36 | exact det_loadbN (j := 4) rfl rfl (by rfl) tk36 | exact det_loadbN (j := 5) rfl rfl (by rfl) tk36 | exact det_loadbN (j := 6) rfl rfl (by rfl) tk36 | exact det_loadbN (j := 7) rfl rfl (by rfl) tk36 | exact det_loadwN rfl (by assumption) (by rfl) tk36 | exact det_loadbK (n := 7) (j := 0) rfl rfl rfl rfl tk36 | exact det_loadbK (n := 7) (j := 1) rfl rfl rfl rfl tk36 | exact det_loadbK (n := 7) (j := 2) rfl rfl rfl rfl tk36 | exact det_loadbK (n := 7) (j := 3) rfl rfl rfl rfl tk36 | exact det_loadbK (n := 7) (j := 4) rfl rfl rfl rfl tk36 | exact det_loadbK (n := 7) (j := 5) rfl rfl rfl rfl tk36 | exact det_loadbK (n := 7) (j := 6) rfl rfl rfl rfl tk36 | exact det_loadbK (n := 7) (j := 7) rfl rfl rfl rfl tk36)) rfl ?_ -- r24.2 codes.go:397
              refine WS.alloc zv36 (fun _ => rfl) ?_; intro b17 hb17 -- r24.3 codes.go:397
              refine WS.det rfl rfl rfl (det_assign rfl) rfl ?_ -- r24.4 codes.go:397
              refine WS.storeW (j := 0) rfl rfl rfl rfl (clCells_one hgi) tk36 rfl rfl ?_ -- r24.5 codes.go:397
              refine WS.done ?_
              refine QS.then_code ?_
              refine CS.seq ?_
              refine CS.region ?_
              refine WS.det rfl rfl rfl ((by first | exact det_ldCl rfl (by assumption) (by omega) tk36 | exact det_loadb0 (j := 0) rfl rfl tk36 | exact det_loadbN (j := 0) rfl rfl (by rfl) tk36 | exact det_loadwN rfl (by assumption) (by rfl) tk36 | exact det_loadbK (n := 7) (j := 0) rfl rfl rfl rfl tk36)) rfl ?_ -- r25.0 codes.go:398
              refine WS.det rfl rfl rfl (det_move rfl) rfl ?_ -- r25.1 codes.go:398
              refine WS.det rfl rfl rfl (det_callB rfl rfl ent65 (fun u hu => holds_c _ _ _ _ _ _ u hUy ((hk.st hu).el r.1 hr1 (by omega)) (h2.st hu))) rfl ?_ -- r25.2 codes.go:398
              refine WS.done ?_
              refine QS.then_code ?_
              refine CS.cond rfl (fun hc7 => ?_) (fun hc7 => ?_) <;> (try simp only [decide_eq_true_eq, decide_eq_false_iff_not, Bool.and_eq_true, Bool.or_eq_true, Bool.and_eq_false_iff, Bool.or_eq_false_iff, Bool.not_eq_true', Bool.not_eq_false', ne_eq, Decidable.not_not, Bool.not_true, Bool.not_false, bne_iff_ne, bne_eq_false_iff_eq, beq_iff_eq, beq_eq_false_iff_ne] at hc7)
              · skip
                refine CS.region ?_
                refine WS.det rfl rfl rfl (det_move rfl) rfl ?_ -- r26.0 codes.go:399
                refine WS.det rfl rfl rfl (det_move rfl) rfl ?_ -- r26.1 codes.go:399
                refine WS.buildI1 sl24 zv3 rfl (fun _ => rfl) ?_; intro v93 -- r26.2 codes.go:399
                refine WS.appendI (j := 2) sl24 zv3 rfl rfl rfl (fun u hu => oints_SlI hu (j := 0) rfl) (by first | omega | (simp; omega) | (simp only [List.length_append, List.length_singleton, List.length_map, List.length_cons, List.length_nil] at *; omega)) (by first | omega | (simp; omega) | (simp only [List.length_append, List.length_singleton, List.length_map, List.length_cons, List.length_nil] at *; omega)) (fun _ => rfl) (fun _ => rfl) ?_; intro v94; refine WS.oc (j := 2) rfl (fun hv94 => ?_) -- r26.3 codes.go:399
                refine WS.det rfl rfl rfl (det_assign rfl) rfl ?_ -- r26.4 codes.go:399
                refine WS.done ?_
                refine QS.block_normal ?_
                refine QS.then_code ?_
                refine CS.region ?_
                refine WS.det rfl rfl rfl (det_add rfl rfl (by omega)) rfl ?_ -- r27.0 codes.go:397
                refine WS.det rfl rfl rfl (det_move rfl) rfl ?_ -- r27.1 codes.go:397
                refine WS.done ?_
                refine QS.sel [2, 2, 2, 2, 2, 2, 2, 2, 2] rfl ?_
                exact QS.head ((r.1 + 1, v94)) rfl (by first | simp only [usTo_yes hr1 hc7] | simp only [usTo_no hr1 hc7]) ⟨⟨by simp; omega, by simp; omega⟩, by simp; omega⟩
              · skip
                refine CS.skip ?_
                refine QS.block_normal ?_
                refine QS.then_code ?_
                refine CS.region ?_
                refine WS.det rfl rfl rfl (det_add rfl rfl (by omega)) rfl ?_ -- r27.0 codes.go:397
                refine WS.det rfl rfl rfl (det_move rfl) rfl ?_ -- r27.1 codes.go:397
                refine WS.done ?_
                refine QS.sel [1, 1, 1, 1, 1, 1, 1, 1, 1] rfl ?_
                exact QS.head ((r.1 + 1, r.2)) rfl (by first | simp only [usTo_yes hr1 hc7] | simp only [usTo_no hr1 hc7]) ⟨⟨by simp; omega, by simp; omega⟩, by simp; omega⟩
            · skip
              have hus : (usFrom cs xs 0).length = (usTo cs xs r.1.toNat).length := by rw [show r.1.toNat = cs.length by omega, usTo_all]
              have hum : ((usTo cs xs r.1.toNat).map Int.ofNat).length = (usTo cs xs r.1.toNat).length := by simp
              refine CS.leave ?_
              refine QS.then_exit ?_
              refine QS.then_exit ?_
              refine QS.block_exit ?_
              refine QS.then_code ?_
              refine CS.seq ?_
              refine CS.seq ?_
              refine CS.region ?_
              refine WS.det rfl rfl rfl (det_assign rfl) rfl ?_ -- r28.0 codes.go:402
              refine WS.done ?_
              refine QS.then_code ?_
              refine CS.block ?_
              refine CS.loopM (σ := Int) [6, 7, 19, 96, 97, 98, 99, 100, 101, 102, 103, 104, 105, 106, 107, 108] (fun s => [(18, .int .i64 s)]) (fun _ => _) (fun s => 1 ≤ s ∧ s ≤ (usFrom cs xs 0).length + 1 ∧ chF lw ls cs xs (s - 1).toNat = none) (fun s => ((usFrom cs xs 0).length + 1 - s).toNat) 1 (fun _ _ => rfl) rfl rfl ⟨by omega, by omega, rfl⟩ ?_
              intro n t hs
              obtain ⟨hn1, hn2, hn3⟩ := hs
              refine CS.seq ?_
              refine CS.seq ?_
              refine CS.region ?_
              refine WS.det rfl rfl rfl (det_move rfl) rfl ?_ -- r29.0 codes.go:402
              refine WS.det rfl rfl rfl (det_move rfl) rfl ?_ -- r29.1 codes.go:402
              refine WS.det rfl rfl rfl (det_lenOI (j := 0) sl24 rfl rfl) rfl ?_ -- r29.2 codes.go:402
              refine WS.det rfl rfl rfl (det_le rfl rfl) rfl ?_ -- r29.3 codes.go:402
              refine WS.done ?_
              refine QS.then_code ?_
              refine CS.cond rfl (fun hc8 => ?_) (fun hc8 => ?_) <;> (try simp only [decide_eq_true_eq, decide_eq_false_iff_not, Bool.and_eq_true, Bool.or_eq_true, Bool.and_eq_false_iff, Bool.or_eq_false_iff, Bool.not_eq_true', Bool.not_eq_false', ne_eq, Decidable.not_not, Bool.not_true, Bool.not_false, bne_iff_ne, bne_eq_false_iff_eq, beq_iff_eq, beq_eq_false_iff_ne] at hc8)
              · skip
                have hnn : n.toNat = (n - 1).toNat + 1 := by omega
                refine CS.skip ?_
                refine QS.then_code ?_
                refine CS.seq ?_
                refine CS.block ?_
                refine CS.seq ?_
                refine CS.region ?_
                refine WS.det rfl rfl rfl ((by first | exact det_loadb (j := 4) rfl rfl rfl tk97 | exact det_loadw rfl (by assumption) rfl tk97)) rfl ?_ -- r31.0 codes.go:403
                refine WS.det rfl rfl rfl (det_move rfl) rfl ?_ -- r31.1 codes.go:403
                refine WS.det rfl rfl rfl (det_move rfl) rfl ?_ -- r31.2 codes.go:403
                refine WS.callF rfl rfl ent78 (fun u hu => more_c lw ls cs b44 100 v42 (ps.map (·.1)) hL (n - 1).toNat [] (usFrom cs xs 0) (.slice none 0 0) _ u (by have h9 := ChB_of hu (j1 := 3) (j2 := 1) (j3 := 2) rfl rfl rfl hq; rw [hal] at h9; exact h9) (SlI.none u) (by have h9 := oints_SlI hu (j := 0) rfl; rw [show r.1.toNat = cs.length by omega, usTo_all] at h9; exact h9) (by simp) usFrom_lt n (by omega) (by simp; omega) (by omega)) (fun _ => rfl) ?_; rintro vm ⟨hvm1, um, hvm3⟩; have hvm2 : ∃ p n c, vm = .slice p n c := (by obtain ⟨p9, c9, h9⟩ := hvm3.shape; exact ⟨p9, _, c9, h9⟩) -- r31.3 codes.go:403
                refine WS.det rfl rfl rfl (det_assign rfl) rfl ?_ -- r31.4 codes.go:403
                refine WS.done ?_
                refine QS.then_code ?_
                refine CS.seq ?_
                refine CS.region ?_
                refine WS.det rfl rfl rfl (det_move rfl) rfl ?_ -- r32.0 codes.go:403
                refine WS.det rfl rfl rfl (det_nenilV sl24 rfl rfl hvm2) rfl ?_ -- r32.1 codes.go:403
                refine WS.done ?_
                refine QS.then_code ?_
                refine CS.cond rfl (fun hc9 => ?_) (fun hc9 => ?_) <;> (try simp only [decide_eq_true_eq, decide_eq_false_iff_not, Bool.and_eq_true, Bool.or_eq_true, Bool.and_eq_false_iff, Bool.or_eq_false_iff, Bool.not_eq_true', Bool.not_eq_false', ne_eq, Decidable.not_not, Bool.not_true, Bool.not_false, bne_iff_ne, bne_eq_false_iff_eq, beq_iff_eq, beq_eq_false_iff_ne] at hc9)
                · skip
                  obtain ⟨r9, hr9⟩ : ∃ r, moreF lw ls cs ((n - 1).toNat + 1) [] (usFrom cs xs 0) = some r := by
                    cases h : moreF lw ls cs ((n - 1).toNat + 1) [] (usFrom cs xs 0) with
                    | none => rw [hvm1, h] at hc9; cases hc9
                    | some r => exact ⟨r, rfl⟩
                  have hfin : chooseX lw ls cs xs = some r9 := chF_found hn3 hr9 (by omega)
                  rw [hfin] at hche
                  have hche2 : chE lw ls cs xs = 0 := hche
                  refine CS.seq ?_
                  refine CS.region ?_
                  refine WS.det rfl rfl rfl (det_move rfl) rfl ?_ -- r33.0 codes.go:404
                  refine WS.det rfl rfl rfl (det_assign rfl) rfl ?_ -- r33.1 codes.go:404
                  refine WS.det rfl rfl rfl (det_assign rfl) rfl ?_ -- r33.2 codes.go:404
                  refine WS.done ?_
                  refine QS.then_code ?_
                  refine CS.ret ?_
                  refine QS.block_ret ?_
                  refine QS.then_ret ?_
                  refine QS.then_ret ?_
                  refine QS.block_ret ?_
                  refine QS.then_ret ?_
                  exact outM (j := 8) (Or.inl rfl) rfl (res2 rfl rfl rfl) (retIq (v := vm) (fun S u hs => Star.ro (j := 0) rfl hs) (by rw [if_pos hche2, hfin, hr9]) (by rw [hche2])) -- ret 5
                · skip
                  have hr9 : moreF lw ls cs ((n - 1).toNat + 1) [] (usFrom cs xs 0) = none := by
                    cases h : moreF lw ls cs ((n - 1).toNat + 1) [] (usFrom cs xs 0) with
                    | none => rfl
                    | some r => rw [hvm1, h] at hc9; cases hc9
                  refine CS.skip ?_
                  refine QS.block_normal ?_
                  refine QS.then_code ?_
                  refine CS.region ?_
                  refine WS.det rfl rfl rfl (det_move rfl) rfl ?_ -- r30.0 codes.go:402
                  refine WS.det rfl rfl rfl (det_add rfl rfl (by omega)) rfl ?_ -- r30.1 codes.go:402
                  refine WS.det rfl rfl rfl (det_assign rfl) rfl ?_ -- r30.2 codes.go:402
                  refine WS.done ?_
                  refine QS.sel [1, 1, 1, 1, 1, 1, 1, 1, 1] rfl ?_
                  exact QS.head (n + 1) rfl rfl ⟨⟨by omega, by omega, by rw [show (n + 1 - 1).toNat = (n - 1).toNat + 1 by omega]; exact chF_next hn3 hr9⟩, by omega⟩
              · skip
                have hfin : chooseX lw ls cs xs = none := by
                  have : (n - 1).toNat = (usFrom cs xs 0).length := by omega
                  rw [this] at hn3; exact hn3
                rw [hfin] at hche
                have hche2 : chE lw ls cs xs = 3 := hche
                refine CS.leave ?_
                refine QS.then_exit ?_
                refine QS.then_exit ?_
                refine QS.block_exit ?_
                refine QS.then_code ?_
                refine CS.seq ?_
                refine CS.region ?_
                refine WS.det rfl rfl rfl (det_assign rfl) rfl ?_ -- r34.0 codes.go:407
                refine WS.det rfl rfl rfl (det_assign rfl) rfl ?_ -- r34.1 codes.go:407
                refine WS.done ?_
                refine QS.then_code ?_
                refine CS.ret ?_
                exact outM (j := 7) (Or.inl rfl) rfl (res2 rfl rfl rfl) (retIn (by rw [if_neg (by rw [hche2]; decide)]) (by rw [hche2])) -- ret 6
          · intro D kd pre x post hall
            cases kd with
            | _ => exact fun u hu => (hu.factE (j := 1) rfl).elim

end Go.Proofs.Ytldagbcceefcdaa
