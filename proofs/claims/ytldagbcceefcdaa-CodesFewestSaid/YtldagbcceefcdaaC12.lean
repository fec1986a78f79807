/- Contracts of functions, printed by a program of the prover (gen.py). -/
import Derived.Test.YtldagbcceefcdaaC11
import Derived.Test.YtldagbcceefcdaaRo
namespace Go.Proofs.Ytldagbcceefcdaa
open Go.RowKit Go.Proofs
set_option maxRecDepth 100000
set_option linter.unusedVariables false
set_option linter.unusedSimpArgs false

theorem Readings_c (lw ls : Int) (cs : List Clue) (gs : List Value) (cv : Value) (most : Int) (w : World) (hk : ClS w cv cs gs) :
    Calls Try.prog 35 #[.agg #[.int .i64 lw, .int .i64 ls], cv, .int .i64 most] w (fun e w' => ∃ x : Value × List Value, (∃ u0, SlL u0 x.1 (if rdE lw ls cs most = 0 then (readL lw ls cs).take most.toNat else []) x.2) ∧ RetF w (.tuple #[x.1, .int .i64 (rdE lw ls cs most)]) (roL x.1 (if rdE lw ls cs most = 0 then (readL lw ls cs).take most.toNat else []) x.2) e w') := by
  refine enterM St.nil Try.func35 rfl rfl (Nat.le_of_ble_eq_true rfl) ?_
  refine CS.seq ?_
  refine CS.region ?_
  refine WS.box rfl rfl (fun _ => rfl) ?_; intro b3 hb3 -- r0.0 codes.go:244
  refine WS.box rfl rfl (fun _ => rfl) ?_; intro b5 hb5 -- r0.1 codes.go:244
  refine WS.alloc zv51 (fun _ => rfl) ?_; intro b6 hb6 -- r0.2 codes.go:244
  refine WS.det rfl rfl rfl (det_assign rfl) rfl ?_ -- r0.3 codes.go:244
  refine WS.done ?_
  refine QS.then_code ?_
  refine CS.seq ?_
  refine CS.seq ?_
  refine CS.region ?_
  refine WS.det rfl rfl rfl ((by first | exact det_loadb0 (j := 2) rfl rfl tk23 | exact det_loadbN (j := 2) rfl rfl (by rfl) tk23 | exact det_loadwN rfl (by assumption) (by rfl) tk23 | exact det_loadbK (n := 2) (j := 2) rfl rfl rfl rfl tk23)) rfl ?_ -- r1.0 codes.go:245
  refine WS.det rfl rfl rfl (det_move rfl) rfl ?_ -- r1.1 codes.go:245
  refine WS.det rfl rfl rfl (det_callB rfl rfl ent57 (fun u hu => checkClues_c _ _ _ _ _ u (hk.st hu))) rfl ?_ -- r1.2 codes.go:245
  refine WS.det rfl rfl rfl (det_assign rfl) rfl ?_ -- r1.3 codes.go:245
  refine WS.done ?_
  refine QS.then_code ?_
  refine CS.seq ?_
  refine CS.region ?_
  refine WS.det rfl rfl rfl (det_move rfl) rfl ?_ -- r2.0 codes.go:245
  refine WS.det rfl rfl rfl (det_ne rfl rfl) rfl ?_ -- r2.1 codes.go:245
  refine WS.done ?_
  refine QS.then_code ?_
  refine CS.cond rfl (fun hc1 => ?_) (fun hc1 => ?_) <;> (try simp only [decide_eq_true_eq, decide_eq_false_iff_not, Bool.and_eq_true, Bool.or_eq_true, Bool.and_eq_false_iff, Bool.or_eq_false_iff, Bool.not_eq_true', Bool.not_eq_false', ne_eq, Decidable.not_not, Bool.not_true, Bool.not_false, bne_iff_ne, bne_eq_false_iff_eq, beq_iff_eq, beq_eq_false_iff_ne] at hc1)
  · skip
    refine CS.seq ?_
    refine CS.region ?_
    refine WS.det rfl rfl rfl (det_move rfl) rfl ?_ -- r3.0 codes.go:246
    first | refine WS.store (j := 0) rfl rfl (by first | decide | omega | (simp; done) | (simp; omega)) rfl (by first | rfl | assumption) tk51 rfl rfl ?_ | refine WS.store (j := 0) rfl rfl (by first | decide | omega | (simp; done) | (simp; omega)) rfl (by first | rfl | assumption) tk51 (lset_eq _ _ _) rfl ?_ -- r3.1 codes.go:246
    refine WS.det rfl rfl rfl (det_assign rfl) rfl ?_ -- r3.2 codes.go:246
    refine WS.done ?_
    refine QS.then_code ?_
    refine CS.ret ?_
    refine QS.then_ret ?_
    exact outE (Or.inl rfl) (resct rfl (cell_rv (j := 0) rfl rfl rfl tk51) rfl) (retLne (f := fun z => .tuple #[z, .int .i64 (rdE lw ls cs most)]) (by simp [rdE, hc1]) (by simp [rdE, hc1])) -- ret 1
  · skip
    have hL := cluesE_lock hc1
    have hC := cluesE_clue hc1
    refine CS.skip ?_
    refine QS.then_code ?_
    refine CS.seq ?_
    refine CS.seq ?_
    refine CS.region ?_
    refine WS.det rfl rfl rfl ((by first | exact det_loadb (j := 1) rfl rfl rfl tk3 | exact det_loadw rfl (by assumption) rfl tk3)) rfl ?_ -- r4.0 codes.go:248
    refine WS.det rfl rfl rfl (det_callB rfl rfl ent61 (fun u hu => within_c _ _ _ u)) rfl ?_ -- r4.1 codes.go:248
    refine WS.det rfl rfl rfl (det_not rfl) rfl ?_ -- r4.2 codes.go:248
    refine WS.done ?_
    refine QS.then_code ?_
    refine CS.cond rfl (fun hc2 => ?_) (fun hc2 => ?_) <;> (try simp only [decide_eq_true_eq, decide_eq_false_iff_not, Bool.and_eq_true, Bool.or_eq_true, Bool.and_eq_false_iff, Bool.or_eq_false_iff, Bool.not_eq_true', Bool.not_eq_false', ne_eq, Decidable.not_not, Bool.not_true, Bool.not_false, bne_iff_ne, bne_eq_false_iff_eq, beq_iff_eq, beq_eq_false_iff_ne] at hc2)
    · skip
      refine CS.seq ?_
      refine CS.region ?_
      first | refine WS.store (j := 0) rfl rfl (by first | decide | omega | (simp; done) | (simp; omega)) rfl (by first | rfl | assumption) tk51 rfl rfl ?_ | refine WS.store (j := 0) rfl rfl (by first | decide | omega | (simp; done) | (simp; omega)) rfl (by first | rfl | assumption) tk51 (lset_eq _ _ _) rfl ?_ -- r5.0 codes.go:249
      refine WS.det rfl rfl rfl (det_assign rfl) rfl ?_ -- r5.1 codes.go:249
      refine WS.done ?_
      refine QS.then_code ?_
      refine CS.ret ?_
      refine QS.then_ret ?_
      exact outE (Or.inl rfl) (resct rfl (cell_rv (j := 0) rfl rfl rfl tk51) rfl) (retLne (f := fun z => .tuple #[z, .int .i64 (rdE lw ls cs most)]) (by simp [rdE, hc1, hc2]) (by simp [rdE, hc1, hc2])) -- ret 2
    · skip
      have hwi := hc2
      simp only [within, Bool.and_eq_true, decide_eq_true_eq] at hwi
      have hre : rdE lw ls cs most = 0 := by simp [rdE, hc1, hc2]
      refine CS.skip ?_
      refine QS.then_code ?_
      refine CS.seq ?_
      refine CS.seq ?_
      refine CS.region ?_
      refine WS.det rfl rfl rfl ((by first | exact det_loadb0 (j := 2) rfl rfl tk23 | exact det_loadbN (j := 2) rfl rfl (by rfl) tk23 | exact det_loadwN rfl (by assumption) (by rfl) tk23 | exact det_loadbK (n := 2) (j := 2) rfl rfl rfl rfl tk23)) rfl ?_ -- r6.0 codes.go:251
      refine WS.det rfl rfl rfl (det_move rfl) rfl ?_ -- r6.1 codes.go:251
      refine WS.callF rfl rfl ent67 (fun u hu => readings_c _ _ _ _ _ u (hk.st hu)) (fun _ => rfl) ?_; intro br _; refine WS.unpack ?_ -- r6.2 codes.go:251
      refine WS.done ?_
      refine QS.then_code ?_
      refine CS.block ?_
      refine CS.sel [2, 2, 2, 0, 0] rfl ?_
      refine CS.weak (L' := [exS fun q : Value => exS fun ps : List (Value × List Int) => star [blk b6 [q] 51, osl 24 1 q (ps.map (·.1)).length (ps.map (·.1)), star (loi 3 ps), fact (ps.map (·.2) = [] ∧ (([] : List (List Int)).length : Int) < most)], blk b5 [.int .i64 most] 3, blk b3 [.int .i64 lw, .int .i64 ls] 23] ++ [blk br.1 [.int .i64 lw, .int .i64 ls] 77, blk br.2 [cv] 31]) (fun u hu => St.exI (Value.slice none 0 0) (St.exI [] (St.pack (L1 := [_, _, _, _]) (((hu.oll0 (te := 24) (e := 3)).factI (p := (List.map (·.2) ([] : List (Value × List Int))) = [] ∧ (([] : List (List Int)).length : Int) < most) ⟨rfl, by simp; omega⟩).sel [3, 1, 1, 0, 0, 0, 0, 0] rfl)))) ?_
      refine CS.rangeA (A := [blk br.1 [.int .i64 lw, .int .i64 ls] 77, blk br.2 [cv] 31]) rfl ent92 (readingsI_c lw ls cs gs cv w br.1 br.2 hL hk hC) (fun pre => [exS fun q : Value => exS fun ps : List (Value × List Int) => star [blk b6 [q] 51, osl 24 1 q (ps.map (·.1)).length (ps.map (·.1)), star (loi 3 ps), fact (ps.map (·.2) = pre ∧ (pre.length : Int) < most)], blk b5 [.int .i64 most] 3, blk b3 [.int .i64 lw, .int .i64 ls] 23]) (fun kd pre => match kd with | .exit 0 => [exS fun q : Value => exS fun ps : List (Value × List Int) => star [blk b6 [q] 51, osl 24 1 q (ps.map (·.1)).length (ps.map (·.1)), star (loi 3 ps), fact (ps.map (·.2) = pre ∧ (pre.length : Int) = most)], blk b5 [.int .i64 most] 3, blk b3 [.int .i64 lw, .int .i64 ls] 23] | _ => [fact False]) (fun _ => rfl) (Nat.le_of_ble_eq_true rfl) (fun _ => rfl) ?_ ?_ ?_
      · intro lr pre x post v F hall
        have hx := (readL_mem hL (show x ∈ readL lw ls cs by rw [hall]; simp)).1
        have hx4 := (code_ten hL hx).1
        have hb := readL_le hL cs
        rw [hall] at hb
        simp at hb
        refine CS.sel [1, 0, 0, 0, 0] rfl ?_
        refine CS.ex ?_; intro q
        refine CS.ex ?_; intro ps
        refine CS.unpack ?_
        refine CS.factE (j := 3) rfl (fun hq0 => ?_)
        obtain ⟨hq, hqm⟩ := hq0
        have hpl := snd_len hq
        refine CS.sel [1, 1, 0, 1, 1, 1, 1] rfl ?_
        refine CS.block ?_
        refine CS.seq ?_
        refine CS.drawnTill 4 (k := 6) mixed rfl rfl ?_
        refine AT.take 0 rfl (by kernel_rfl) (na := 6) (by kernel_rfl) rfl (by kernel_rfl) (by kernel_rfl) (by kernel_rfl) rfl rfl ((by first | exact det_loadb (j := 2) rfl rfl rfl tk51 | exact det_loadw rfl (by assumption) rfl tk51)) rfl rfl ?_ -- r8.0 codes.go:252
        refine AT.take 1 rfl (by kernel_rfl) (na := 6) (by kernel_rfl) rfl (by kernel_rfl) (by kernel_rfl) (by kernel_rfl) rfl rfl (det_move rfl) rfl rfl ?_ -- r8.1 codes.go:252
        refine AT.one (i := 2) (by kernel_rfl) rfl (by first | (intro h; exact absurd h (by decide)) | exact fun _ _ h => h | exact fun _ _ h => h.sub (by repeat first | exact List.Sublist.refl _ | apply List.Sublist.cons_cons | apply List.Sublist.cons)) rfl ?_
        refine WS.callF rfl rfl ent68 (fun u hu => CloneI_c x v u (oints_SlI hu (j := 3) rfl) (by omega)) (fun _ => rfl) ?_; intro v25 hv25 -- r8.2 codes.go:252
        refine WS.done ?_
        refine QS.then_AT ?_
        refine AT.one (i := 3) (by kernel_rfl) rfl (by first | (intro h; exact absurd h (by decide)) | exact fun _ _ h => h | exact fun _ _ h => h.sub (by repeat first | exact List.Sublist.refl _ | apply List.Sublist.cons_cons | apply List.Sublist.cons)) rfl ?_
        refine WS.buildV1 sl51 zv24 rfl (by first | rfl | assumption) (fun _ => rfl) ?_; intro v26 -- r8.3 codes.go:252
        refine WS.done ?_
        refine QS.then_AT ?_
        refine AT.one (i := 4) (by kernel_rfl) rfl (by first | (intro h; exact absurd h (by decide)) | exact fun _ _ h => h | exact fun _ _ h => h.sub (by repeat first | exact List.Sublist.refl _ | apply List.Sublist.cons_cons | apply List.Sublist.cons)) rfl ?_
        refine WS.append1 (j := 2) (jz := 0) sl51 zv24 rfl rfl rfl rfl (by first | rfl | assumption) (by first | omega | (simp; omega) | (simp only [List.length_append, List.length_singleton, List.length_map, List.length_cons, List.length_nil] at *; omega)) (by first | omega | (simp; omega) | (simp only [List.length_append, List.length_singleton, List.length_map, List.length_cons, List.length_nil] at *; omega)) (fun _ => rfl) (fun _ => rfl) ?_; intro v27; refine WS.oc (j := 2) rfl (fun hv27 => ?_) -- r8.4 codes.go:252
        refine WS.done ?_
        refine QS.then_AT ?_
        refine AT.one (i := 5) (by kernel_rfl) rfl (by first | (intro h; exact absurd h (by decide)) | exact fun _ _ h => h | exact fun _ _ h => h.sub (by repeat first | exact List.Sublist.refl _ | apply List.Sublist.cons_cons | apply List.Sublist.cons)) rfl ?_
        first | refine WS.store (j := 4) rfl rfl (by first | decide | omega | (simp; done) | (simp; omega)) rfl (by first | rfl | assumption) tk51 rfl rfl ?_ | refine WS.store (j := 4) rfl rfl (by first | decide | omega | (simp; done) | (simp; omega)) rfl (by first | rfl | assumption) tk51 (lset_eq _ _ _) rfl ?_ -- r8.5 codes.go:252
        refine WS.done ?_
        refine QS.then_AT ?_
        refine AT.done (by kernel_rfl) (by first | (intro h; exact absurd h (by decide)) | exact fun _ _ h => h | exact fun _ _ h => h.sub (by repeat first | exact List.Sublist.refl _ | apply List.Sublist.cons_cons | apply List.Sublist.cons)) ?_
        refine QS.then_code ?_
        refine CS.seq ?_
        refine CS.region ?_
        refine WS.det rfl rfl rfl ((by first | exact det_loadb (j := 4) rfl rfl rfl tk51 | exact det_loadw rfl (by assumption) rfl tk51)) rfl ?_ -- r9.0 codes.go:253
        refine WS.det rfl rfl rfl (det_lenO (j := 2) sl51 rfl rfl) rfl ?_ -- r9.1 codes.go:253
        refine WS.det rfl rfl rfl ((by first | exact det_loadb (j := 6) rfl rfl rfl tk3 | exact det_loadw rfl (by assumption) rfl tk3)) rfl ?_ -- r9.2 codes.go:253
        refine WS.det rfl rfl rfl (det_eq rfl rfl) rfl ?_ -- r9.3 codes.go:253
        refine WS.done ?_
        refine QS.then_code ?_
        refine CS.cond rfl (fun hc3 => ?_) (fun hc3 => ?_) <;> (try simp only [decide_eq_true_eq, decide_eq_false_iff_not, Bool.and_eq_true, Bool.or_eq_true, Bool.and_eq_false_iff, Bool.or_eq_false_iff, Bool.not_eq_true', Bool.not_eq_false', ne_eq, Decidable.not_not, Bool.not_true, Bool.not_false, bne_iff_ne, bne_eq_false_iff_eq, beq_iff_eq, beq_eq_false_iff_ne] at hc3)
        · skip
          refine CS.leave ?_
          refine QS.block_exit_ne rfl ?_
          refine QS.sel [2, 2, 1, 1, 1, 1, 1, 1] rfl ?_
          exact fun u hu => by
            simp only [roundQ]
            have h1 := hu.ollSnoc.factI (p := (ps ++ [(v25, x)]).map (·.2) = pre ++ [x] ∧ ((pre ++ [x]).length : Int) = most) ⟨snd_snoc hq, by simp at hc3 ⊢; omega⟩
            have h2 := h1.sel [3, 1, 1, 0, 0, 0, 0, 0] rfl
            refine St.perm ?_ (List.Perm.swap _ _ _)
            exact St.exI v27 (St.exI _ (St.pack (L1 := [_, _, _, _]) h2))
        · skip
          refine CS.skip ?_
          refine QS.block_normal ?_
          refine QS.sel [2, 2, 1, 1, 1, 1, 1, 1] rfl ?_
          exact fun u hu => by
            simp only [roundQ]
            have h1 := hu.ollSnoc.factI (p := (ps ++ [(v25, x)]).map (·.2) = pre ++ [x] ∧ ((pre ++ [x]).length : Int) < most) ⟨snd_snoc hq, by simp at hc3 ⊢; omega⟩
            have h2 := h1.sel [3, 1, 1, 0, 0, 0, 0, 0] rfl
            refine St.perm ?_ (List.Perm.swap _ _ _)
            exact St.exI v27 (St.exI _ (St.pack (L1 := [_, _, _, _]) h2))
      · intro D
        refine QS.sel [1, 0, 0, 0, 0, 0] rfl ?_
        refine QS.ex ?_; intro q
        refine QS.ex ?_; intro ps
        refine QS.unpack ?_
        refine QS.factE (j := 3) rfl (fun hq0 => ?_)
        obtain ⟨hq, hqm⟩ := hq0
        have hpl := snd_len hq
        refine QS.sel [1, 1, 0, 1, 1, 1, 1, 1] rfl ?_
        refine QS.oc (j := 0) rfl (fun hqv => ?_)
        have hfin : ps.map (·.2) = (readL lw ls cs).take most.toNat := by rw [hq, take_short (by omega)]
        refine QS.block_normal ?_
        refine QS.then_code ?_
        refine CS.seq ?_
        refine CS.region ?_
        refine WS.det rfl rfl rfl ((by first | exact det_loadb (j := 2) rfl rfl rfl tk51 | exact det_loadw rfl (by assumption) rfl tk51)) rfl ?_ -- r10.0 codes.go:257
        first | refine WS.store (j := 2) rfl rfl (by first | decide | omega | (simp; done) | (simp; omega)) rfl (by first | rfl | assumption) tk51 rfl rfl ?_ | refine WS.store (j := 2) rfl rfl (by first | decide | omega | (simp; done) | (simp; omega)) rfl (by first | rfl | assumption) tk51 (lset_eq _ _ _) rfl ?_ -- r10.1 codes.go:257
        refine WS.det rfl rfl rfl (det_assign rfl) rfl ?_ -- r10.2 codes.go:257
        refine WS.done ?_
        refine QS.then_code ?_
        refine CS.ret ?_
        exact outM (j := 3) (Or.inl rfl) rfl (resct rfl (cell_rv (j := 2) rfl rfl rfl tk51) rfl) (retLe (f := fun z => .tuple #[z, .int .i64 (rdE lw ls cs most)]) (by rw [hfin, if_pos hre]) (by rw [hre])) -- ret 3
      · intro D kd pre x post hall
        cases kd with
        | exit i =>
          cases i with
          | succ i => exact fun u hu => (hu.factE (j := 1) rfl).elim
          | zero =>
            refine CS.sel [1, 0, 0, 0, 0, 0] rfl ?_
            refine CS.ex ?_; intro q
            refine CS.ex ?_; intro ps
            refine CS.unpack ?_
            refine CS.factE (j := 3) rfl (fun hq0 => ?_)
            obtain ⟨hq, hqm⟩ := hq0
            have hpl := snd_len hq
            refine CS.sel [1, 1, 0, 1, 1, 1, 1, 1] rfl ?_
            refine CS.oc (j := 0) rfl (fun hqv => ?_)
            have hfin : ps.map (·.2) = (readL lw ls cs).take most.toNat := by
              have e : most.toNat = pre.length + 1 := by simp at hqm; omega
              rw [hq, e, split_take hall]
            refine CS.leave ?_
            refine QS.block_exit ?_
            refine QS.then_code ?_
            refine CS.seq ?_
            refine CS.region ?_
            refine WS.det rfl rfl rfl ((by first | exact det_loadb (j := 2) rfl rfl rfl tk51 | exact det_loadw rfl (by assumption) rfl tk51)) rfl ?_ -- r10.0 codes.go:257
            first | refine WS.store (j := 2) rfl rfl (by first | decide | omega | (simp; done) | (simp; omega)) rfl (by first | rfl | assumption) tk51 rfl rfl ?_ | refine WS.store (j := 2) rfl rfl (by first | decide | omega | (simp; done) | (simp; omega)) rfl (by first | rfl | assumption) tk51 (lset_eq _ _ _) rfl ?_ -- r10.1 codes.go:257
            refine WS.det rfl rfl rfl (det_assign rfl) rfl ?_ -- r10.2 codes.go:257
            refine WS.done ?_
            refine QS.then_code ?_
            refine CS.ret ?_
            exact outM (j := 3) (Or.inl rfl) rfl (resct rfl (cell_rv (j := 2) rfl rfl rfl tk51) rfl) (retLe (f := fun z => .tuple #[z, .int .i64 (rdE lw ls cs most)]) (by rw [hfin, if_pos hre]) (by rw [hre])) -- ret 4
        | _ => exact fun u hu => (hu.factE (j := 1) rfl).elim

theorem RReadings_c (lw ls : Int) (cs : List Clue) (gs : List Value) (cv : Value) (most : Int) (w : World) (hk : ClS w cv cs gs) :
    Calls Try.prog 40 #[.agg #[.int .i64 lw, .int .i64 ls], cv, .int .i64 most] w (fun e w' => ∃ x : Value × List Value, (∃ u0, SlL u0 x.1 (if rdE lw ls cs most = 0 then (readL lw ls cs).take most.toNat else []) x.2) ∧ RetF w (.tuple #[x.1, .int .i64 (rdE lw ls cs most)]) (roL x.1 (if rdE lw ls cs most = 0 then (readL lw ls cs).take most.toNat else []) x.2) e w') := by
  refine enter Try.func40 rfl rfl (Nat.le_of_ble_eq_true rfl) ?_
  refine CS.seq ?_
  refine CS.region ?_
  refine WS.box rfl rfl (fun _ => rfl) ?_; intro b3 hb3 -- r0.0 ref.go:250
  refine WS.det rfl rfl rfl (det_assign rfl) rfl ?_ -- r0.1 ref.go:250
  refine WS.det rfl rfl rfl (det_assign rfl) rfl ?_ -- r0.2 ref.go:250
  refine WS.done ?_
  refine QS.then_code ?_
  refine CS.seq ?_
  refine CS.seq ?_
  refine CS.region ?_
  refine WS.det rfl rfl rfl ((by first | exact det_loadb0 (j := 0) rfl rfl tk23 | exact det_loadbN (j := 0) rfl rfl (by rfl) tk23 | exact det_loadwN rfl (by assumption) (by rfl) tk23 | exact det_loadbK (n := 2) (j := 0) rfl rfl rfl rfl tk23)) rfl ?_ -- r1.0 ref.go:251
  refine WS.det rfl rfl rfl (det_move rfl) rfl ?_ -- r1.1 ref.go:251
  refine WS.det rfl rfl rfl (det_callB rfl rfl ent33 (fun u hu => RCheckClues_c _ _ _ _ _ u (hk.st hu))) rfl ?_ -- r1.2 ref.go:251
  refine WS.det rfl rfl rfl (det_assign rfl) rfl ?_ -- r1.3 ref.go:251
  refine WS.done ?_
  refine QS.then_code ?_
  refine CS.seq ?_
  refine CS.region ?_
  refine WS.det rfl rfl rfl (det_move rfl) rfl ?_ -- r2.0 ref.go:251
  refine WS.det rfl rfl rfl (det_ne rfl rfl) rfl ?_ -- r2.1 ref.go:251
  refine WS.done ?_
  refine QS.then_code ?_
  refine CS.cond rfl (fun hc1 => ?_) (fun hc1 => ?_) <;> (try simp only [decide_eq_true_eq, decide_eq_false_iff_not, Bool.and_eq_true, Bool.or_eq_true, Bool.and_eq_false_iff, Bool.or_eq_false_iff, Bool.not_eq_true', Bool.not_eq_false', ne_eq, Decidable.not_not, Bool.not_true, Bool.not_false, bne_iff_ne, bne_eq_false_iff_eq, beq_iff_eq, beq_eq_false_iff_ne] at hc1)
  · skip
    refine CS.seq ?_
    refine CS.region ?_
    refine WS.det rfl rfl rfl (det_move rfl) rfl ?_ -- r3.0 ref.go:252
    refine WS.det rfl rfl rfl (det_assign rfl) rfl ?_ -- r3.1 ref.go:252
    refine WS.det rfl rfl rfl (det_assign rfl) rfl ?_ -- r3.2 ref.go:252
    refine WS.done ?_
    refine QS.then_code ?_
    refine CS.ret ?_
    refine QS.then_ret ?_
    exact out2 rfl rfl rfl (retLne (f := fun z => .tuple #[z, .int .i64 (rdE lw ls cs most)]) (by simp [rdE, hc1]) (by simp [rdE, hc1])) -- ret 1
  · skip
    have hL := cluesE_lock hc1
    have hC := cluesE_clue hc1
    refine CS.skip ?_
    refine QS.then_code ?_
    refine CS.seq ?_
    refine CS.seq ?_
    refine CS.region ?_
    refine WS.det rfl rfl rfl (det_move rfl) rfl ?_ -- r4.0 ref.go:254
    refine WS.det rfl rfl rfl (det_callB rfl rfl ent62 (fun u hu => Within_c _ _ _ u)) rfl ?_ -- r4.1 ref.go:254
    refine WS.det rfl rfl rfl (det_not rfl) rfl ?_ -- r4.2 ref.go:254
    refine WS.done ?_
    refine QS.then_code ?_
    refine CS.cond rfl (fun hc2 => ?_) (fun hc2 => ?_) <;> (try simp only [decide_eq_true_eq, decide_eq_false_iff_not, Bool.and_eq_true, Bool.or_eq_true, Bool.and_eq_false_iff, Bool.or_eq_false_iff, Bool.not_eq_true', Bool.not_eq_false', ne_eq, Decidable.not_not, Bool.not_true, Bool.not_false, bne_iff_ne, bne_eq_false_iff_eq, beq_iff_eq, beq_eq_false_iff_ne] at hc2)
    · skip
      refine CS.seq ?_
      refine CS.region ?_
      refine WS.det rfl rfl rfl (det_assign rfl) rfl ?_ -- r5.0 ref.go:255
      refine WS.det rfl rfl rfl (det_assign rfl) rfl ?_ -- r5.1 ref.go:255
      refine WS.done ?_
      refine QS.then_code ?_
      refine CS.ret ?_
      refine QS.then_ret ?_
      exact out2 rfl rfl rfl (retLne (f := fun z => .tuple #[z, .int .i64 (rdE lw ls cs most)]) (by simp [rdE, hc1, hc2]) (by simp [rdE, hc1, hc2])) -- ret 2
    · skip
      have hwi := hc2
      simp only [within, Bool.and_eq_true, decide_eq_true_eq] at hwi
      have hre : rdE lw ls cs most = 0 := by simp [rdE, hc1, hc2]
      refine CS.skip ?_
      refine QS.then_code ?_
      refine CS.seq ?_
      refine CS.region ?_
      refine WS.det rfl rfl rfl ((by first | exact det_loadb0 (j := 0) rfl rfl tk23 | exact det_loadbN (j := 0) rfl rfl (by rfl) tk23 | exact det_loadwN rfl (by assumption) (by rfl) tk23 | exact det_loadbK (n := 2) (j := 0) rfl rfl rfl rfl tk23)) rfl ?_ -- r6.0 ref.go:257
      refine WS.det rfl rfl rfl (det_move rfl) rfl ?_ -- r6.1 ref.go:257
      refine WS.callF rfl rfl ent69 (fun u hu => RAll_c _ _ _ _ _ u hL hC (hk.st hu)) (fun _ => rfl) ?_; rintro ⟨va, ga⟩ ⟨ua, hva⟩ -- r6.2 ref.go:257
      refine WS.det rfl rfl rfl (det_assign rfl) rfl ?_ -- r6.3 ref.go:257
      refine WS.done ?_
      refine QS.then_code ?_
      refine CS.seq ?_
      refine CS.region ?_
      refine WS.det rfl rfl rfl (det_move rfl) rfl ?_ -- r7.0 ref.go:258
      refine WS.det rfl rfl rfl (det_move rfl) rfl ?_ -- r7.1 ref.go:258
      refine WS.det rfl rfl rfl ((by first | exact det_lenS sl51 rfl (by assumption) | exact det_lenS sl51 rfl (by first | exact SlL.sp (by assumption) | exact ClS.sp (by assumption)) | exact det_lenO sl51 rfl | exact det_lenV sl51 rfl ⟨_, _, rfl⟩)) rfl ?_ -- r7.2 ref.go:258
      refine WS.det rfl rfl rfl (det_move rfl) rfl ?_ -- r7.3 ref.go:258
      refine WS.det rfl rfl rfl (det_min rfl rfl) rfl ?_ -- r7.4 ref.go:258
      refine WS.det rfl rfl rfl (det_slTo sl51 rfl rfl (by first | assumption | exact SlL.sp (by assumption) | exact ClS.sp (by assumption)) (by omega) (by omega)) rfl ?_ -- r7.5 ref.go:258
      refine WS.det rfl rfl rfl (det_assign rfl) rfl ?_ -- r7.6 ref.go:258
      refine WS.det rfl rfl rfl (det_assign rfl) rfl ?_ -- r7.7 ref.go:258
      refine WS.done ?_
      refine QS.then_code ?_
      refine CS.ret ?_
      exact out2 rfl rfl rfl (retLp (f := fun z => .tuple #[z, .int .i64 (rdE lw ls cs most)]) (gs := (ga.drop 0).take ((min ((readL lw ls cs).length : Int) most).toNat - 0)) (fun S u hs => by
              have h1 := SlL.sub2 (Star.ro (j := 0) rfl hs : SlL u va (readL lw ls cs) ga) (lo := 0) (hi := (min ((readL lw ls cs).length : Int) most).toNat) (by omega) (by omega)
              have e : (if rdE lw ls cs most = 0 then (readL lw ls cs).take most.toNat else []) = ((readL lw ls cs).drop 0).take ((min ((readL lw ls cs).length : Int) most).toNat - 0) := by
                rw [if_pos hre, List.drop_zero, Nat.sub_zero]
                rcases Int.le_total ((readL lw ls cs).length : Int) most with h | h
                · rw [take_short h, Int.min_eq_left h, take_short (Int.le_refl _)]
                · rw [Int.min_eq_right h]
              rw [e]; exact h1) (by rw [hre])) -- ret 3

theorem sameLists_c (xss yss : List (List Int)) (gs hs : List Value) (v1 v2 : Value) (w : World) (h1 : SlL w v1 xss gs) (h2 : SlL w v2 yss hs) :
    Calls Try.prog 41 #[v1, v2] w (RetB w (.bool (decide (xss = yss)))) := by
  have hl1 := h1.le
  have hl2 := h2.le
  refine enter Try.func41 rfl rfl (Nat.le_of_ble_eq_true rfl) ?_
  refine CS.seq ?_
  refine CS.region ?_
  refine WS.det rfl rfl rfl (det_assign rfl) rfl ?_ -- r0.0 law.go:20
  refine WS.done ?_
  refine QS.then_code ?_
  refine CS.seq ?_
  refine CS.seq ?_
  refine CS.region ?_
  refine WS.det rfl rfl rfl (det_move rfl) rfl ?_ -- r1.0 law.go:21
  refine WS.det rfl rfl rfl ((by first | exact det_lenS sl51 rfl (by assumption) | exact det_lenS sl51 rfl (by first | exact SlL.sp (by assumption) | exact ClS.sp (by assumption)) | exact det_lenO sl51 rfl | exact det_lenV sl51 rfl ⟨_, _, rfl⟩)) rfl ?_ -- r1.1 law.go:21
  refine WS.det rfl rfl rfl (det_move rfl) rfl ?_ -- r1.2 law.go:21
  refine WS.det rfl rfl rfl ((by first | exact det_lenS sl51 rfl (by assumption) | exact det_lenS sl51 rfl (by first | exact SlL.sp (by assumption) | exact ClS.sp (by assumption)) | exact det_lenO sl51 rfl | exact det_lenV sl51 rfl ⟨_, _, rfl⟩)) rfl ?_ -- r1.3 law.go:21
  refine WS.det rfl rfl rfl (det_ne rfl rfl) rfl ?_ -- r1.4 law.go:21
  refine WS.done ?_
  refine QS.then_code ?_
  refine CS.cond rfl (fun hc1 => ?_) (fun hc1 => ?_) <;> (try simp only [decide_eq_true_eq, decide_eq_false_iff_not, Bool.and_eq_true, Bool.or_eq_true, Bool.and_eq_false_iff, Bool.or_eq_false_iff, Bool.not_eq_true', Bool.not_eq_false', ne_eq, Decidable.not_not, Bool.not_true, Bool.not_false, bne_iff_ne, bne_eq_false_iff_eq, beq_iff_eq, beq_eq_false_iff_ne] at hc1)
  · skip
    refine CS.seq ?_
    refine CS.region ?_
    refine WS.det rfl rfl rfl (det_assign rfl) rfl ?_ -- r2.0 law.go:22
    refine WS.done ?_
    refine QS.then_code ?_
    refine CS.ret ?_
    refine QS.then_ret ?_
    exact out1 rfl rfl (retBe (bool_f fun h => by subst h; omega)) -- ret 1
  · skip
    refine CS.skip ?_
    refine QS.then_code ?_
    refine CS.seq ?_
    refine CS.seq ?_
    refine CS.region ?_
    refine WS.det rfl rfl rfl (det_assign rfl) rfl ?_ -- r3.0 law.go:24
    refine WS.done ?_
    refine QS.then_code ?_
    refine CS.block ?_
    refine CS.loopM (σ := Int) [4, 11, 12, 13, 14, 15, 16, 17, 18, 19, 20, 21, 22, 23, 24, 25, 26] (fun s => [(5, .int .i64 s)]) (fun _ => _) (fun s => 0 ≤ s ∧ s ≤ xss.length ∧ xss.length = yss.length ∧ ∀ j : Int, 0 ≤ j → j < s → nth xss j = nth yss j) (fun s => (xss.length - s).toNat) 0 (fun _ _ => rfl) rfl rfl ⟨by omega, by omega, by omega, fun j h1 h2 => by omega⟩ ?_
    intro s t hs
    obtain ⟨hs1, hs2, hs3, hs4⟩ := hs
    refine CS.seq ?_
    refine CS.seq ?_
    refine CS.region ?_
    refine WS.det rfl rfl rfl (det_move rfl) rfl ?_ -- r4.0 law.go:24
    refine WS.det rfl rfl rfl (det_move rfl) rfl ?_ -- r4.1 law.go:24
    refine WS.det rfl rfl rfl ((by first | exact det_lenS sl51 rfl (by assumption) | exact det_lenS sl51 rfl (by first | exact SlL.sp (by assumption) | exact ClS.sp (by assumption)) | exact det_lenO sl51 rfl | exact det_lenV sl51 rfl ⟨_, _, rfl⟩)) rfl ?_ -- r4.2 law.go:24
    refine WS.det rfl rfl rfl (det_lt rfl rfl) rfl ?_ -- r4.3 law.go:24
    refine WS.done ?_
    refine QS.then_code ?_
    refine CS.cond rfl (fun hc2 => ?_) (fun hc2 => ?_) <;> (try simp only [decide_eq_true_eq, decide_eq_false_iff_not, Bool.and_eq_true, Bool.or_eq_true, Bool.and_eq_false_iff, Bool.or_eq_false_iff, Bool.not_eq_true', Bool.not_eq_false', ne_eq, Decidable.not_not, Bool.not_true, Bool.not_false, bne_iff_ne, bne_eq_false_iff_eq, beq_iff_eq, beq_eq_false_iff_ne] at hc2)
    · skip
      refine CS.skip ?_
      refine QS.then_code ?_
      refine CS.seq ?_
      refine CS.block ?_
      refine CS.seq ?_
      refine CS.draw mixed (by kernel_rfl) (by kernel_rfl) ?_
      refine DS.det rfl rfl (det_move rfl) rfl ?_ -- r6.0 law.go:25
      refine DS.det rfl rfl (det_move rfl) rfl ?_ -- r6.1 law.go:25
      refine DS.det rfl rfl ((by first | exact det_idxL sl51 rfl rfl (by assumption) (by omega) (by omega) | exact det_idxO sl51 rfl rfl (by omega) (by omega))) rfl ?_ -- r6.2 law.go:25
      refine DS.det rfl rfl ((by first | exact det_ldL rfl (by assumption) (by omega) tk24 | exact det_loadb (j := 0) rfl rfl rfl tk24 | exact det_loadb (j := 1) rfl rfl rfl tk24 | exact det_loadb (j := 2) rfl rfl rfl tk24 | exact det_loadb (j := 3) rfl rfl rfl tk24 | exact det_loadw rfl (by assumption) rfl tk24)) rfl ?_ -- r6.3 law.go:25
      refine DS.det rfl rfl (det_move rfl) rfl ?_ -- r6.4 law.go:25
      refine DS.det rfl rfl (det_move rfl) rfl ?_ -- r6.5 law.go:25
      refine DS.det rfl rfl ((by first | exact det_idxL sl51 rfl rfl (by assumption) (by omega) (by omega) | exact det_idxO sl51 rfl rfl (by omega) (by omega))) rfl ?_ -- r6.6 law.go:25
      refine DS.det rfl rfl ((by first | exact det_ldL rfl (by assumption) (by omega) tk24 | exact det_loadb (j := 0) rfl rfl rfl tk24 | exact det_loadb (j := 1) rfl rfl rfl tk24 | exact det_loadb (j := 2) rfl rfl rfl tk24 | exact det_loadb (j := 3) rfl rfl rfl tk24 | exact det_loadw rfl (by assumption) rfl tk24)) rfl ?_ -- r6.7 law.go:25
      refine DS.det rfl rfl (det_callB rfl rfl ent20 (fun u hu => SameInts_c _ _ _ _ u ((h1.st hu).el s (by omega) (by omega)) ((h2.st hu).el s (by omega) (by omega)))) rfl ?_ -- r6.8 law.go:25
      refine DS.det rfl rfl (det_not rfl) rfl ?_ -- r6.9 law.go:25
      refine DS.done ?_
      refine QS.then_code ?_
      refine CS.cond rfl (fun hc3 => ?_) (fun hc3 => ?_) <;> (try simp only [decide_eq_true_eq, decide_eq_false_iff_not, Bool.and_eq_true, Bool.or_eq_true, Bool.and_eq_false_iff, Bool.or_eq_false_iff, Bool.not_eq_true', Bool.not_eq_false', ne_eq, Decidable.not_not, Bool.not_true, Bool.not_false, bne_iff_ne, bne_eq_false_iff_eq, beq_iff_eq, beq_eq_false_iff_ne] at hc3)
      · skip
        refine CS.seq ?_
        refine CS.region ?_
        refine WS.det rfl rfl rfl (det_assign rfl) rfl ?_ -- r7.0 law.go:26
        refine WS.done ?_
        refine QS.then_code ?_
        refine CS.ret ?_
        refine QS.block_ret ?_
        refine QS.then_ret ?_
        refine QS.then_ret ?_
        refine QS.block_ret ?_
        refine QS.then_ret ?_
        exact out1 rfl rfl (retBe (bool_f (nth_ne hc3))) -- ret 2
      · skip
        refine CS.skip ?_
        refine QS.block_normal ?_
        refine QS.then_code ?_
        refine CS.region ?_
        refine WS.det rfl rfl rfl (det_move rfl) rfl ?_ -- r5.0 law.go:24
        refine WS.det rfl rfl rfl (det_add rfl rfl (by omega)) rfl ?_ -- r5.1 law.go:24
        refine WS.det rfl rfl rfl (det_assign rfl) rfl ?_ -- r5.2 law.go:24
        refine WS.done ?_
        exact QS.head (s + 1) rfl rfl ⟨⟨by omega, by omega, hs3, fun j h1 h2 => if hj : j = s then by rw [hj]; simpa using hc3 else hs4 j h1 (by omega)⟩, by omega⟩
    · skip
      refine CS.leave ?_
      refine QS.then_exit ?_
      refine QS.then_exit ?_
      refine QS.block_exit ?_
      refine QS.then_code ?_
      refine CS.seq ?_
      refine CS.region ?_
      refine WS.det rfl rfl rfl (det_assign rfl) rfl ?_ -- r8.0 law.go:29
      refine WS.done ?_
      refine QS.then_code ?_
      refine CS.ret ?_
      exact out1 rfl rfl (retBe (bool_t (nth_extG hs3 fun i h1 h2 => hs4 i h1 (by omega)))) -- ret 3

end Go.Proofs.Ytldagbcceefcdaa
