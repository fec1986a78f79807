/- Contracts of functions, printed by a program of the prover (gen.py). -/
import Derived.Test.YtldagbcceefcdaaC10
import Derived.Test.YtldagbcceefcdaaRo
import Derived.Test.YtldagbcceefcdaaCore
import Derived.Test.YtldagbcceefcdaaFactsB
namespace Go.Proofs.Ytldagbcceefcdaa
open Go.RowKit Go.Proofs
set_option maxRecDepth 100000
set_option linter.unusedVariables false
set_option linter.unusedSimpArgs false

theorem CloneI_c (xs : List Int) (v : Value) (w : World) (h1 : SlI w v xs) (hm : xs.length ≤ 1000000) :
    Calls Try.prog 68 #[v] w (fun e w' => ∃ v' : Value, v'.oneCell' = true ∧ RetF w v' (oints 3 v' xs) e w') := by
  obtain ⟨hl, p, cap, rfl, hcap, hp⟩ := h1
  have h1 : SlI w (.slice p xs.length cap) xs := ⟨hl, p, cap, rfl, hcap, hp⟩
  clear hl hcap hp
  refine enter Try.func68 rfl rfl (Nat.le_of_ble_eq_true rfl) ?_
  refine CS.seq ?_
  refine CS.region ?_
  refine WS.det rfl rfl rfl (det_assign rfl) rfl ?_ -- r0.0 slices.go:355
  refine WS.done ?_
  refine QS.then_code ?_
  refine CS.seq ?_
  refine CS.seq ?_
  refine CS.region ?_
  refine WS.det rfl rfl rfl (det_move rfl) rfl ?_ -- r1.0 slices.go:357
  refine WS.det rfl rfl rfl (det_eqnil sl24 rfl rfl) rfl ?_ -- r1.1 slices.go:357
  refine WS.done ?_
  refine QS.then_code ?_
  refine CS.cond rfl (fun hc1 => ?_) (fun hc1 => ?_) <;> (try simp only [decide_eq_true_eq, decide_eq_false_iff_not, Bool.and_eq_true, Bool.or_eq_true, Bool.and_eq_false_iff, Bool.or_eq_false_iff, Bool.not_eq_true', Bool.not_eq_false', ne_eq, Decidable.not_not, Bool.not_true, Bool.not_false, bne_iff_ne, bne_eq_false_iff_eq, beq_iff_eq, beq_eq_false_iff_ne] at hc1)
  · skip
    have hx0 : xs = [] := by
      have : p = none := by simpa using hc1
      subst this
      exact List.eq_nil_of_length_eq_zero (SlC.nil h1)
    subst hx0
    refine CS.seq ?_
    refine CS.region ?_
    refine WS.det rfl rfl rfl (det_assign rfl) rfl ?_ -- r2.0 slices.go:358
    refine WS.done ?_
    refine QS.then_code ?_
    refine CS.ret ?_
    refine QS.then_ret ?_
    exact out1 rfl rfl (fun u hu => ⟨_, rfl, retF (j := 0) rfl u hu.osl0⟩) -- ret 1
  · skip
    refine CS.skip ?_
    refine QS.then_code ?_
    refine CS.seq ?_
    refine CS.region ?_
    refine WS.buildSlice1 sl24 zv3 (vs := []) rfl rfl (by decide) (by simp) (fun _ => rfl) ?_; intro v5 -- r3.0 slices.go:362
    refine WS.det rfl rfl rfl (det_move rfl) rfl ?_ -- r3.1 slices.go:362
    refine WS.appendI (j := 0) (xs := []) (ys := xs) sl24 zv3 rfl rfl rfl (fun u hu => h1.st hu) (by simp; omega) (by simp; omega) (fun _ => rfl) (fun _ => rfl) ?_; intro v7; refine WS.oc (j := 0) rfl (fun hv7 => ?_) -- r3.2 slices.go:362
    refine WS.det rfl rfl rfl (det_assign rfl) rfl ?_ -- r3.3 slices.go:362
    refine WS.done ?_
    refine QS.then_code ?_
    refine CS.ret ?_
    exact out1 rfl rfl (fun u hu => ⟨v7, hv7, retF (j := 0) rfl u hu⟩) -- ret 2

theorem all_c (lw ls : Int) (cs : List Clue) (gs : List Value) (cv : Value) (w : World) (hL : lockB lw ls = true) (hC : ∀ c ∈ cs, clueB lw ls c = true) (hk : ClS w cv cs gs) :
    Calls Try.prog 71 #[.agg #[.int .i64 lw, .int .i64 ls], cv] w (fun e w' => ∃ x : Value × List Value, (∃ u0, SlL u0 x.1 (readL lw ls cs) x.2) ∧ RetF w x.1 (roL x.1 (readL lw ls cs) x.2) e w') := by
  refine enterM St.nil Try.func71 rfl rfl (Nat.le_of_ble_eq_true rfl) ?_
  refine CS.seq ?_
  refine CS.region ?_
  refine WS.box rfl rfl (fun _ => rfl) ?_; intro b2 hb2 -- r0.0 codes.go:228
  refine WS.alloc zv51 (fun _ => rfl) ?_; intro b4 hb4 -- r0.1 codes.go:228
  refine WS.done ?_
  refine QS.then_code ?_
  refine CS.seq ?_
  refine CS.seq ?_
  refine CS.region ?_
  refine WS.det rfl rfl rfl ((by first | exact det_loadb0 (j := 1) rfl rfl tk77 | exact det_loadbN (j := 1) rfl rfl (by rfl) tk77 | exact det_loadwN rfl (by assumption) (by rfl) tk77 | exact det_loadbK (n := 2) (j := 1) rfl rfl rfl rfl tk77)) rfl ?_ -- r1.0 codes.go:229
  refine WS.det rfl rfl rfl (det_move rfl) rfl ?_ -- r1.1 codes.go:229
  refine WS.callF rfl rfl ent67 (fun u hu => readings_c _ _ _ _ _ u (hk.st hu)) (fun _ => rfl) ?_; intro br _; refine WS.unpack ?_ -- r1.2 codes.go:229
  refine WS.done ?_
  refine QS.then_code ?_
  refine CS.block ?_
  refine CS.sel [2, 2, 0, 0] rfl ?_
  refine CS.weak (L' := [exS fun q : Value => exS fun ps : List (Value × List Int) => star [blk b4 [q] 51, osl 24 1 q (ps.map (·.1)).length (ps.map (·.1)), star (loi 3 ps), fact (ps.map (·.2) = [])], blk b2 [.int .i64 lw, .int .i64 ls] 77] ++ [blk br.1 [.int .i64 lw, .int .i64 ls] 77, blk br.2 [cv] 31]) (fun u hu => St.exI (Value.slice none 0 0) (St.exI [] (St.pack (L1 := [_, _, _, _]) (((hu.oll0 (te := 24) (e := 3)).factI (p := (List.map (·.2) ([] : List (Value × List Int))) = []) rfl).sel [3, 1, 1, 0, 0, 0, 0] rfl)))) ?_
  refine CS.rangeA (A := [blk br.1 [.int .i64 lw, .int .i64 ls] 77, blk br.2 [cv] 31]) rfl ent92 (readingsI_c lw ls cs gs cv w br.1 br.2 hL hk hC) (fun pre => [exS fun q : Value => exS fun ps : List (Value × List Int) => star [blk b4 [q] 51, osl 24 1 q (ps.map (·.1)).length (ps.map (·.1)), star (loi 3 ps), fact (ps.map (·.2) = pre)], blk b2 [.int .i64 lw, .int .i64 ls] 77]) (fun kd pre => match kd with | _ => [fact False]) (fun _ => rfl) (Nat.le_of_ble_eq_true rfl) (fun _ => rfl) ?_ ?_ ?_
  · intro lr pre x post v F hall
    have hx := (readL_mem hL (show x ∈ readL lw ls cs by rw [hall]; simp)).1
    have hx4 := (code_ten hL hx).1
    have hb := readL_le hL cs
    rw [hall] at hb
    simp at hb
    refine CS.sel [1, 0, 0, 0] rfl ?_
    refine CS.ex ?_; intro q
    refine CS.ex ?_; intro ps
    refine CS.unpack ?_
    refine CS.factE (j := 3) rfl (fun hq => ?_)
    have hpl := snd_len hq
    refine CS.sel [1, 1, 0, 1, 1, 1] rfl ?_
    refine CS.block ?_
    refine CS.drawnTill 4 (k := 6) mixed rfl rfl ?_
    refine AT.take 0 rfl (by kernel_rfl) (na := 6) (by kernel_rfl) rfl (by kernel_rfl) (by kernel_rfl) (by kernel_rfl) rfl rfl ((by first | exact det_loadb (j := 2) rfl rfl rfl tk51 | exact det_loadw rfl (by assumption) rfl tk51)) rfl rfl ?_ -- r3.0 codes.go:230
    refine AT.take 1 rfl (by kernel_rfl) (na := 6) (by kernel_rfl) rfl (by kernel_rfl) (by kernel_rfl) (by kernel_rfl) rfl rfl (det_move rfl) rfl rfl ?_ -- r3.1 codes.go:230
    refine AT.one (i := 2) (by kernel_rfl) rfl (by first | (intro h; exact absurd h (by decide)) | exact fun _ _ h => h | exact fun _ _ h => h.sub (by repeat first | exact List.Sublist.refl _ | apply List.Sublist.cons_cons | apply List.Sublist.cons)) rfl ?_
    refine WS.callF rfl rfl ent68 (fun u hu => CloneI_c x v u (oints_SlI hu (j := 3) rfl) (by omega)) (fun _ => rfl) ?_; intro v12 hv12 -- r3.2 codes.go:230
    refine WS.done ?_
    refine QS.then_AT ?_
    refine AT.one (i := 3) (by kernel_rfl) rfl (by first | (intro h; exact absurd h (by decide)) | exact fun _ _ h => h | exact fun _ _ h => h.sub (by repeat first | exact List.Sublist.refl _ | apply List.Sublist.cons_cons | apply List.Sublist.cons)) rfl ?_
    refine WS.buildV1 sl51 zv24 rfl (by first | rfl | assumption) (fun _ => rfl) ?_; intro v13 -- r3.3 codes.go:230
    refine WS.done ?_
    refine QS.then_AT ?_
    refine AT.one (i := 4) (by kernel_rfl) rfl (by first | (intro h; exact absurd h (by decide)) | exact fun _ _ h => h | exact fun _ _ h => h.sub (by repeat first | exact List.Sublist.refl _ | apply List.Sublist.cons_cons | apply List.Sublist.cons)) rfl ?_
    refine WS.append1 (j := 2) (jz := 0) sl51 zv24 rfl rfl rfl rfl (by first | rfl | assumption) (by first | omega | (simp; omega) | (simp only [List.length_append, List.length_singleton, List.length_map, List.length_cons, List.length_nil] at *; omega)) (by first | omega | (simp; omega) | (simp only [List.length_append, List.length_singleton, List.length_map, List.length_cons, List.length_nil] at *; omega)) (fun _ => rfl) (fun _ => rfl) ?_; intro v14; refine WS.oc (j := 2) rfl (fun hv14 => ?_) -- r3.4 codes.go:230
    refine WS.done ?_
    refine QS.then_AT ?_
    refine AT.one (i := 5) (by kernel_rfl) rfl (by first | (intro h; exact absurd h (by decide)) | exact fun _ _ h => h | exact fun _ _ h => h.sub (by repeat first | exact List.Sublist.refl _ | apply List.Sublist.cons_cons | apply List.Sublist.cons)) rfl ?_
    first | refine WS.store (j := 4) rfl rfl (by first | decide | omega | (simp; done) | (simp; omega)) rfl (by first | rfl | assumption) tk51 rfl rfl ?_ | refine WS.store (j := 4) rfl rfl (by first | decide | omega | (simp; done) | (simp; omega)) rfl (by first | rfl | assumption) tk51 (lset_eq _ _ _) rfl ?_ -- r3.5 codes.go:230
    refine WS.done ?_
    refine QS.then_AT ?_
    refine AT.done (by kernel_rfl) (by first | (intro h; exact absurd h (by decide)) | exact fun _ _ h => h | exact fun _ _ h => h.sub (by repeat first | exact List.Sublist.refl _ | apply List.Sublist.cons_cons | apply List.Sublist.cons)) ?_
    refine QS.block_normal ?_
    refine QS.sel [2, 2, 1, 1, 1, 1, 1] rfl ?_
    exact fun u hu => by
      simp only [roundQ]
      have h1 := hu.ollSnoc.factI (snd_snoc (a := v12) (x := x) hq)
      have h2 := h1.sel [3, 1, 1, 0, 0, 0, 0] rfl
      refine St.perm ?_ (List.Perm.swap _ _ _)
      exact St.exI v14 (St.exI _ (St.pack (L1 := [_, _, _, _]) h2))
  · intro D
    refine QS.sel [1, 0, 0, 0, 0] rfl ?_
    refine QS.ex ?_; intro q
    refine QS.ex ?_; intro ps
    refine QS.unpack ?_
    refine QS.factE (j := 3) rfl (fun hq => ?_)
    refine QS.sel [1, 1, 0, 1, 1, 1, 1] rfl ?_
    refine QS.oc (j := 0) rfl (fun hqv => ?_)
    refine QS.block_normal ?_
    refine QS.then_code ?_
    refine CS.seq ?_
    refine CS.region ?_
    refine WS.det rfl rfl rfl ((by first | exact det_loadb (j := 2) rfl rfl rfl tk51 | exact det_loadw rfl (by assumption) rfl tk51)) rfl ?_ -- r4.0 codes.go:232
    first | refine WS.store (j := 2) rfl rfl (by first | decide | omega | (simp; done) | (simp; omega)) rfl (by first | rfl | assumption) tk51 rfl rfl ?_ | refine WS.store (j := 2) rfl rfl (by first | decide | omega | (simp; done) | (simp; omega)) rfl (by first | rfl | assumption) tk51 (lset_eq _ _ _) rfl ?_ -- r4.1 codes.go:232
    refine WS.done ?_
    refine QS.then_code ?_
    refine CS.ret ?_
    exact outM (j := 3) (Or.inl rfl) rfl (resc rfl (cell_rv (j := 2) rfl rfl rfl tk51)) (retL (f := id) hq) -- ret 1
  · intro D kd pre x post hall
    cases kd with
    | _ => exact fun u hu => (hu.factE (j := 1) rfl).elim

theorem RAll_c (lw ls : Int) (cs : List Clue) (gs : List Value) (cv : Value) (w : World) (hL : lockB lw ls = true) (hC : ∀ c ∈ cs, clueB lw ls c = true) (hk : ClS w cv cs gs) :
    Calls Try.prog 69 #[.agg #[.int .i64 lw, .int .i64 ls], cv] w (fun e w' => ∃ x : Value × List Value, (∃ u0, SlL u0 x.1 (readL lw ls cs) x.2) ∧ RetF w x.1 (roL x.1 (readL lw ls cs) x.2) e w') := by
  have hl := lock_of hL
  have hmc := manyC_le hL
  refine enter Try.func69 rfl rfl (Nat.le_of_ble_eq_true rfl) ?_
  refine CS.seq ?_
  refine CS.region ?_
  refine WS.box rfl rfl (fun _ => rfl) ?_; intro b2 hb2 -- r0.0 ref.go:221
  refine WS.det rfl rfl rfl (det_assign rfl) rfl ?_ -- r0.1 ref.go:221
  refine WS.done ?_
  refine QS.then_code ?_
  refine CS.seq ?_
  refine CS.region ?_
  refine WS.det rfl rfl rfl (det_assign rfl) rfl ?_ -- r1.0 ref.go:222
  refine WS.done ?_
  refine QS.then_code ?_
  refine CS.seq ?_
  refine CS.seq ?_
  refine CS.region ?_
  refine WS.det rfl rfl rfl (det_assign rfl) rfl ?_ -- r2.0 ref.go:223
  refine WS.done ?_
  refine QS.then_code ?_
  refine CS.block ?_
  refine CS.loopM (σ := Int × Int) [12, 13, 14, 15, 16, 17, 18, 19, 20, 21] (fun s => [(5, .int .i64 s.2), (6, .int .i64 s.1)]) (fun _ => _) (fun s => 0 ≤ s.1 ∧ s.1 ≤ lw ∧ s.2 = ls ^ s.1.toNat) (fun s => (lw - s.1).toNat) (0, 1) (fun _ _ => rfl) rfl rfl ⟨by simp, by simp; omega, by simp⟩ ?_
  intro s t hs
  obtain ⟨hs1, hs2, hs3⟩ := hs
  refine CS.seq ?_
  refine CS.seq ?_
  refine CS.region ?_
  refine WS.det rfl rfl rfl (det_move rfl) rfl ?_ -- r3.0 ref.go:223
  refine WS.det rfl rfl rfl ((by first | exact det_fieldAddr rfl fo23_0 | exact det_fieldAddrS rfl fo23_0)) rfl ?_ -- r3.1 ref.go:223
  refine WS.det rfl rfl rfl ((by first | exact det_loadb (j := 0) rfl rfl rfl tk3 | exact det_loadw rfl (by assumption) rfl tk3)) rfl ?_ -- r3.2 ref.go:223
  refine WS.det rfl rfl rfl (det_lt rfl rfl) rfl ?_ -- r3.3 ref.go:223
  refine WS.done ?_
  refine QS.then_code ?_
  refine CS.cond rfl (fun hc1 => ?_) (fun hc1 => ?_) <;> (try simp only [decide_eq_true_eq, decide_eq_false_iff_not, Bool.and_eq_true, Bool.or_eq_true, Bool.and_eq_false_iff, Bool.or_eq_false_iff, Bool.not_eq_true', Bool.not_eq_false', ne_eq, Decidable.not_not, Bool.not_true, Bool.not_false, bne_iff_ne, bne_eq_false_iff_eq, beq_iff_eq, beq_eq_false_iff_ne] at hc1)
  · skip
    have hb2 := pow_bd4 hl.2.2.1 hl.2.2.2 (k := (s.1 + 1).toNat) (by omega)
    rw [pow_next hs1, ← hs3] at hb2
    refine CS.skip ?_
    refine QS.then_code ?_
    refine CS.seq ?_
    refine CS.block ?_
    refine CS.region ?_
    refine WS.det rfl rfl rfl (det_move rfl) rfl ?_ -- r5.0 ref.go:224
    refine WS.det rfl rfl rfl ((by first | exact det_fieldAddr rfl fo23_1 | exact det_fieldAddrS rfl fo23_1)) rfl ?_ -- r5.1 ref.go:224
    refine WS.det rfl rfl rfl ((by first | exact det_loadb (j := 0) rfl rfl rfl tk3 | exact det_loadw rfl (by assumption) rfl tk3)) rfl ?_ -- r5.2 ref.go:224
    refine WS.det rfl rfl rfl (det_mul rfl rfl (by omega)) rfl ?_ -- r5.3 ref.go:224
    refine WS.det rfl rfl rfl (det_assign rfl) rfl ?_ -- r5.4 ref.go:224
    refine WS.done ?_
    refine QS.block_normal ?_
    refine QS.then_code ?_
    refine CS.region ?_
    refine WS.det rfl rfl rfl (det_move rfl) rfl ?_ -- r4.0 ref.go:223
    refine WS.det rfl rfl rfl (det_add rfl rfl (by omega)) rfl ?_ -- r4.1 ref.go:223
    refine WS.det rfl rfl rfl (det_assign rfl) rfl ?_ -- r4.2 ref.go:223
    refine WS.done ?_
    exact QS.head ((s.1 + 1, s.2 * ls)) rfl rfl ⟨⟨by simp; omega, by simp; omega, by simp only; rw [pow_next hs1, hs3]⟩, by simp; omega⟩
  · skip
    have he : s.1 = lw := by omega
    rw [he, ← manyC_pow hl.2.2.1] at hs3
    refine CS.leave ?_
    refine QS.then_exit ?_
    refine QS.then_exit ?_
    refine QS.block_exit ?_
    refine QS.then_code ?_
    refine CS.seq ?_
    refine CS.region ?_
    refine WS.det rfl rfl rfl (det_assign rfl) rfl ?_ -- r6.0 ref.go:226
    refine WS.done ?_
    refine QS.then_code ?_
    refine CS.seq ?_
    refine CS.seq ?_
    refine CS.region ?_
    refine WS.det rfl rfl rfl (det_assign rfl) rfl ?_ -- r7.0 ref.go:227
    refine WS.done ?_
    refine QS.then_code ?_
    refine CS.block ?_
    refine CS.weak (fun u hu => hu.oll0 (te := 24) (e := 3)) ?_
    refine CS.loopM (σ := Int × Value × List (Value × List Int)) [9, 10, 11, 22, 23, 24, 25, 26, 27, 28, 29, 30, 31, 32, 33, 34, 35, 36, 37, 38, 39, 40, 41, 42, 43, 44, 45, 46, 47, 48, 49, 50, 51, 52, 53, 54, 55, 56] (fun s => [(7, s.2.1), (8, .int .i64 s.1)]) (fun s => [osl 24 1 s.2.1 (s.2.2.map (·.1)).length (s.2.2.map (·.1)), star (loi 3 s.2.2), blk b2 [.int .i64 lw, .int .i64 ls] 23]) (fun s => 0 ≤ s.1 ∧ s.1 ≤ manyC lw ls ∧ s.2.2.map (·.2) = readTo lw ls cs s.1.toNat) (fun s => manyC lw ls - s.1.toNat) (0, .slice none 0 0, []) (fun _ _ => rfl) rfl rfl ⟨by simp, by simp, by simp [readTo]⟩ ?_
    intro r t hs
    obtain ⟨hr1, hr2, hr3⟩ := hs
    have hpl := snd_len hr3
    have hpl2 := readTo_len (w := lw) (s := ls) (cs := cs) (n := r.1.toNat)
    have e1 : (r.1 + 1).toNat = r.1.toNat + 1 := by omega
    refine CS.seq ?_
    refine CS.seq ?_
    refine CS.region ?_
    refine WS.det rfl rfl rfl (det_move rfl) rfl ?_ -- r8.0 ref.go:227
    refine WS.det rfl rfl rfl (det_move rfl) rfl ?_ -- r8.1 ref.go:227
    refine WS.det rfl rfl rfl (det_lt rfl rfl) rfl ?_ -- r8.2 ref.go:227
    refine WS.done ?_
    refine QS.then_code ?_
    refine CS.cond rfl (fun hc2 => ?_) (fun hc2 => ?_) <;> (try simp only [decide_eq_true_eq, decide_eq_false_iff_not, Bool.and_eq_true, Bool.or_eq_true, Bool.and_eq_false_iff, Bool.or_eq_false_iff, Bool.not_eq_true', Bool.not_eq_false', ne_eq, Decidable.not_not, Bool.not_true, Bool.not_false, bne_iff_ne, bne_eq_false_iff_eq, beq_iff_eq, beq_eq_false_iff_ne] at hc2)
    · skip
      refine CS.skip ?_
      refine QS.then_code ?_
      refine CS.seq ?_
      refine CS.block ?_
      refine CS.seq ?_
      refine CS.region ?_
      refine WS.det rfl rfl rfl ((by first | exact det_fieldAddr rfl fo23_0 | exact det_fieldAddrS rfl fo23_0)) rfl ?_ -- r10.0 ref.go:228
      refine WS.det rfl rfl rfl ((by first | exact det_loadb (j := 2) rfl rfl rfl tk3 | exact det_loadw rfl (by assumption) rfl tk3)) rfl ?_ -- r10.1 ref.go:228
      refine WS.makeInts sl24 rfl rfl zv3 (by omega) (by omega) (by omega) (fun _ => rfl) ?_; intro v29; refine WS.oc (j := 0) rfl (fun hv29 => ?_) -- r10.2 ref.go:228
      refine WS.det rfl rfl rfl (det_assign rfl) rfl ?_ -- r10.3 ref.go:228
      refine WS.done ?_
      refine QS.then_code ?_
      refine CS.seq ?_
      refine CS.region ?_
      refine WS.det rfl rfl rfl (det_move rfl) rfl ?_ -- r11.0 ref.go:229
      refine WS.det rfl rfl rfl (det_assign rfl) rfl ?_ -- r11.1 ref.go:229
      refine WS.done ?_
      refine QS.then_code ?_
      refine CS.seq ?_
      refine CS.seq ?_
      refine CS.region ?_
      refine WS.det rfl rfl rfl ((by first | exact det_fieldAddr rfl fo23_0 | exact det_fieldAddrS rfl fo23_0)) rfl ?_ -- r12.0 ref.go:230
      refine WS.det rfl rfl rfl ((by first | exact det_loadb (j := 3) rfl rfl rfl tk3 | exact det_loadw rfl (by assumption) rfl tk3)) rfl ?_ -- r12.1 ref.go:230
      refine WS.det rfl rfl rfl (det_sub rfl rfl (by omega)) rfl ?_ -- r12.2 ref.go:230
      refine WS.det rfl rfl rfl (det_assign rfl) rfl ?_ -- r12.3 ref.go:230
      refine WS.done ?_
      refine QS.then_code ?_
      refine CS.block ?_
      refine CS.loopM (σ := Int × Int × List Int) [34, 35, 36, 37, 38, 39, 40, 41, 42, 43, 44, 45, 46, 47, 48] (fun s => [(10, .int .i64 s.2.1), (11, .int .i64 s.1)]) (fun s => [oints 3 v29 s.2.2, osl 24 1 r.2.1 (r.2.2.map (·.1)).length (r.2.2.map (·.1)), star (loi 3 r.2.2), blk b2 [.int .i64 lw, .int .i64 ls] 23]) (fun s => Fill lw.toNat ls r.1 s.1 s.2.1 s.2.2) (fun s => (s.1 + 1).toNat) (lw - 1, r.1, List.replicate lw.toNat 0) (fun _ _ => rfl) rfl rfl (Fill.start (by omega) (by omega) (by omega)) ?_
      intro q t hs
      have hq1 := hs.len
      have hq2 := hs.lo
      have hq3 := hs.hi
      have hq4 := hs.pos
      refine CS.seq ?_
      refine CS.seq ?_
      refine CS.region ?_
      refine WS.det rfl rfl rfl (det_move rfl) rfl ?_ -- r13.0 ref.go:230
      refine WS.det rfl rfl rfl (det_ge rfl rfl) rfl ?_ -- r13.1 ref.go:230
      refine WS.done ?_
      refine QS.then_code ?_
      refine CS.cond rfl (fun hc3 => ?_) (fun hc3 => ?_) <;> (try simp only [decide_eq_true_eq, decide_eq_false_iff_not, Bool.and_eq_true, Bool.or_eq_true, Bool.and_eq_false_iff, Bool.or_eq_false_iff, Bool.not_eq_true', Bool.not_eq_false', ne_eq, Decidable.not_not, Bool.not_true, Bool.not_false, bne_iff_ne, bne_eq_false_iff_eq, beq_iff_eq, beq_eq_false_iff_ne] at hc3)
      · skip
        refine CS.skip ?_
        refine QS.then_code ?_
        refine CS.seq ?_
        refine CS.block ?_
        refine CS.seq ?_
        refine CS.region ?_
        refine WS.det rfl rfl rfl (det_move rfl) rfl ?_ -- r15.0 ref.go:231
        refine WS.det rfl rfl rfl (det_move rfl) rfl ?_ -- r15.1 ref.go:231
        refine WS.det rfl rfl rfl (det_move rfl) rfl ?_ -- r15.2 ref.go:231
        refine WS.det rfl rfl rfl ((by first | exact det_fieldAddr rfl fo23_1 | exact det_fieldAddrS rfl fo23_1)) rfl ?_ -- r15.3 ref.go:231
        refine WS.det rfl rfl rfl ((by first | exact det_loadb (j := 3) rfl rfl rfl tk3 | exact det_loadw rfl (by assumption) rfl tk3)) rfl ?_ -- r15.4 ref.go:231
        refine WS.det rfl rfl rfl (det_rem rfl rfl (by omega) (by omega)) rfl ?_ -- r15.5 ref.go:231
        refine WS.det rfl rfl rfl (det_idxOI (j := 0) sl24 rfl rfl rfl (by omega) (by omega)) rfl ?_ -- r15.6 ref.go:231
        refine WS.storeOI (j := 0) rfl rfl (by omega) rfl tk3 rfl ?_ -- r15.7 ref.go:231
        refine WS.done ?_
        refine QS.then_code ?_
        refine CS.region ?_
        refine WS.det rfl rfl rfl (det_move rfl) rfl ?_ -- r16.0 ref.go:232
        refine WS.det rfl rfl rfl ((by first | exact det_fieldAddr rfl fo23_1 | exact det_fieldAddrS rfl fo23_1)) rfl ?_ -- r16.1 ref.go:232
        refine WS.det rfl rfl rfl ((by first | exact det_loadb (j := 3) rfl rfl rfl tk3 | exact det_loadw rfl (by assumption) rfl tk3)) rfl ?_ -- r16.2 ref.go:232
        refine WS.det rfl rfl rfl (det_quo rfl rfl (by omega) (by omega) (by omega)) rfl ?_ -- r16.3 ref.go:232
        refine WS.det rfl rfl rfl (det_assign rfl) rfl ?_ -- r16.4 ref.go:232
        refine WS.done ?_
        refine QS.block_normal ?_
        refine QS.then_code ?_
        refine CS.region ?_
        refine WS.det rfl rfl rfl (det_move rfl) rfl ?_ -- r14.0 ref.go:230
        refine WS.det rfl rfl rfl (det_sub rfl rfl (by omega)) rfl ?_ -- r14.1 ref.go:230
        refine WS.det rfl rfl rfl (det_assign rfl) rfl ?_ -- r14.2 ref.go:230
        refine WS.done ?_
        exact QS.head ((q.1 - 1, q.2.1 / ls, q.2.2.set q.1.toNat (q.2.1 % ls))) rfl rfl ⟨hs.step (by omega) (by omega), by simp; omega⟩
      · skip
        have hcode : q.2.2 = codeAt lw ls r.1.toNat := by
          rw [hs.end_ (by omega)]
          unfold codeAt
          congr 1
          omega
        have hx : codeB lw ls q.2.2 = true := hcode ▸ codeAt_code hL _
        refine CS.leave ?_
        refine QS.then_exit ?_
        refine QS.then_exit ?_
        refine QS.block_exit ?_
        refine QS.then_code ?_
        refine CS.seq ?_
        refine CS.region ?_
        refine WS.det rfl rfl rfl (det_move rfl) rfl ?_ -- r17.0 ref.go:234
        refine WS.det rfl rfl rfl (det_move rfl) rfl ?_ -- r17.1 ref.go:234
        refine WS.det rfl rfl rfl (det_callB rfl rfl ent60 (fun u hu => first_c lw ls cs gs cv q.2.2 v29 u (fun c hc => ⟨hL, hC c hc, hx⟩) (hk.st hu) (oints_SlI hu (j := 0) rfl))) rfl ?_ -- r17.2 ref.go:234
        refine WS.det rfl rfl rfl (det_lt rfl rfl) rfl ?_ -- r17.3 ref.go:234
        refine WS.done ?_
        refine QS.then_code ?_
        refine CS.cond rfl (fun hc4 => ?_) (fun hc4 => ?_) <;> (try simp only [decide_eq_true_eq, decide_eq_false_iff_not, Bool.and_eq_true, Bool.or_eq_true, Bool.and_eq_false_iff, Bool.or_eq_false_iff, Bool.not_eq_true', Bool.not_eq_false', ne_eq, Decidable.not_not, Bool.not_true, Bool.not_false, bne_iff_ne, bne_eq_false_iff_eq, beq_iff_eq, beq_eq_false_iff_ne] at hc4)
        · skip
          refine CS.region ?_
          refine WS.det rfl rfl rfl (det_move rfl) rfl ?_ -- r18.0 ref.go:235
          refine WS.det rfl rfl rfl (det_move rfl) rfl ?_ -- r18.1 ref.go:235
          refine WS.buildV1 sl51 zv24 rfl (by first | rfl | assumption) (fun _ => rfl) ?_; intro v55 -- r18.2 ref.go:235
          refine WS.append1 (j := 2) (jz := 0) sl51 zv24 rfl rfl rfl rfl (by first | rfl | assumption) (by first | omega | (simp; omega) | (simp only [List.length_append, List.length_singleton, List.length_map, List.length_cons, List.length_nil] at *; omega)) (by first | omega | (simp; omega) | (simp only [List.length_append, List.length_singleton, List.length_map, List.length_cons, List.length_nil] at *; omega)) (fun _ => rfl) (fun _ => rfl) ?_; intro v56; refine WS.oc (j := 2) rfl (fun hv56 => ?_) -- r18.3 ref.go:235
          refine WS.det rfl rfl rfl (det_assign rfl) rfl ?_ -- r18.4 ref.go:235
          refine WS.done ?_
          refine QS.block_normal ?_
          refine QS.then_code ?_
          refine CS.region ?_
          refine WS.det rfl rfl rfl (det_move rfl) rfl ?_ -- r9.0 ref.go:227
          refine WS.det rfl rfl rfl (det_add rfl rfl (by omega)) rfl ?_ -- r9.1 ref.go:227
          refine WS.det rfl rfl rfl (det_assign rfl) rfl ?_ -- r9.2 ref.go:227
          refine WS.done ?_
          refine QS.sel [2, 2, 1, 1] rfl ?_
          refine QS.weak (fun u hu => hu.ollSnoc) ?_
          exact QS.head ((r.1 + 1, v56, r.2.2 ++ [(v29, q.2.2)])) rfl rfl ⟨⟨by simp; omega, by simp; omega, by simp only; rw [snd_snoc hr3, e1, readTo_yes (by omega) (by rw [← hcode]; simpa [fitB] using hc4), ← hcode]⟩, by simp; omega⟩
        · skip
          refine CS.skip ?_
          refine QS.block_normal ?_
          refine QS.then_code ?_
          refine CS.region ?_
          refine WS.det rfl rfl rfl (det_move rfl) rfl ?_ -- r9.0 ref.go:227
          refine WS.det rfl rfl rfl (det_add rfl rfl (by omega)) rfl ?_ -- r9.1 ref.go:227
          refine WS.det rfl rfl rfl (det_assign rfl) rfl ?_ -- r9.2 ref.go:227
          refine WS.done ?_
          refine QS.sel [1, 1, 1] rfl ?_
          exact QS.head ((r.1 + 1, r.2.1, r.2.2)) rfl rfl ⟨⟨by simp; omega, by simp; omega, by simp only; rw [hr3, e1, readTo_no (by omega) (by rw [← hcode]; simpa [fitB] using hc4)]⟩, by simp; omega⟩
    · skip
      refine CS.leave ?_
      refine QS.then_exit ?_
      refine QS.then_exit ?_
      refine QS.block_exit ?_
      refine QS.then_code ?_
      refine CS.seq ?_
      refine CS.region ?_
      refine WS.det rfl rfl rfl (det_move rfl) rfl ?_ -- r19.0 ref.go:238
      refine WS.det rfl rfl rfl (det_assign rfl) rfl ?_ -- r19.1 ref.go:238
      refine WS.done ?_
      refine QS.then_code ?_
      refine CS.ret ?_
      exact out1 rfl rfl (retL (f := id) (by rw [hr3, readTo_all (by omega)])) -- ret 1

theorem RCount_c (lw ls : Int) (cs : List Clue) (gs : List Value) (cv : Value) (w : World) (hk : ClS w cv cs gs) :
    Calls Try.prog 37 #[.agg #[.int .i64 lw, .int .i64 ls], cv] w (RetB w (.tuple #[.int .i64 (if cluesE lw ls cs = 0 then ((readL lw ls cs).length : Int) else 0), .int .i64 (cluesE lw ls cs)])) := by
  refine enter Try.func37 rfl rfl (Nat.le_of_ble_eq_true rfl) ?_
  refine CS.seq ?_
  refine CS.region ?_
  refine WS.box rfl rfl (fun _ => rfl) ?_; intro b2 hb2 -- r0.0 ref.go:242
  refine WS.det rfl rfl rfl (det_assign rfl) rfl ?_ -- r0.1 ref.go:242
  refine WS.det rfl rfl rfl (det_assign rfl) rfl ?_ -- r0.2 ref.go:242
  refine WS.done ?_
  refine QS.then_code ?_
  refine CS.seq ?_
  refine CS.seq ?_
  refine CS.region ?_
  refine WS.det rfl rfl rfl ((by first | exact det_loadb0 (j := 0) rfl rfl tk23 | exact det_loadbN (j := 0) rfl rfl (by rfl) tk23 | exact det_loadwN rfl (by assumption) (by rfl) tk23 | exact det_loadbK (n := 2) (j := 0) rfl rfl rfl rfl tk23)) rfl ?_ -- r1.0 ref.go:243
  refine WS.det rfl rfl rfl (det_move rfl) rfl ?_ -- r1.1 ref.go:243
  refine WS.det rfl rfl rfl (det_callB rfl rfl ent33 (fun u hu => RCheckClues_c _ _ _ _ _ u (hk.st hu))) rfl ?_ -- r1.2 ref.go:243
  refine WS.det rfl rfl rfl (det_assign rfl) rfl ?_ -- r1.3 ref.go:243
  refine WS.done ?_
  refine QS.then_code ?_
  refine CS.seq ?_
  refine CS.region ?_
  refine WS.det rfl rfl rfl (det_move rfl) rfl ?_ -- r2.0 ref.go:243
  refine WS.det rfl rfl rfl (det_ne rfl rfl) rfl ?_ -- r2.1 ref.go:243
  refine WS.done ?_
  refine QS.then_code ?_
  refine CS.cond rfl (fun hc1 => ?_) (fun hc1 => ?_) <;> (try simp only [decide_eq_true_eq, decide_eq_false_iff_not, Bool.and_eq_true, Bool.or_eq_true, Bool.and_eq_false_iff, Bool.or_eq_false_iff, Bool.not_eq_true', Bool.not_eq_false', ne_eq, Decidable.not_not, Bool.not_true, Bool.not_false, bne_iff_ne, bne_eq_false_iff_eq, beq_iff_eq, beq_eq_false_iff_ne] at hc1)
  · skip
    refine CS.seq ?_
    refine CS.region ?_
    refine WS.det rfl rfl rfl (det_move rfl) rfl ?_ -- r3.0 ref.go:244
    refine WS.det rfl rfl rfl (det_assign rfl) rfl ?_ -- r3.1 ref.go:244
    refine WS.det rfl rfl rfl (det_assign rfl) rfl ?_ -- r3.2 ref.go:244
    refine WS.done ?_
    refine QS.then_code ?_
    refine CS.ret ?_
    refine QS.then_ret ?_
    exact out2 rfl rfl rfl (retBe (by simp [hc1])) -- ret 1
  · skip
    have hL := cluesE_lock hc1
    have hC := cluesE_clue hc1
    refine CS.skip ?_
    refine QS.then_code ?_
    refine CS.seq ?_
    refine CS.region ?_
    refine WS.det rfl rfl rfl ((by first | exact det_loadb0 (j := 0) rfl rfl tk23 | exact det_loadbN (j := 0) rfl rfl (by rfl) tk23 | exact det_loadwN rfl (by assumption) (by rfl) tk23 | exact det_loadbK (n := 2) (j := 0) rfl rfl rfl rfl tk23)) rfl ?_ -- r4.0 ref.go:246
    refine WS.det rfl rfl rfl (det_move rfl) rfl ?_ -- r4.1 ref.go:246
    refine WS.callF rfl rfl ent69 (fun u hu => RAll_c _ _ _ _ _ u hL hC (hk.st hu)) (fun _ => rfl) ?_; rintro ⟨va, ga⟩ ⟨ua, hva⟩ -- r4.2 ref.go:246
    refine WS.det rfl rfl rfl ((by first | exact det_lenS sl51 rfl (by assumption) | exact det_lenS sl51 rfl (by first | exact SlL.sp (by assumption) | exact ClS.sp (by assumption)) | exact det_lenO sl51 rfl | exact det_lenV sl51 rfl ⟨_, _, rfl⟩)) rfl ?_ -- r4.3 ref.go:246
    refine WS.det rfl rfl rfl (det_assign rfl) rfl ?_ -- r4.4 ref.go:246
    refine WS.det rfl rfl rfl (det_assign rfl) rfl ?_ -- r4.5 ref.go:246
    refine WS.done ?_
    refine QS.then_code ?_
    refine CS.ret ?_
    exact out2 rfl rfl rfl (retBe (by simp [hc1])) -- ret 2

theorem Implies_c (lw ls : Int) (cs : List Clue) (gs : List Value) (cv : Value) (c : Clue) (gv : Value) (w : World) (hk : ClS w cv cs gs) (hg1 : SlI w gv c.g) :
    Calls Try.prog 31 #[.agg #[.int .i64 lw, .int .i64 ls], cv, .agg #[.int .i64 c.k, .int .i64 c.a, .int .i64 c.b, .int .i64 c.n, .int .i64 c.m, gv, .bool c.nt]] w (fun e w' => ∃ x : Value, (∃ u0, SlI u0 x (if impE lw ls cs c = 0 then (impL lw ls cs c).getD [] else [])) ∧ RetF w (.tuple #[x, .bool (if impE lw ls cs c = 0 then (impL lw ls cs c).isNone else false), .int .i64 (impE lw ls cs c)]) (roI x (if impE lw ls cs c = 0 then (impL lw ls cs c).getD [] else [])) e w') := by
  obtain ⟨hgn, p, cap, rfl, hcap, hp⟩ := hg1
  have hg1 : SlI w (.slice p c.g.length cap) c.g := ⟨hgn, p, cap, rfl, hcap, hp⟩
  clear hgn hcap hp
  refine enterM St.nil Try.func31 rfl rfl (Nat.le_of_ble_eq_true rfl) ?_
  refine CS.seq ?_
  refine CS.region ?_
  refine WS.box rfl rfl (fun _ => rfl) ?_; intro b3 hb3 -- r0.0 codes.go:283
  refine WS.box rfl rfl (fun _ => rfl) ?_; intro b5 hb5 -- r0.1 codes.go:283
  refine WS.alloc zv24 (fun _ => rfl) ?_; intro b6 hb6 -- r0.2 codes.go:283
  refine WS.alloc zv4 (fun _ => rfl) ?_; intro b7 hb7 -- r0.3 codes.go:283
  refine WS.alloc zv25 (fun _ => rfl) ?_; intro b8 hb8 -- r0.4 codes.go:283
  refine WS.done ?_
  refine QS.then_code ?_
  refine CS.seq ?_
  refine CS.seq ?_
  refine CS.region ?_
  refine WS.det rfl rfl rfl ((by first | exact det_loadb0 (j := 4) rfl rfl tk23 | exact det_loadbN (j := 4) rfl rfl (by rfl) tk23 | exact det_loadwN rfl (by assumption) (by rfl) tk23 | exact det_loadbK (n := 2) (j := 4) rfl rfl rfl rfl tk23)) rfl ?_ -- r1.0 codes.go:284
  refine WS.det rfl rfl rfl (det_move rfl) rfl ?_ -- r1.1 codes.go:284
  refine WS.det rfl rfl rfl (det_callB rfl rfl ent57 (fun u hu => checkClues_c _ _ _ _ _ u (hk.st hu))) rfl ?_ -- r1.2 codes.go:284
  refine WS.det rfl rfl rfl (det_assign rfl) rfl ?_ -- r1.3 codes.go:284
  refine WS.done ?_
  refine QS.then_code ?_
  refine CS.seq ?_
  refine CS.region ?_
  refine WS.det rfl rfl rfl (det_move rfl) rfl ?_ -- r2.0 codes.go:284
  refine WS.det rfl rfl rfl (det_ne rfl rfl) rfl ?_ -- r2.1 codes.go:284
  refine WS.done ?_
  refine QS.then_code ?_
  refine CS.cond rfl (fun hc1 => ?_) (fun hc1 => ?_) <;> (try simp only [decide_eq_true_eq, decide_eq_false_iff_not, Bool.and_eq_true, Bool.or_eq_true, Bool.and_eq_false_iff, Bool.or_eq_false_iff, Bool.not_eq_true', Bool.not_eq_false', ne_eq, Decidable.not_not, Bool.not_true, Bool.not_false, bne_iff_ne, bne_eq_false_iff_eq, beq_iff_eq, beq_eq_false_iff_ne] at hc1)
  · skip
    refine CS.seq ?_
    refine CS.region ?_
    refine WS.det rfl rfl rfl (det_move rfl) rfl ?_ -- r3.0 codes.go:285
    first | refine WS.store (j := 2) rfl rfl (by first | decide | omega | (simp; done) | (simp; omega)) rfl (by first | rfl | assumption) tk24 rfl rfl ?_ | refine WS.store (j := 2) rfl rfl (by first | decide | omega | (simp; done) | (simp; omega)) rfl (by first | rfl | assumption) tk24 (lset_eq _ _ _) rfl ?_ -- r3.1 codes.go:285
    first | refine WS.store (j := 1) rfl rfl (by first | decide | omega | (simp; done) | (simp; omega)) rfl (by first | rfl | assumption) tk4 rfl rfl ?_ | refine WS.store (j := 1) rfl rfl (by first | decide | omega | (simp; done) | (simp; omega)) rfl (by first | rfl | assumption) tk4 (lset_eq _ _ _) rfl ?_ -- r3.2 codes.go:285
    first | refine WS.store (j := 0) rfl rfl (by first | decide | omega | (simp; done) | (simp; omega)) rfl (by first | rfl | assumption) tk25 rfl rfl ?_ | refine WS.store (j := 0) rfl rfl (by first | decide | omega | (simp; done) | (simp; omega)) rfl (by first | rfl | assumption) tk25 (lset_eq _ _ _) rfl ?_ -- r3.3 codes.go:285
    refine WS.done ?_
    refine QS.then_code ?_
    refine CS.ret ?_
    refine QS.then_ret ?_
    exact outE (Or.inl rfl) (resccc rfl (cell_rv (j := 2) rfl rfl rfl tk24) (cell_rv (j := 1) rfl rfl rfl tk4) (cell_rv (j := 0) rfl rfl rfl tk25)) (retIn (by simp [impE, hc1]) (by simp [impE, hc1])) -- ret 1
  · skip
    have hL := cluesE_lock hc1
    have hC := cluesE_clue hc1
    refine CS.skip ?_
    refine QS.then_code ?_
    refine CS.seq ?_
    refine CS.seq ?_
    refine CS.region ?_
    refine WS.det rfl rfl rfl ((by first | exact det_loadb0 (j := 4) rfl rfl tk23 | exact det_loadbN (j := 4) rfl rfl (by rfl) tk23 | exact det_loadwN rfl (by assumption) (by rfl) tk23 | exact det_loadbK (n := 2) (j := 4) rfl rfl rfl rfl tk23)) rfl ?_ -- r4.0 codes.go:287
    refine WS.det rfl rfl rfl ((by first | exact det_ldCl rfl (by assumption) (by omega) tk36 | exact det_loadb0 (j := 3) rfl rfl tk36 | exact det_loadbN (j := 3) rfl rfl (by rfl) tk36 | exact det_loadwN rfl (by assumption) (by rfl) tk36 | exact det_loadbK (n := 7) (j := 3) rfl rfl rfl rfl tk36)) rfl ?_ -- r4.1 codes.go:287
    refine WS.det rfl rfl rfl (det_callB rfl rfl ent25 (fun u hu => CheckClue_c _ _ _ _ u (hg1.st hu))) rfl ?_ -- r4.2 codes.go:287
    refine WS.det rfl rfl rfl (det_assign rfl) rfl ?_ -- r4.3 codes.go:287
    refine WS.done ?_
    refine QS.then_code ?_
    refine CS.seq ?_
    refine CS.region ?_
    refine WS.det rfl rfl rfl (det_move rfl) rfl ?_ -- r5.0 codes.go:287
    refine WS.det rfl rfl rfl (det_ne rfl rfl) rfl ?_ -- r5.1 codes.go:287
    refine WS.done ?_
    refine QS.then_code ?_
    refine CS.cond rfl (fun hc2 => ?_) (fun hc2 => ?_) <;> (try simp only [decide_eq_true_eq, decide_eq_false_iff_not, Bool.and_eq_true, Bool.or_eq_true, Bool.and_eq_false_iff, Bool.or_eq_false_iff, Bool.not_eq_true', Bool.not_eq_false', ne_eq, Decidable.not_not, Bool.not_true, Bool.not_false, bne_iff_ne, bne_eq_false_iff_eq, beq_iff_eq, beq_eq_false_iff_ne] at hc2)
    · skip
      refine CS.seq ?_
      refine CS.region ?_
      refine WS.det rfl rfl rfl (det_move rfl) rfl ?_ -- r6.0 codes.go:288
      first | refine WS.store (j := 2) rfl rfl (by first | decide | omega | (simp; done) | (simp; omega)) rfl (by first | rfl | assumption) tk24 rfl rfl ?_ | refine WS.store (j := 2) rfl rfl (by first | decide | omega | (simp; done) | (simp; omega)) rfl (by first | rfl | assumption) tk24 (lset_eq _ _ _) rfl ?_ -- r6.1 codes.go:288
      first | refine WS.store (j := 1) rfl rfl (by first | decide | omega | (simp; done) | (simp; omega)) rfl (by first | rfl | assumption) tk4 rfl rfl ?_ | refine WS.store (j := 1) rfl rfl (by first | decide | omega | (simp; done) | (simp; omega)) rfl (by first | rfl | assumption) tk4 (lset_eq _ _ _) rfl ?_ -- r6.2 codes.go:288
      first | refine WS.store (j := 0) rfl rfl (by first | decide | omega | (simp; done) | (simp; omega)) rfl (by first | rfl | assumption) tk25 rfl rfl ?_ | refine WS.store (j := 0) rfl rfl (by first | decide | omega | (simp; done) | (simp; omega)) rfl (by first | rfl | assumption) tk25 (lset_eq _ _ _) rfl ?_ -- r6.3 codes.go:288
      refine WS.done ?_
      refine QS.then_code ?_
      refine CS.ret ?_
      refine QS.then_ret ?_
      exact outE (Or.inl rfl) (resccc rfl (cell_rv (j := 2) rfl rfl rfl tk24) (cell_rv (j := 1) rfl rfl rfl tk4) (cell_rv (j := 0) rfl rfl rfl tk25)) (retIn (by simp [impE, hc1, hc2]) (by simp [impE, hc1, hc2])) -- ret 2
    · skip
      have hcl := clueE_clue hc2
      have hie : impE lw ls cs c = 0 := by simp [impE, hc1, hc2]
      refine CS.skip ?_
      refine QS.then_code ?_
      refine CS.seq ?_
      refine CS.seq ?_
      refine CS.region ?_
      refine WS.det rfl rfl rfl ((by first | exact det_loadb0 (j := 4) rfl rfl tk23 | exact det_loadbN (j := 4) rfl rfl (by rfl) tk23 | exact det_loadwN rfl (by assumption) (by rfl) tk23 | exact det_loadbK (n := 2) (j := 4) rfl rfl rfl rfl tk23)) rfl ?_ -- r7.0 codes.go:290
      refine WS.det rfl rfl rfl (det_move rfl) rfl ?_ -- r7.1 codes.go:290
      refine WS.callF rfl rfl ent67 (fun u hu => readings_c _ _ _ _ _ u (hk.st hu)) (fun _ => rfl) ?_; intro br _; refine WS.unpack ?_ -- r7.2 codes.go:290
      refine WS.done ?_
      refine QS.then_code ?_
      refine CS.block ?_
      refine CS.weak (L' := [fact (∀ y ∈ ([] : List (List Int)), holdsT c y = true), blk b8 [.int .i64 0] 25, blk b7 [.bool false] 4, blk b6 [.slice none 0 0] 24, blk b5 [.int .i64 c.k, .int .i64 c.a, .int .i64 c.b, .int .i64 c.n, .int .i64 c.m, .slice p c.g.length cap, .bool c.nt] 36, blk b3 [.int .i64 lw, .int .i64 ls] 23] ++ [blk br.1 [.int .i64 lw, .int .i64 ls] 77, blk br.2 [cv] 31]) (fun u hu => ((hu.sel [2, 2, 2, 2, 2, 0, 0] rfl).factI (by simp))) ?_
      refine CS.rangeA (A := [blk br.1 [.int .i64 lw, .int .i64 ls] 77, blk br.2 [cv] 31]) rfl ent92 (readingsI_c lw ls cs gs cv w br.1 br.2 hL hk hC) (fun pre => [fact (∀ y ∈ pre, holdsT c y = true), blk b8 [.int .i64 0] 25, blk b7 [.bool false] 4, blk b6 [.slice none 0 0] 24, blk b5 [.int .i64 c.k, .int .i64 c.a, .int .i64 c.b, .int .i64 c.n, .int .i64 c.m, .slice p c.g.length cap, .bool c.nt] 36, blk b3 [.int .i64 lw, .int .i64 ls] 23]) (fun kd pre => match kd with | .ret => [exS fun v : Value => star [blk b6 [v] 24, oints 3 v (lastL pre)], fact (∀ q z, pre = q ++ [z] → (∀ y ∈ q, holdsT c y = true) ∧ holdsT c z = false), blk b8 [.int .i64 0] 25, blk b7 [.bool false] 4, blk b5 [.int .i64 c.k, .int .i64 c.a, .int .i64 c.b, .int .i64 c.n, .int .i64 c.m, .slice p c.g.length cap, .bool c.nt] 36, blk b3 [.int .i64 lw, .int .i64 ls] 23] | _ => [fact False]) (fun _ => rfl) (Nat.le_of_ble_eq_true rfl) (fun _ => rfl) ?_ ?_ ?_
      · intro lr pre x post v F hall
        have hx := (readL_mem hL (show x ∈ readL lw ls cs by rw [hall]; simp)).1
        have hx4 := (code_ten hL hx).1
        have hU : Use lw ls c x := ⟨hL, hcl, hx⟩
        refine CS.factE (j := 1) rfl (fun hpre => ?_)
        refine CS.block ?_
        refine CS.seq ?_
        refine CS.region ?_
        refine WS.det rfl rfl rfl ((by first | exact det_ldCl rfl (by assumption) (by omega) tk36 | exact det_loadb0 (j := 5) rfl rfl tk36 | exact det_loadbN (j := 5) rfl rfl (by rfl) tk36 | exact det_loadwN rfl (by assumption) (by rfl) tk36 | exact det_loadbK (n := 7) (j := 5) rfl rfl rfl rfl tk36)) rfl ?_ -- r9.0 codes.go:291
        refine WS.det rfl rfl rfl (det_move rfl) rfl ?_ -- r9.1 codes.go:291
        refine WS.det rfl rfl rfl (det_callB rfl rfl ent65 (fun u hu => holds_c _ _ _ _ _ _ u hU (hg1.st hu) (oints_SlI hu (j := 0) rfl))) rfl ?_ -- r9.2 codes.go:291
        refine WS.det rfl rfl rfl (det_not rfl) rfl ?_ -- r9.3 codes.go:291
        refine WS.done ?_
        refine QS.then_code ?_
        refine CS.cond rfl (fun hc3 => ?_) (fun hc3 => ?_) <;> (try simp only [decide_eq_true_eq, decide_eq_false_iff_not, Bool.and_eq_true, Bool.or_eq_true, Bool.and_eq_false_iff, Bool.or_eq_false_iff, Bool.not_eq_true', Bool.not_eq_false', ne_eq, Decidable.not_not, Bool.not_true, Bool.not_false, bne_iff_ne, bne_eq_false_iff_eq, beq_iff_eq, beq_eq_false_iff_ne] at hc3)
        · skip
          refine CS.seq ?_
          refine CS.region ?_
          refine WS.det rfl rfl rfl (det_move rfl) rfl ?_ -- r10.0 codes.go:292
          refine WS.callF rfl rfl ent68 (fun u hu => CloneI_c x v u (oints_SlI hu (j := 0) rfl) (by omega)) (fun _ => rfl) ?_; intro v33 hv33 -- r10.1 codes.go:292
          first | refine WS.store (j := 5) rfl rfl (by first | decide | omega | (simp; done) | (simp; omega)) rfl (by first | rfl | assumption) tk24 rfl rfl ?_ | refine WS.store (j := 5) rfl rfl (by first | decide | omega | (simp; done) | (simp; omega)) rfl (by first | rfl | assumption) tk24 (lset_eq _ _ _) rfl ?_ -- r10.2 codes.go:292
          first | refine WS.store (j := 4) rfl rfl (by first | decide | omega | (simp; done) | (simp; omega)) rfl (by first | rfl | assumption) tk4 rfl rfl ?_ | refine WS.store (j := 4) rfl rfl (by first | decide | omega | (simp; done) | (simp; omega)) rfl (by first | rfl | assumption) tk4 (lset_eq _ _ _) rfl ?_ -- r10.3 codes.go:292
          first | refine WS.store (j := 3) rfl rfl (by first | decide | omega | (simp; done) | (simp; omega)) rfl (by first | rfl | assumption) tk25 rfl rfl ?_ | refine WS.store (j := 3) rfl rfl (by first | decide | omega | (simp; done) | (simp; omega)) rfl (by first | rfl | assumption) tk25 (lset_eq _ _ _) rfl ?_ -- r10.4 codes.go:292
          refine WS.done ?_
          refine QS.then_code ?_
          refine CS.ret ?_
          refine QS.block_ret ?_
          refine QS.sel [5, 0, 0, 1, 1, 1, 1, 1] rfl ?_
          exact fun u hu => by
            simp only [roundQ, lastL_snoc]
            have h1 := hu.factI (p := ∀ q z, pre ++ [x] = q ++ [z] → (∀ y ∈ q, holdsT c y = true) ∧ holdsT c z = false) (fun q z e => by obtain ⟨e1, e2⟩ := List.append_inj' e rfl; simp at e2; subst e1; subst e2; exact ⟨hpre, by simpa using hc3⟩)
            refine St.perm ?_ (List.Perm.swap _ _ _)
            refine St.exI v33 (St.pack (L1 := [_, _]) ?_)
            exact h1.sel [1, 1, 1, 0, 0, 0, 0, 0, 0] rfl
        · skip
          refine CS.skip ?_
          refine QS.block_normal ?_
          refine QS.sel [0, 1, 1, 1, 1, 1, 1] rfl ?_
          exact fun u hu => by
            simp only [roundQ]
            exact (hu.factI (all_snoc hpre hc3)).sel [1, 0, 0, 0, 0, 0, 0, 0] rfl
      · intro D
        refine QS.factE (j := 1) rfl (fun hpre => ?_)
        have him := imp_none hpre
        refine QS.block_normal ?_
        refine QS.then_code ?_
        refine CS.seq ?_
        refine CS.region ?_
        first | refine WS.store (j := 4) rfl rfl (by first | decide | omega | (simp; done) | (simp; omega)) rfl (by first | rfl | assumption) tk24 rfl rfl ?_ | refine WS.store (j := 4) rfl rfl (by first | decide | omega | (simp; done) | (simp; omega)) rfl (by first | rfl | assumption) tk24 (lset_eq _ _ _) rfl ?_ -- r11.0 codes.go:295
        first | refine WS.store (j := 3) rfl rfl (by first | decide | omega | (simp; done) | (simp; omega)) rfl (by first | rfl | assumption) tk4 rfl rfl ?_ | refine WS.store (j := 3) rfl rfl (by first | decide | omega | (simp; done) | (simp; omega)) rfl (by first | rfl | assumption) tk4 (lset_eq _ _ _) rfl ?_ -- r11.1 codes.go:295
        first | refine WS.store (j := 2) rfl rfl (by first | decide | omega | (simp; done) | (simp; omega)) rfl (by first | rfl | assumption) tk25 rfl rfl ?_ | refine WS.store (j := 2) rfl rfl (by first | decide | omega | (simp; done) | (simp; omega)) rfl (by first | rfl | assumption) tk25 (lset_eq _ _ _) rfl ?_ -- r11.2 codes.go:295
        refine WS.done ?_
        refine QS.then_code ?_
        refine CS.ret ?_
        exact outM (j := 0) (Or.inl rfl) rfl (resccc rfl (cell_rv (j := 4) rfl rfl rfl tk24) (cell_rv (j := 3) rfl rfl rfl tk4) (cell_rv (j := 2) rfl rfl rfl tk25)) (retIn (by simp [hie, him]) (by simp [hie, him])) -- ret 3
      · intro D kd pre x post hall
        cases kd with
        | ret =>
          refine CS.sel [1, 0, 0, 0, 0, 0, 0, 0] rfl ?_
          refine CS.ex ?_; intro vr
          refine CS.unpack ?_
          refine CS.factE (j := 3) rfl (fun hst => ?_)
          obtain ⟨hst1, hst2⟩ := hst pre x rfl
          have him := imp_some hall hst1 hst2
          refine CS.ret ?_
          refine QS.block_ret ?_
          refine QS.then_ret ?_
          exact outM (j := 2) (Or.inl rfl) rfl (resccc rfl (cell_rv (j := 0) rfl rfl rfl tk24) (cell_rv (j := 5) rfl rfl rfl tk4) (cell_rv (j := 4) rfl rfl rfl tk25)) (retIe (j := 1) rfl (by rw [lastL_snoc]; simp [hie, him]) (by simp [hie, him])) -- ret 4
        | _ => exact fun u hu => (hu.factE (j := 1) rfl).elim

theorem RImplies_c (lw ls : Int) (cs : List Clue) (gs : List Value) (cv : Value) (c : Clue) (gv : Value) (w : World) (hk : ClS w cv cs gs) (hg1 : SlI w gv c.g) :
    Calls Try.prog 32 #[.agg #[.int .i64 lw, .int .i64 ls], cv, .agg #[.int .i64 c.k, .int .i64 c.a, .int .i64 c.b, .int .i64 c.n, .int .i64 c.m, gv, .bool c.nt]] w (fun e w' => ∃ x : Value, (∃ u0, SlI u0 x (if impE lw ls cs c = 0 then (impL lw ls cs c).getD [] else [])) ∧ RetF w (.tuple #[x, .bool (if impE lw ls cs c = 0 then (impL lw ls cs c).isNone else false), .int .i64 (impE lw ls cs c)]) (roI x (if impE lw ls cs c = 0 then (impL lw ls cs c).getD [] else [])) e w') := by
  obtain ⟨hgn, p, cap, rfl, hcap, hp⟩ := hg1
  have hg1 : SlI w (.slice p c.g.length cap) c.g := ⟨hgn, p, cap, rfl, hcap, hp⟩
  clear hgn hcap hp
  refine enter Try.func32 rfl rfl (Nat.le_of_ble_eq_true rfl) ?_
  refine CS.seq ?_
  refine CS.region ?_
  refine WS.box rfl rfl (fun _ => rfl) ?_; intro b3 hb3 -- r0.0 ref.go:283
  refine WS.box rfl rfl (fun _ => rfl) ?_; intro b5 hb5 -- r0.1 ref.go:283
  refine WS.det rfl rfl rfl (det_assign rfl) rfl ?_ -- r0.2 ref.go:283
  refine WS.det rfl rfl rfl (det_assign rfl) rfl ?_ -- r0.3 ref.go:283
  refine WS.det rfl rfl rfl (det_assign rfl) rfl ?_ -- r0.4 ref.go:283
  refine WS.done ?_
  refine QS.then_code ?_
  refine CS.seq ?_
  refine CS.seq ?_
  refine CS.region ?_
  refine WS.det rfl rfl rfl ((by first | exact det_loadb0 (j := 1) rfl rfl tk23 | exact det_loadbN (j := 1) rfl rfl (by rfl) tk23 | exact det_loadwN rfl (by assumption) (by rfl) tk23 | exact det_loadbK (n := 2) (j := 1) rfl rfl rfl rfl tk23)) rfl ?_ -- r1.0 ref.go:284
  refine WS.det rfl rfl rfl (det_move rfl) rfl ?_ -- r1.1 ref.go:284
  refine WS.det rfl rfl rfl (det_callB rfl rfl ent33 (fun u hu => RCheckClues_c _ _ _ _ _ u (hk.st hu))) rfl ?_ -- r1.2 ref.go:284
  refine WS.det rfl rfl rfl (det_assign rfl) rfl ?_ -- r1.3 ref.go:284
  refine WS.done ?_
  refine QS.then_code ?_
  refine CS.seq ?_
  refine CS.region ?_
  refine WS.det rfl rfl rfl (det_move rfl) rfl ?_ -- r2.0 ref.go:284
  refine WS.det rfl rfl rfl (det_ne rfl rfl) rfl ?_ -- r2.1 ref.go:284
  refine WS.done ?_
  refine QS.then_code ?_
  refine CS.cond rfl (fun hc1 => ?_) (fun hc1 => ?_) <;> (try simp only [decide_eq_true_eq, decide_eq_false_iff_not, Bool.and_eq_true, Bool.or_eq_true, Bool.and_eq_false_iff, Bool.or_eq_false_iff, Bool.not_eq_true', Bool.not_eq_false', ne_eq, Decidable.not_not, Bool.not_true, Bool.not_false, bne_iff_ne, bne_eq_false_iff_eq, beq_iff_eq, beq_eq_false_iff_ne] at hc1)
  · skip
    refine CS.seq ?_
    refine CS.region ?_
    refine WS.det rfl rfl rfl (det_move rfl) rfl ?_ -- r3.0 ref.go:285
    refine WS.det rfl rfl rfl (det_assign rfl) rfl ?_ -- r3.1 ref.go:285
    refine WS.det rfl rfl rfl (det_assign rfl) rfl ?_ -- r3.2 ref.go:285
    refine WS.det rfl rfl rfl (det_assign rfl) rfl ?_ -- r3.3 ref.go:285
    refine WS.done ?_
    refine QS.then_code ?_
    refine CS.ret ?_
    refine QS.then_ret ?_
    exact out3 rfl rfl rfl rfl (retIn (by simp [impE, hc1]) (by simp [impE, hc1])) -- ret 1
  · skip
    have hL := cluesE_lock hc1
    have hC := cluesE_clue hc1
    refine CS.skip ?_
    refine QS.then_code ?_
    refine CS.seq ?_
    refine CS.seq ?_
    refine CS.region ?_
    refine WS.det rfl rfl rfl ((by first | exact det_loadb0 (j := 1) rfl rfl tk23 | exact det_loadbN (j := 1) rfl rfl (by rfl) tk23 | exact det_loadwN rfl (by assumption) (by rfl) tk23 | exact det_loadbK (n := 2) (j := 1) rfl rfl rfl rfl tk23)) rfl ?_ -- r4.0 ref.go:287
    refine WS.det rfl rfl rfl ((by first | exact det_ldCl rfl (by assumption) (by omega) tk36 | exact det_loadb0 (j := 0) rfl rfl tk36 | exact det_loadbN (j := 0) rfl rfl (by rfl) tk36 | exact det_loadwN rfl (by assumption) (by rfl) tk36 | exact det_loadbK (n := 7) (j := 0) rfl rfl rfl rfl tk36)) rfl ?_ -- r4.1 ref.go:287
    refine WS.det rfl rfl rfl (det_callB rfl rfl ent64 (fun u hu => isClue_c _ _ _ _ u hL (hg1.st hu))) rfl ?_ -- r4.2 ref.go:287
    refine WS.det rfl rfl rfl (det_not rfl) rfl ?_ -- r4.3 ref.go:287
    refine WS.done ?_
    refine QS.then_code ?_
    refine CS.cond rfl (fun hc2 => ?_) (fun hc2 => ?_) <;> (try simp only [decide_eq_true_eq, decide_eq_false_iff_not, Bool.and_eq_true, Bool.or_eq_true, Bool.and_eq_false_iff, Bool.or_eq_false_iff, Bool.not_eq_true', Bool.not_eq_false', ne_eq, Decidable.not_not, Bool.not_true, Bool.not_false, bne_iff_ne, bne_eq_false_iff_eq, beq_iff_eq, beq_eq_false_iff_ne] at hc2)
    · skip
      refine CS.seq ?_
      refine CS.region ?_
      refine WS.det rfl rfl rfl (det_assign rfl) rfl ?_ -- r5.0 ref.go:288
      refine WS.det rfl rfl rfl (det_assign rfl) rfl ?_ -- r5.1 ref.go:288
      refine WS.det rfl rfl rfl (det_assign rfl) rfl ?_ -- r5.2 ref.go:288
      refine WS.done ?_
      refine QS.then_code ?_
      refine CS.ret ?_
      refine QS.then_ret ?_
      exact out3 rfl rfl rfl rfl (retIn (by have : clueB lw ls c = false := (by simpa using hc2); simp [impE, hc1, clueE, hL, this]) (by have : clueB lw ls c = false := (by simpa using hc2); simp [impE, hc1, clueE, hL, this])) -- ret 2
    · skip
      have hcl : clueB lw ls c = true := hc2
      have hce : clueE lw ls c = 0 := by simp [clueE, hL, hcl]
      have hie : impE lw ls cs c = 0 := by simp [impE, hc1, hce]
      refine CS.skip ?_
      refine QS.then_code ?_
      refine CS.seq ?_
      refine CS.region ?_
      refine WS.det rfl rfl rfl ((by first | exact det_loadb0 (j := 1) rfl rfl tk23 | exact det_loadbN (j := 1) rfl rfl (by rfl) tk23 | exact det_loadwN rfl (by assumption) (by rfl) tk23 | exact det_loadbK (n := 2) (j := 1) rfl rfl rfl rfl tk23)) rfl ?_ -- r6.0 ref.go:290
      refine WS.det rfl rfl rfl (det_move rfl) rfl ?_ -- r6.1 ref.go:290
      refine WS.callF rfl rfl ent69 (fun u hu => RAll_c _ _ _ _ _ u hL hC (hk.st hu)) (fun _ => rfl) ?_; rintro ⟨va, ga⟩ ⟨ua, hva⟩ -- r6.2 ref.go:290
      refine WS.det rfl rfl rfl (det_assign rfl) rfl ?_ -- r6.3 ref.go:290
      refine WS.done ?_
      refine QS.then_code ?_
      refine CS.seq ?_
      refine CS.seq ?_
      refine CS.region ?_
      refine WS.det rfl rfl rfl (det_assign rfl) rfl ?_ -- r7.0 ref.go:291
      refine WS.done ?_
      refine QS.then_code ?_
      refine CS.block ?_
      refine CS.loopM (σ := Int) [6, 7, 8, 25, 26, 27, 28, 29, 30, 31, 32, 33, 34, 35, 36, 37, 38, 39, 40, 41] (fun s => [(11, .int .i64 s)]) (fun _ => _) (fun s => 0 ≤ s ∧ s ≤ (readL lw ls cs).length ∧ ∀ j : Int, 0 ≤ j → j < s → holdsT c (nth (readL lw ls cs) j) = true) (fun s => ((readL lw ls cs).length - s).toNat) 0 (fun _ _ => rfl) rfl rfl ⟨by omega, by omega, fun j h1 h2 => by omega⟩ ?_
      intro s t hs
      obtain ⟨hs1, hs2, hs3⟩ := hs
      have hbl := readL_le hL cs
      refine CS.seq ?_
      refine CS.seq ?_
      refine CS.region ?_
      refine WS.det rfl rfl rfl (det_move rfl) rfl ?_ -- r8.0 ref.go:291
      refine WS.det rfl rfl rfl (det_move rfl) rfl ?_ -- r8.1 ref.go:291
      refine WS.det rfl rfl rfl ((by first | exact det_lenS sl51 rfl (by assumption) | exact det_lenS sl51 rfl (by first | exact SlL.sp (by assumption) | exact ClS.sp (by assumption)) | exact det_lenO sl51 rfl | exact det_lenV sl51 rfl ⟨_, _, rfl⟩)) rfl ?_ -- r8.2 ref.go:291
      refine WS.det rfl rfl rfl (det_lt rfl rfl) rfl ?_ -- r8.3 ref.go:291
      refine WS.done ?_
      refine QS.then_code ?_
      refine CS.cond rfl (fun hc3 => ?_) (fun hc3 => ?_) <;> (try simp only [decide_eq_true_eq, decide_eq_false_iff_not, Bool.and_eq_true, Bool.or_eq_true, Bool.and_eq_false_iff, Bool.or_eq_false_iff, Bool.not_eq_true', Bool.not_eq_false', ne_eq, Decidable.not_not, Bool.not_true, Bool.not_false, bne_iff_ne, bne_eq_false_iff_eq, beq_iff_eq, beq_eq_false_iff_ne] at hc3)
      · skip
        have hU : Use lw ls c (nth (readL lw ls cs) s) := ⟨hL, hcl, readL_nth hL hs1 (by omega)⟩
        refine CS.skip ?_
        refine QS.then_code ?_
        refine CS.seq ?_
        refine CS.block ?_
        refine CS.seq ?_
        refine CS.draw mixed (by kernel_rfl) (by kernel_rfl) ?_
        refine DS.det rfl rfl ((by first | exact det_ldCl rfl (by assumption) (by omega) tk36 | exact det_loadb0 (j := 1) rfl rfl tk36 | exact det_loadbN (j := 1) rfl rfl (by rfl) tk36 | exact det_loadwN rfl (by assumption) (by rfl) tk36 | exact det_loadbK (n := 7) (j := 1) rfl rfl rfl rfl tk36)) rfl ?_ -- r10.0 ref.go:292
        refine DS.det rfl rfl (det_move rfl) rfl ?_ -- r10.1 ref.go:292
        refine DS.det rfl rfl (det_move rfl) rfl ?_ -- r10.2 ref.go:292
        refine DS.det rfl rfl ((by first | exact det_idxL sl51 rfl rfl (by assumption) (by omega) (by omega) | exact det_idxO sl51 rfl rfl (by omega) (by omega))) rfl ?_ -- r10.3 ref.go:292
        refine DS.det rfl rfl ((by first | exact det_ldL rfl (by assumption) (by omega) tk24 | exact det_ldLR (j := 0) rfl rfl (by assumption) (by omega) tk24 | exact det_loadb (j := 0) rfl rfl rfl tk24 | exact det_loadb (j := 1) rfl rfl rfl tk24 | exact det_loadb (j := 2) rfl rfl rfl tk24 | exact det_loadb (j := 3) rfl rfl rfl tk24 | exact det_loadw rfl (by assumption) rfl tk24)) rfl ?_ -- r10.4 ref.go:292
        refine DS.det rfl rfl (det_callB rfl rfl ent66 (fun u hu => True_c _ _ _ _ _ _ u hU (hg1.st hu) ((hu.roL (j := 0) rfl).el s (by omega) (by omega)))) rfl ?_ -- r10.5 ref.go:292
        refine DS.det rfl rfl (det_not rfl) rfl ?_ -- r10.6 ref.go:292
        refine DS.done ?_
        refine QS.then_code ?_
        refine CS.cond rfl (fun hc4 => ?_) (fun hc4 => ?_) <;> (try simp only [decide_eq_true_eq, decide_eq_false_iff_not, Bool.and_eq_true, Bool.or_eq_true, Bool.and_eq_false_iff, Bool.or_eq_false_iff, Bool.not_eq_true', Bool.not_eq_false', ne_eq, Decidable.not_not, Bool.not_true, Bool.not_false, bne_iff_ne, bne_eq_false_iff_eq, beq_iff_eq, beq_eq_false_iff_ne] at hc4)
        · skip
          have him := imp_at hs1 (by omega) hs3 hc4
          refine CS.seq ?_
          refine CS.region ?_
          refine WS.det rfl rfl rfl (det_move rfl) rfl ?_ -- r11.0 ref.go:293
          refine WS.det rfl rfl rfl (det_move rfl) rfl ?_ -- r11.1 ref.go:293
          refine WS.det rfl rfl rfl ((by first | exact det_idxL sl51 rfl rfl (by assumption) (by omega) (by omega) | exact det_idxO sl51 rfl rfl (by omega) (by omega))) rfl ?_ -- r11.2 ref.go:293
          refine WS.det rfl rfl rfl ((by first | exact det_ldL rfl (by assumption) (by omega) tk24 | exact det_ldLR (j := 0) rfl rfl (by assumption) (by omega) tk24 | exact det_loadb (j := 0) rfl rfl rfl tk24 | exact det_loadb (j := 1) rfl rfl rfl tk24 | exact det_loadb (j := 2) rfl rfl rfl tk24 | exact det_loadb (j := 3) rfl rfl rfl tk24 | exact det_loadw rfl (by assumption) rfl tk24)) rfl ?_ -- r11.3 ref.go:293
          refine WS.det rfl rfl rfl (det_assign rfl) rfl ?_ -- r11.4 ref.go:293
          refine WS.det rfl rfl rfl (det_assign rfl) rfl ?_ -- r11.5 ref.go:293
          refine WS.det rfl rfl rfl (det_assign rfl) rfl ?_ -- r11.6 ref.go:293
          refine WS.done ?_
          refine QS.then_code ?_
          refine CS.ret ?_
          refine QS.block_ret ?_
          refine QS.then_ret ?_
          refine QS.then_ret ?_
          refine QS.block_ret ?_
          refine QS.then_ret ?_
          exact out3 rfl rfl rfl rfl (retIq (fun S u hs => SlL.el (Star.ro (j := 0) rfl hs) s hs1 (by omega)) (by simp [hie, him]) (by simp [hie, him])) -- ret 3
        · skip
          refine CS.skip ?_
          refine QS.block_normal ?_
          refine QS.then_code ?_
          refine CS.region ?_
          refine WS.det rfl rfl rfl (det_move rfl) rfl ?_ -- r9.0 ref.go:291
          refine WS.det rfl rfl rfl (det_add rfl rfl (by omega)) rfl ?_ -- r9.1 ref.go:291
          refine WS.det rfl rfl rfl (det_assign rfl) rfl ?_ -- r9.2 ref.go:291
          refine WS.done ?_
          exact QS.head (s + 1) rfl rfl ⟨⟨by omega, by omega, fun j h1 h2 => if hj : j = s then by rw [hj]; simpa using hc4 else hs3 j h1 (by omega)⟩, by omega⟩
      · skip
        have him := imp_all fun j h0 h1 => hs3 j h0 (by omega)
        refine CS.leave ?_
        refine QS.then_exit ?_
        refine QS.then_exit ?_
        refine QS.block_exit ?_
        refine QS.then_code ?_
        refine CS.seq ?_
        refine CS.region ?_
        refine WS.det rfl rfl rfl (det_assign rfl) rfl ?_ -- r12.0 ref.go:296
        refine WS.det rfl rfl rfl (det_assign rfl) rfl ?_ -- r12.1 ref.go:296
        refine WS.det rfl rfl rfl (det_assign rfl) rfl ?_ -- r12.2 ref.go:296
        refine WS.done ?_
        refine QS.then_code ?_
        refine CS.ret ?_
        exact out3 rfl rfl rfl rfl (retIn (by simp [hie, him]) (by simp [hie, him])) -- ret 4

end Go.Proofs.Ytldagbcceefcdaa
