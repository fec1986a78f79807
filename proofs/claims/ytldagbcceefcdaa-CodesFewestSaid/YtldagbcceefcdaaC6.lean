/- Contracts of functions, printed by a program of the prover (gen.py). -/
import Derived.Test.YtldagbcceefcdaaC4
import Derived.Test.YtldagbcceefcdaaC5
namespace Go.Proofs.Ytldagbcceefcdaa
open Go.RowKit Go.Proofs
set_option maxRecDepth 100000
set_option linter.unusedVariables false
set_option linter.unusedSimpArgs false

theorem IndexC_c (xs : List (Clue)) (v : Value) (gs : List Value) (w : World) (h1 : ClS w v xs gs) (g : Nat) (lb : List Value) (p : Clue → Bool) (hg : Ent Try.prog g)
    (hp : ∀ u, Below w.heap.size w u → ∀ i : Int, 0 ≤ i → i < xs.length → Calls Try.prog g ([.agg #[.int .i64 (nth xs i).k, .int .i64 (nth xs i).a, .int .i64 (nth xs i).b, .int .i64 (nth xs i).n, .int .i64 (nth xs i).m, nth gs i, .bool (nth xs i).nt]] ++ lb : List Value).toArray u (RetB u (.bool (p (nth xs i))))) :
    Calls Try.prog 86 #[v, .func (.func g) #[] lb.toArray] w (RetB w (.int .i64 (idxF p xs))) := by
  have hl1 := h1.le
  refine enter Try.func86 rfl rfl (Nat.le_of_ble_eq_true rfl) ?_
  refine CS.seq ?_
  refine CS.region ?_
  refine WS.det rfl rfl rfl (det_assign rfl) rfl ?_ -- r0.0 slices.go:107
  refine WS.done ?_
  refine QS.then_code ?_
  refine CS.seq ?_
  refine CS.seq ?_
  refine CS.region ?_
  refine WS.det rfl rfl rfl (det_move rfl) rfl ?_ -- r1.0 slices.go:108
  refine WS.det rfl rfl rfl ((by first | exact det_lenS sl31 rfl (by assumption) | exact det_lenS sl31 rfl (by first | exact SlL.sp (by assumption) | exact ClS.sp (by assumption)) | exact det_lenO sl31 rfl | exact det_lenV sl31 rfl ⟨_, _, rfl⟩)) rfl ?_ -- r1.1 slices.go:108
  refine WS.det rfl rfl rfl (det_move rfl) rfl ?_ -- r1.2 slices.go:108
  refine WS.done ?_
  refine QS.then_code ?_
  refine CS.block ?_
  refine CS.loopM (σ := Int) [4, 5, 9, 10, 11, 12, 13, 14, 15, 16, 17, 18] (fun s => [(8, .int .i64 s)]) (fun _ => _) (fun s => 0 ≤ s ∧ s ≤ xs.length ∧ ∀ j : Int, 0 ≤ j → j < s → p (nth xs j) = false) (fun s => (xs.length - s).toNat) 0 (fun _ _ => rfl) rfl rfl ⟨by omega, by omega, fun j h1 h2 => by omega⟩ ?_
  intro s t hs
  obtain ⟨hs1, hs2, hs3⟩ := hs
  refine CS.seq ?_
  refine CS.region ?_
  refine WS.det rfl rfl rfl (det_lt rfl rfl) rfl ?_ -- r2.0 slices.go:108
  refine WS.done ?_
  refine QS.then_code ?_
  refine CS.seq ?_
  refine CS.cond rfl (fun hc1 => ?_) (fun hc1 => ?_) <;> (try simp only [decide_eq_true_eq, decide_eq_false_iff_not, Bool.and_eq_true, Bool.or_eq_true, Bool.and_eq_false_iff, Bool.or_eq_false_iff, Bool.not_eq_true', Bool.not_eq_false', ne_eq, Decidable.not_not, Bool.not_true, Bool.not_false, bne_iff_ne, bne_eq_false_iff_eq, beq_iff_eq, beq_eq_false_iff_ne] at hc1)
  · skip
    refine CS.skip ?_
    refine QS.then_code ?_
    refine CS.seq ?_
    refine CS.block ?_
    refine CS.seq ?_
    refine CS.region ?_
    refine WS.det rfl rfl rfl (det_move rfl) rfl ?_ -- r3.0 slices.go:108
    refine WS.det rfl rfl rfl (det_assign rfl) rfl ?_ -- r3.1 slices.go:108
    refine WS.done ?_
    refine QS.then_code ?_
    refine CS.seq ?_
    refine CS.region ?_
    refine WS.det rfl rfl rfl (det_move rfl) rfl ?_ -- r4.0 slices.go:109
    refine WS.det rfl rfl rfl (det_move rfl) rfl ?_ -- r4.1 slices.go:109
    refine WS.det rfl rfl rfl (det_move rfl) rfl ?_ -- r4.2 slices.go:109
    refine WS.det rfl rfl rfl (det_idxCl sl31 rfl rfl (by assumption) (by omega) (by omega)) rfl ?_ -- r4.3 slices.go:109
    refine WS.det rfl rfl rfl ((by first | exact det_ldCl rfl (by assumption) (by omega) tk36 | exact det_loadb0 (j := 0) rfl rfl tk36 | exact det_loadb0 (j := 1) rfl rfl tk36 | exact det_loadb0 (j := 2) rfl rfl tk36 | exact det_loadb0 (j := 3) rfl rfl tk36 | exact det_loadbN (j := 0) rfl rfl (by rfl) tk36 | exact det_loadbN (j := 1) rfl rfl (by rfl) tk36 | exact det_loadbN (j := 2) rfl rfl (by rfl) tk36 | exact det_loadbN (j := 3) rfl rfl (by rfl) tk36 | exact det_loadwN rfl (by assumption) (by rfl) tk36)) rfl ?_ -- r4.4 slices.go:109
    refine WS.det rfl rfl rfl (det_callB rfl rfl hg (fun u hu => hp u hu.below s (by omega) (by omega))) rfl ?_ -- r4.5 slices.go:109
    refine WS.done ?_
    refine QS.then_code ?_
    refine CS.cond rfl (fun hc2 => ?_) (fun hc2 => ?_) <;> (try simp only [decide_eq_true_eq, decide_eq_false_iff_not, Bool.and_eq_true, Bool.or_eq_true, Bool.and_eq_false_iff, Bool.or_eq_false_iff, Bool.not_eq_true', Bool.not_eq_false', ne_eq, Decidable.not_not, Bool.not_true, Bool.not_false, bne_iff_ne, bne_eq_false_iff_eq, beq_iff_eq, beq_eq_false_iff_ne] at hc2)
    · skip
      refine CS.seq ?_
      refine CS.region ?_
      refine WS.det rfl rfl rfl (det_move rfl) rfl ?_ -- r5.0 slices.go:110
      refine WS.det rfl rfl rfl (det_assign rfl) rfl ?_ -- r5.1 slices.go:110
      refine WS.done ?_
      refine QS.then_code ?_
      refine CS.ret ?_
      refine QS.block_ret ?_
      refine QS.then_ret ?_
      refine QS.then_ret ?_
      refine QS.block_ret ?_
      refine QS.then_ret ?_
      exact out1 rfl rfl (retBe (by rw [idxF_found hs1 (by omega) hs3 hc2])) -- ret 1
    · skip
      refine CS.skip ?_
      refine QS.block_normal ?_
      refine QS.then_code ?_
      refine CS.region ?_
      refine WS.det rfl rfl rfl (det_add rfl rfl (by omega)) rfl ?_ -- r6.0 slices.go:108
      refine WS.det rfl rfl rfl (det_move rfl) rfl ?_ -- r6.1 slices.go:108
      refine WS.done ?_
      exact QS.head (s + 1) rfl rfl ⟨⟨by omega, by omega, fun j h1 h2 => if hj : j = s then by rw [hj]; exact hc2 else hs3 j h1 (by omega)⟩, by omega⟩
  · skip
    refine CS.leave ?_
    refine QS.then_exit ?_
    refine QS.then_exit ?_
    refine QS.block_exit ?_
    refine QS.then_code ?_
    refine CS.seq ?_
    refine CS.region ?_
    refine WS.det rfl rfl rfl (det_assign rfl) rfl ?_ -- r7.0 slices.go:113
    refine WS.done ?_
    refine QS.then_code ?_
    refine CS.ret ?_
    exact out1 rfl rfl (retBe (by rw [idxF_none fun j h1 h2 => hs3 j h1 (by omega)])) -- ret 2

theorem ContainsC_c (xs : List (Clue)) (v : Value) (gs : List Value) (w : World) (h1 : ClS w v xs gs) (g : Nat) (lb : List Value) (p : Clue → Bool) (hg : Ent Try.prog g)
    (hp : ∀ u, Below w.heap.size w u → ∀ i : Int, 0 ≤ i → i < xs.length → Calls Try.prog g ([.agg #[.int .i64 (nth xs i).k, .int .i64 (nth xs i).a, .int .i64 (nth xs i).b, .int .i64 (nth xs i).n, .int .i64 (nth xs i).m, nth gs i, .bool (nth xs i).nt]] ++ lb : List Value).toArray u (RetB u (.bool (p (nth xs i))))) :
    Calls Try.prog 84 #[v, .func (.func g) #[] lb.toArray] w (RetB w (.bool (xs.any p))) := by
  refine enter Try.func84 rfl rfl (Nat.le_of_ble_eq_true rfl) ?_
  refine CS.seq ?_
  refine CS.region ?_
  refine WS.det rfl rfl rfl (det_assign rfl) rfl ?_ -- r0.0 slices.go:124
  refine WS.done ?_
  refine QS.then_code ?_
  refine CS.seq ?_
  refine CS.region ?_
  refine WS.det rfl rfl rfl (det_move rfl) rfl ?_ -- r1.0 slices.go:125
  refine WS.det rfl rfl rfl (det_move rfl) rfl ?_ -- r1.1 slices.go:125
  refine WS.det rfl rfl rfl (det_callB rfl rfl ent86 (fun u hu => IndexC_c xs v gs u (h1.st hu) g lb p hg (fun u2 h2 => hp u2 (below_trans hu.below h2)))) rfl ?_ -- r1.2 slices.go:125
  refine WS.det rfl rfl rfl (det_ge rfl rfl) rfl ?_ -- r1.3 slices.go:125
  refine WS.det rfl rfl rfl (det_assign rfl) rfl ?_ -- r1.4 slices.go:125
  refine WS.done ?_
  refine QS.then_code ?_
  refine CS.ret ?_
  exact out1 rfl rfl (retBe (by rw [idxF_any])) -- ret 1

theorem holds_c (lw ls : Int) (c : Clue) (gv : Value) (xs : List Int) (v : Value) (w : World) (hU : Use lw ls c xs) (hg1 : SlI w gv c.g) (h1 : SlI w v xs) :
    Calls Try.prog 65 #[.agg #[.int .i64 c.k, .int .i64 c.a, .int .i64 c.b, .int .i64 c.n, .int .i64 c.m, gv, .bool c.nt], v] w (RetB w (.bool (holdsT c xs))) := by
  refine enter Try.func65 rfl rfl (Nat.le_of_ble_eq_true rfl) ?_
  refine CS.seq ?_
  refine CS.region ?_
  refine WS.box rfl rfl (fun _ => rfl) ?_; intro b2 hb2 -- r0.0 codes.go:157
  refine WS.det rfl rfl rfl (det_assign rfl) rfl ?_ -- r0.1 codes.go:157
  refine WS.done ?_
  refine QS.then_code ?_
  refine CS.seq ?_
  refine CS.draw mixed (by kernel_rfl) (by kernel_rfl) ?_
  refine DS.det rfl rfl ((by first | exact det_ldCl rfl (by assumption) (by omega) tk36 | exact det_loadb0 (j := 0) rfl rfl tk36 | exact det_loadbN (j := 0) rfl rfl (by rfl) tk36 | exact det_loadwN rfl (by assumption) (by rfl) tk36)) rfl ?_ -- r1.0 codes.go:157
  refine DS.det rfl rfl (det_move rfl) rfl ?_ -- r1.1 codes.go:157
  refine DS.det rfl rfl (det_callB rfl rfl ent91 (fun u hu => plain_c _ _ _ _ _ _ u hU (hg1.st hu) (h1.st hu))) rfl ?_ -- r1.2 codes.go:157
  refine DS.det rfl rfl ((by first | exact det_fieldAddr rfl fo36_6 | exact det_fieldAddrS rfl fo36_6)) rfl ?_ -- r1.3 codes.go:157
  refine DS.det rfl rfl ((by first | exact det_loadb (j := 0) rfl rfl rfl tk4 | exact det_loadw rfl (by assumption) rfl tk4)) rfl ?_ -- r1.4 codes.go:157
  refine DS.det rfl rfl (det_neb rfl rfl Try.underlying4) rfl ?_ -- r1.5 codes.go:157
  refine DS.det rfl rfl (det_assign rfl) rfl ?_ -- r1.6 codes.go:157
  refine DS.done ?_
  refine QS.then_code ?_
  refine CS.ret ?_
  exact out1 rfl rfl (retBe rfl) -- ret 1

theorem CheckClue_c (lw ls : Int) (c : Clue) (gv : Value) (w : World) (hg1 : SlI w gv c.g) :
    Calls Try.prog 25 #[.agg #[.int .i64 lw, .int .i64 ls], .agg #[.int .i64 c.k, .int .i64 c.a, .int .i64 c.b, .int .i64 c.n, .int .i64 c.m, gv, .bool c.nt]] w (RetB w (.int .i64 (clueE lw ls c))) := by
  have h1 := hg1
  refine enter Try.func25 rfl rfl (Nat.le_of_ble_eq_true rfl) ?_
  refine CS.seq ?_
  refine CS.region ?_
  refine WS.box rfl rfl (fun _ => rfl) ?_; intro b2 hb2 -- r0.0 codes.go:63
  refine WS.box rfl rfl (fun _ => rfl) ?_; intro b3 hb3 -- r0.1 codes.go:63
  refine WS.det rfl rfl rfl (det_assign rfl) rfl ?_ -- r0.2 codes.go:63
  refine WS.done ?_
  refine QS.then_code ?_
  refine CS.seq ?_
  refine CS.seq ?_
  refine CS.region ?_
  refine WS.det rfl rfl rfl ((by first | exact det_loadb0 (j := 1) rfl rfl tk23 | exact det_loadbN (j := 1) rfl rfl (by rfl) tk23 | exact det_loadwN rfl (by assumption) (by rfl) tk23)) rfl ?_ -- r1.0 codes.go:64
  refine WS.det rfl rfl rfl (det_callB rfl rfl ent23 (fun u hu => Check_c _ _ u)) rfl ?_ -- r1.1 codes.go:64
  refine WS.det rfl rfl rfl (det_assign rfl) rfl ?_ -- r1.2 codes.go:64
  refine WS.done ?_
  refine QS.then_code ?_
  refine CS.seq ?_
  refine CS.region ?_
  refine WS.det rfl rfl rfl (det_move rfl) rfl ?_ -- r2.0 codes.go:64
  refine WS.det rfl rfl rfl (det_ne rfl rfl) rfl ?_ -- r2.1 codes.go:64
  refine WS.done ?_
  refine QS.then_code ?_
  refine CS.cond rfl (fun hc1 => ?_) (fun hc1 => ?_) <;> (try simp only [decide_eq_true_eq, decide_eq_false_iff_not, Bool.and_eq_true, Bool.or_eq_true, Bool.and_eq_false_iff, Bool.or_eq_false_iff, Bool.not_eq_true', Bool.not_eq_false', ne_eq, Decidable.not_not, Bool.not_true, Bool.not_false, bne_iff_ne, bne_eq_false_iff_eq, beq_iff_eq, beq_eq_false_iff_ne] at hc1)
  · skip
    refine CS.seq ?_
    refine CS.region ?_
    refine WS.det rfl rfl rfl (det_move rfl) rfl ?_ -- r3.0 codes.go:65
    refine WS.det rfl rfl rfl (det_assign rfl) rfl ?_ -- r3.1 codes.go:65
    refine WS.done ?_
    refine QS.then_code ?_
    refine CS.ret ?_
    refine QS.then_ret ?_
    exact out1 rfl rfl (retBe (by have : lockB lw ls = false := (by simpa [lockE] using hc1); simp [clueE, lockE, this])) -- ret 1
  · skip
    have hL : lockB lw ls = true := by simpa [lockE] using hc1
    refine CS.skip ?_
    refine QS.then_code ?_
    refine CS.seq ?_
    refine CS.seq ?_
    refine CS.region ?_
    refine WS.det rfl rfl rfl ((by first | exact det_loadb0 (j := 1) rfl rfl tk23 | exact det_loadbN (j := 1) rfl rfl (by rfl) tk23 | exact det_loadwN rfl (by assumption) (by rfl) tk23)) rfl ?_ -- r4.0 codes.go:67
    refine WS.det rfl rfl rfl ((by first | exact det_ldCl rfl (by assumption) (by omega) tk36 | exact det_loadb0 (j := 0) rfl rfl tk36 | exact det_loadbN (j := 0) rfl rfl (by rfl) tk36 | exact det_loadwN rfl (by assumption) (by rfl) tk36)) rfl ?_ -- r4.1 codes.go:67
    refine WS.det rfl rfl rfl (det_callB rfl rfl ent63 (fun u hu => clue_c _ _ _ _ u hL (h1.st hu))) rfl ?_ -- r4.2 codes.go:67
    refine WS.det rfl rfl rfl (det_not rfl) rfl ?_ -- r4.3 codes.go:67
    refine WS.done ?_
    refine QS.then_code ?_
    refine CS.cond rfl (fun hc2 => ?_) (fun hc2 => ?_) <;> (try simp only [decide_eq_true_eq, decide_eq_false_iff_not, Bool.and_eq_true, Bool.or_eq_true, Bool.and_eq_false_iff, Bool.or_eq_false_iff, Bool.not_eq_true', Bool.not_eq_false', ne_eq, Decidable.not_not, Bool.not_true, Bool.not_false, bne_iff_ne, bne_eq_false_iff_eq, beq_iff_eq, beq_eq_false_iff_ne] at hc2)
    · skip
      refine CS.seq ?_
      refine CS.region ?_
      refine WS.det rfl rfl rfl (det_assign rfl) rfl ?_ -- r5.0 codes.go:68
      refine WS.done ?_
      refine QS.then_code ?_
      refine CS.ret ?_
      refine QS.then_ret ?_
      exact out1 rfl rfl (retBe (by simp [clueE, hL, hc2])) -- ret 2
    · skip
      refine CS.skip ?_
      refine QS.then_code ?_
      refine CS.seq ?_
      refine CS.region ?_
      refine WS.det rfl rfl rfl (det_assign rfl) rfl ?_ -- r6.0 codes.go:70
      refine WS.done ?_
      refine QS.then_code ?_
      refine CS.ret ?_
      exact out1 rfl rfl (retBe (by simp [clueE, hL, hc2])) -- ret 3

theorem RCheckClue_c (lw ls : Int) (c : Clue) (gv : Value) (w : World) (hg1 : SlI w gv c.g) :
    Calls Try.prog 26 #[.agg #[.int .i64 lw, .int .i64 ls], .agg #[.int .i64 c.k, .int .i64 c.a, .int .i64 c.b, .int .i64 c.n, .int .i64 c.m, gv, .bool c.nt]] w (RetB w (.int .i64 (clueE lw ls c))) := by
  have h1 := hg1
  refine enter Try.func26 rfl rfl (Nat.le_of_ble_eq_true rfl) ?_
  refine CS.seq ?_
  refine CS.region ?_
  refine WS.box rfl rfl (fun _ => rfl) ?_; intro b2 hb2 -- r0.0 ref.go:86
  refine WS.box rfl rfl (fun _ => rfl) ?_; intro b3 hb3 -- r0.1 ref.go:86
  refine WS.det rfl rfl rfl (det_assign rfl) rfl ?_ -- r0.2 ref.go:86
  refine WS.done ?_
  refine QS.then_code ?_
  refine CS.seq ?_
  refine CS.seq ?_
  refine CS.region ?_
  refine WS.det rfl rfl rfl ((by first | exact det_loadb0 (j := 1) rfl rfl tk23 | exact det_loadbN (j := 1) rfl rfl (by rfl) tk23 | exact det_loadwN rfl (by assumption) (by rfl) tk23)) rfl ?_ -- r1.0 ref.go:87
  refine WS.det rfl rfl rfl (det_callB rfl rfl ent24 (fun u hu => RCheck_c _ _ u)) rfl ?_ -- r1.1 ref.go:87
  refine WS.det rfl rfl rfl (det_assign rfl) rfl ?_ -- r1.2 ref.go:87
  refine WS.done ?_
  refine QS.then_code ?_
  refine CS.seq ?_
  refine CS.region ?_
  refine WS.det rfl rfl rfl (det_move rfl) rfl ?_ -- r2.0 ref.go:87
  refine WS.det rfl rfl rfl (det_ne rfl rfl) rfl ?_ -- r2.1 ref.go:87
  refine WS.done ?_
  refine QS.then_code ?_
  refine CS.cond rfl (fun hc1 => ?_) (fun hc1 => ?_) <;> (try simp only [decide_eq_true_eq, decide_eq_false_iff_not, Bool.and_eq_true, Bool.or_eq_true, Bool.and_eq_false_iff, Bool.or_eq_false_iff, Bool.not_eq_true', Bool.not_eq_false', ne_eq, Decidable.not_not, Bool.not_true, Bool.not_false, bne_iff_ne, bne_eq_false_iff_eq, beq_iff_eq, beq_eq_false_iff_ne] at hc1)
  · skip
    refine CS.seq ?_
    refine CS.region ?_
    refine WS.det rfl rfl rfl (det_move rfl) rfl ?_ -- r3.0 ref.go:88
    refine WS.det rfl rfl rfl (det_assign rfl) rfl ?_ -- r3.1 ref.go:88
    refine WS.done ?_
    refine QS.then_code ?_
    refine CS.ret ?_
    refine QS.then_ret ?_
    exact out1 rfl rfl (retBe (by have : lockB lw ls = false := (by simpa [lockE] using hc1); simp [clueE, lockE, this])) -- ret 1
  · skip
    have hL : lockB lw ls = true := by simpa [lockE] using hc1
    refine CS.skip ?_
    refine QS.then_code ?_
    refine CS.seq ?_
    refine CS.seq ?_
    refine CS.region ?_
    refine WS.det rfl rfl rfl ((by first | exact det_loadb0 (j := 1) rfl rfl tk23 | exact det_loadbN (j := 1) rfl rfl (by rfl) tk23 | exact det_loadwN rfl (by assumption) (by rfl) tk23)) rfl ?_ -- r4.0 ref.go:90
    refine WS.det rfl rfl rfl ((by first | exact det_ldCl rfl (by assumption) (by omega) tk36 | exact det_loadb0 (j := 0) rfl rfl tk36 | exact det_loadbN (j := 0) rfl rfl (by rfl) tk36 | exact det_loadwN rfl (by assumption) (by rfl) tk36)) rfl ?_ -- r4.1 ref.go:90
    refine WS.det rfl rfl rfl (det_callB rfl rfl ent64 (fun u hu => isClue_c _ _ _ _ u hL (h1.st hu))) rfl ?_ -- r4.2 ref.go:90
    refine WS.det rfl rfl rfl (det_not rfl) rfl ?_ -- r4.3 ref.go:90
    refine WS.done ?_
    refine QS.then_code ?_
    refine CS.cond rfl (fun hc2 => ?_) (fun hc2 => ?_) <;> (try simp only [decide_eq_true_eq, decide_eq_false_iff_not, Bool.and_eq_true, Bool.or_eq_true, Bool.and_eq_false_iff, Bool.or_eq_false_iff, Bool.not_eq_true', Bool.not_eq_false', ne_eq, Decidable.not_not, Bool.not_true, Bool.not_false, bne_iff_ne, bne_eq_false_iff_eq, beq_iff_eq, beq_eq_false_iff_ne] at hc2)
    · skip
      refine CS.seq ?_
      refine CS.region ?_
      refine WS.det rfl rfl rfl (det_assign rfl) rfl ?_ -- r5.0 ref.go:91
      refine WS.done ?_
      refine QS.then_code ?_
      refine CS.ret ?_
      refine QS.then_ret ?_
      exact out1 rfl rfl (retBe (by simp [clueE, hL, hc2])) -- ret 2
    · skip
      refine CS.skip ?_
      refine QS.then_code ?_
      refine CS.seq ?_
      refine CS.region ?_
      refine WS.det rfl rfl rfl (det_assign rfl) rfl ?_ -- r6.0 ref.go:93
      refine WS.done ?_
      refine QS.then_code ?_
      refine CS.ret ?_
      exact out1 rfl rfl (retBe (by simp [clueE, hL, hc2])) -- ret 3

theorem checkCluesF_c (lw ls : Int) (c : Clue) (gv : Value) (b : Nat) (e : TypeId) (w : World) (hL : lockB lw ls = true) (hg1 : SlI w gv c.g) (hb : BlkAt w b [.int .i64 lw, .int .i64 ls] e) :
    Calls Try.prog 85 #[.agg #[.int .i64 c.k, .int .i64 c.a, .int .i64 c.b, .int .i64 c.n, .int .i64 c.m, gv, .bool c.nt], .pointer (some ⟨b, 0, none⟩)] w (RetB w (.bool (!clueB lw ls c))) := by
  have h1 := hg1
  refine enter Try.func85 rfl rfl (Nat.le_of_ble_eq_true rfl) ?_
  refine CS.seq ?_
  refine CS.region ?_
  refine WS.box rfl rfl (fun _ => rfl) ?_; intro b2 hb2 -- r0.0 codes.go:95
  refine WS.det rfl rfl rfl (det_assign rfl) rfl ?_ -- r0.1 codes.go:95
  refine WS.done ?_
  refine QS.then_code ?_
  refine CS.seq ?_
  refine CS.region ?_
  refine WS.det rfl rfl rfl ((by first | exact det_loadb0 (j := 0) rfl rfl tk23 | exact det_loadb0 (j := 1) rfl rfl tk23 | exact det_loadb0 (j := 2) rfl rfl tk23 | exact det_loadb0 (j := 3) rfl rfl tk23 | exact det_loadbN (j := 0) rfl rfl (by rfl) tk23 | exact det_loadbN (j := 1) rfl rfl (by rfl) tk23 | exact det_loadbN (j := 2) rfl rfl (by rfl) tk23 | exact det_loadbN (j := 3) rfl rfl (by rfl) tk23 | exact det_loadwN rfl (by assumption) (by rfl) tk23)) rfl ?_ -- r1.0 codes.go:95
  refine WS.det rfl rfl rfl ((by first | exact det_ldCl rfl (by assumption) (by omega) tk36 | exact det_loadb0 (j := 0) rfl rfl tk36 | exact det_loadbN (j := 0) rfl rfl (by rfl) tk36 | exact det_loadwN rfl (by assumption) (by rfl) tk36)) rfl ?_ -- r1.1 codes.go:95
  refine WS.det rfl rfl rfl (det_callB rfl rfl ent63 (fun u hu => clue_c _ _ _ _ u hL (h1.st hu))) rfl ?_ -- r1.2 codes.go:95
  refine WS.det rfl rfl rfl (det_not rfl) rfl ?_ -- r1.3 codes.go:95
  refine WS.det rfl rfl rfl (det_assign rfl) rfl ?_ -- r1.4 codes.go:95
  refine WS.done ?_
  refine QS.then_code ?_
  refine CS.ret ?_
  exact out1 rfl rfl retB -- ret 1

theorem checkClues_c (lw ls : Int) (cs : List Clue) (gs : List Value) (v : Value) (w : World) (h1 : ClS w v cs gs) :
    Calls Try.prog 57 #[.agg #[.int .i64 lw, .int .i64 ls], v] w (RetB w (.int .i64 (cluesE lw ls cs))) := by
  have hl1 := h1.le
  refine enter Try.func57 rfl rfl (Nat.le_of_ble_eq_true rfl) ?_
  refine CS.seq ?_
  refine CS.region ?_
  refine WS.box rfl rfl (fun _ => rfl) ?_; intro b2 hb2 -- r0.0 codes.go:88
  refine WS.det rfl rfl rfl (det_assign rfl) rfl ?_ -- r0.1 codes.go:88
  refine WS.done ?_
  refine QS.then_code ?_
  refine CS.seq ?_
  refine CS.seq ?_
  refine CS.region ?_
  refine WS.det rfl rfl rfl ((by first | exact det_loadb0 (j := 0) rfl rfl tk23 | exact det_loadbN (j := 0) rfl rfl (by rfl) tk23 | exact det_loadwN rfl (by assumption) (by rfl) tk23)) rfl ?_ -- r1.0 codes.go:89
  refine WS.det rfl rfl rfl (det_callB rfl rfl ent23 (fun u hu => Check_c _ _ u)) rfl ?_ -- r1.1 codes.go:89
  refine WS.det rfl rfl rfl (det_assign rfl) rfl ?_ -- r1.2 codes.go:89
  refine WS.done ?_
  refine QS.then_code ?_
  refine CS.seq ?_
  refine CS.region ?_
  refine WS.det rfl rfl rfl (det_move rfl) rfl ?_ -- r2.0 codes.go:89
  refine WS.det rfl rfl rfl (det_ne rfl rfl) rfl ?_ -- r2.1 codes.go:89
  refine WS.done ?_
  refine QS.then_code ?_
  refine CS.cond rfl (fun hc1 => ?_) (fun hc1 => ?_) <;> (try simp only [decide_eq_true_eq, decide_eq_false_iff_not, Bool.and_eq_true, Bool.or_eq_true, Bool.and_eq_false_iff, Bool.or_eq_false_iff, Bool.not_eq_true', Bool.not_eq_false', ne_eq, Decidable.not_not, Bool.not_true, Bool.not_false, bne_iff_ne, bne_eq_false_iff_eq, beq_iff_eq, beq_eq_false_iff_ne] at hc1)
  · skip
    refine CS.seq ?_
    refine CS.region ?_
    refine WS.det rfl rfl rfl (det_move rfl) rfl ?_ -- r3.0 codes.go:90
    refine WS.det rfl rfl rfl (det_assign rfl) rfl ?_ -- r3.1 codes.go:90
    refine WS.done ?_
    refine QS.then_code ?_
    refine CS.ret ?_
    refine QS.then_ret ?_
    exact out1 rfl rfl (retBe (by have : lockB lw ls = false := (by simpa [lockE] using hc1); simp [cluesE, lockE, this])) -- ret 1
  · skip
    have hL : lockB lw ls = true := by simpa [lockE] using hc1
    refine CS.skip ?_
    refine QS.then_code ?_
    refine CS.seq ?_
    refine CS.seq ?_
    refine CS.region ?_
    refine WS.det rfl rfl rfl (det_move rfl) rfl ?_ -- r4.0 codes.go:92
    refine WS.det rfl rfl rfl ((by first | exact det_lenS sl31 rfl (by assumption) | exact det_lenS sl31 rfl (by first | exact SlL.sp (by assumption) | exact ClS.sp (by assumption)) | exact det_lenO sl31 rfl | exact det_lenV sl31 rfl ⟨_, _, rfl⟩)) rfl ?_ -- r4.1 codes.go:92
    refine WS.det rfl rfl rfl (det_gt rfl rfl) rfl ?_ -- r4.2 codes.go:92
    refine WS.done ?_
    refine QS.then_code ?_
    refine CS.cond rfl (fun hc2 => ?_) (fun hc2 => ?_) <;> (try simp only [decide_eq_true_eq, decide_eq_false_iff_not, Bool.and_eq_true, Bool.or_eq_true, Bool.and_eq_false_iff, Bool.or_eq_false_iff, Bool.not_eq_true', Bool.not_eq_false', ne_eq, Decidable.not_not, Bool.not_true, Bool.not_false, bne_iff_ne, bne_eq_false_iff_eq, beq_iff_eq, beq_eq_false_iff_ne] at hc2)
    · skip
      refine CS.seq ?_
      refine CS.region ?_
      refine WS.det rfl rfl rfl (det_assign rfl) rfl ?_ -- r5.0 codes.go:93
      refine WS.done ?_
      refine QS.then_code ?_
      refine CS.ret ?_
      refine QS.then_ret ?_
      exact out1 rfl rfl (retBe (by have : 20 < (cs.length : Int) := (by omega); simp [cluesE, hL, this])) -- ret 2
    · skip
      refine CS.skip ?_
      refine QS.then_code ?_
      refine CS.seq ?_
      refine CS.seq ?_
      refine CS.region ?_
      refine WS.det rfl rfl rfl (det_move rfl) rfl ?_ -- r6.0 codes.go:95
      refine WS.det rfl rfl rfl (det_makeFunc rfl) rfl ?_ -- r6.1 codes.go:95
      refine WS.det rfl rfl rfl (det_callB rfl rfl ent84 (fun u hu => ContainsC_c cs v gs u (h1.st hu) _ [.pointer (some ⟨b2, 0, none⟩)] (fun c => !clueB lw ls c) ent85 (fun u2 h2 i h3 h4 => checkCluesF_c _ _ _ _ _ _ u2 hL (((h1.st hu).ext h2).el i h3 h4) ((st_blk hu (j := 0) rfl).ext h2)))) rfl ?_ -- r6.2 codes.go:95
      refine WS.done ?_
      refine QS.then_code ?_
      refine CS.cond rfl (fun hc3 => ?_) (fun hc3 => ?_) <;> (try simp only [decide_eq_true_eq, decide_eq_false_iff_not, Bool.and_eq_true, Bool.or_eq_true, Bool.and_eq_false_iff, Bool.or_eq_false_iff, Bool.not_eq_true', Bool.not_eq_false', ne_eq, Decidable.not_not, Bool.not_true, Bool.not_false, bne_iff_ne, bne_eq_false_iff_eq, beq_iff_eq, beq_eq_false_iff_ne] at hc3)
      · skip
        refine CS.seq ?_
        refine CS.region ?_
        refine WS.det rfl rfl rfl (det_assign rfl) rfl ?_ -- r7.0 codes.go:96
        refine WS.done ?_
        refine QS.then_code ?_
        refine CS.ret ?_
        refine QS.then_ret ?_
        exact out1 rfl rfl (retBe (by have h20 : ¬ 20 < (cs.length : Int) := (by omega); have h3 : cs.all (clueB lw ls) = false := (by simpa using hc3); simp [cluesE, hL, h20, h3])) -- ret 3
      · skip
        refine CS.skip ?_
        refine QS.then_code ?_
        refine CS.seq ?_
        refine CS.region ?_
        refine WS.det rfl rfl rfl (det_assign rfl) rfl ?_ -- r8.0 codes.go:98
        refine WS.done ?_
        refine QS.then_code ?_
        refine CS.ret ?_
        exact out1 rfl rfl (retBe (by have h20 : ¬ 20 < (cs.length : Int) := (by omega); have h3 : cs.all (clueB lw ls) = true := (by simpa using hc3); simp only [cluesE, hL, h20, h3, if_true, if_false])) -- ret 4

theorem RCheckClues_c (lw ls : Int) (cs : List Clue) (gs : List Value) (v : Value) (w : World) (h1 : ClS w v cs gs) :
    Calls Try.prog 33 #[.agg #[.int .i64 lw, .int .i64 ls], v] w (RetB w (.int .i64 (cluesE lw ls cs))) := by
  have hl1 := h1.le
  refine enter Try.func33 rfl rfl (Nat.le_of_ble_eq_true rfl) ?_
  refine CS.seq ?_
  refine CS.region ?_
  refine WS.box rfl rfl (fun _ => rfl) ?_; intro b2 hb2 -- r0.0 ref.go:108
  refine WS.det rfl rfl rfl (det_assign rfl) rfl ?_ -- r0.1 ref.go:108
  refine WS.done ?_
  refine QS.then_code ?_
  refine CS.seq ?_
  refine CS.seq ?_
  refine CS.region ?_
  refine WS.det rfl rfl rfl ((by first | exact det_loadb0 (j := 0) rfl rfl tk23 | exact det_loadbN (j := 0) rfl rfl (by rfl) tk23 | exact det_loadwN rfl (by assumption) (by rfl) tk23)) rfl ?_ -- r1.0 ref.go:109
  refine WS.det rfl rfl rfl (det_callB rfl rfl ent24 (fun u hu => RCheck_c _ _ u)) rfl ?_ -- r1.1 ref.go:109
  refine WS.det rfl rfl rfl (det_assign rfl) rfl ?_ -- r1.2 ref.go:109
  refine WS.done ?_
  refine QS.then_code ?_
  refine CS.seq ?_
  refine CS.region ?_
  refine WS.det rfl rfl rfl (det_move rfl) rfl ?_ -- r2.0 ref.go:109
  refine WS.det rfl rfl rfl (det_ne rfl rfl) rfl ?_ -- r2.1 ref.go:109
  refine WS.done ?_
  refine QS.then_code ?_
  refine CS.cond rfl (fun hc1 => ?_) (fun hc1 => ?_) <;> (try simp only [decide_eq_true_eq, decide_eq_false_iff_not, Bool.and_eq_true, Bool.or_eq_true, Bool.and_eq_false_iff, Bool.or_eq_false_iff, Bool.not_eq_true', Bool.not_eq_false', ne_eq, Decidable.not_not, Bool.not_true, Bool.not_false, bne_iff_ne, bne_eq_false_iff_eq, beq_iff_eq, beq_eq_false_iff_ne] at hc1)
  · skip
    refine CS.seq ?_
    refine CS.region ?_
    refine WS.det rfl rfl rfl (det_move rfl) rfl ?_ -- r3.0 ref.go:110
    refine WS.det rfl rfl rfl (det_assign rfl) rfl ?_ -- r3.1 ref.go:110
    refine WS.done ?_
    refine QS.then_code ?_
    refine CS.ret ?_
    refine QS.then_ret ?_
    exact out1 rfl rfl (retBe (by have : lockB lw ls = false := (by simpa [lockE] using hc1); simp [cluesE, lockE, this])) -- ret 1
  · skip
    have hL : lockB lw ls = true := by simpa [lockE] using hc1
    refine CS.skip ?_
    refine QS.then_code ?_
    refine CS.seq ?_
    refine CS.seq ?_
    refine CS.region ?_
    refine WS.det rfl rfl rfl (det_move rfl) rfl ?_ -- r4.0 ref.go:112
    refine WS.det rfl rfl rfl ((by first | exact det_lenS sl31 rfl (by assumption) | exact det_lenS sl31 rfl (by first | exact SlL.sp (by assumption) | exact ClS.sp (by assumption)) | exact det_lenO sl31 rfl | exact det_lenV sl31 rfl ⟨_, _, rfl⟩)) rfl ?_ -- r4.1 ref.go:112
    refine WS.det rfl rfl rfl (det_gt rfl rfl) rfl ?_ -- r4.2 ref.go:112
    refine WS.done ?_
    refine QS.then_code ?_
    refine CS.cond rfl (fun hc2 => ?_) (fun hc2 => ?_) <;> (try simp only [decide_eq_true_eq, decide_eq_false_iff_not, Bool.and_eq_true, Bool.or_eq_true, Bool.and_eq_false_iff, Bool.or_eq_false_iff, Bool.not_eq_true', Bool.not_eq_false', ne_eq, Decidable.not_not, Bool.not_true, Bool.not_false, bne_iff_ne, bne_eq_false_iff_eq, beq_iff_eq, beq_eq_false_iff_ne] at hc2)
    · skip
      refine CS.seq ?_
      refine CS.region ?_
      refine WS.det rfl rfl rfl (det_assign rfl) rfl ?_ -- r5.0 ref.go:113
      refine WS.done ?_
      refine QS.then_code ?_
      refine CS.ret ?_
      refine QS.then_ret ?_
      exact out1 rfl rfl (retBe (by have : 20 < (cs.length : Int) := (by omega); simp [cluesE, hL, this])) -- ret 2
    · skip
      have h20 : ¬ 20 < (cs.length : Int) := by omega
      refine CS.skip ?_
      refine QS.then_code ?_
      refine CS.seq ?_
      refine CS.seq ?_
      refine CS.region ?_
      refine WS.det rfl rfl rfl (det_assign rfl) rfl ?_ -- r6.0 ref.go:115
      refine WS.done ?_
      refine QS.then_code ?_
      refine CS.block ?_
      refine CS.loopM (σ := Int) [4, 15, 16, 17, 18, 19, 20, 21, 22, 23, 24, 25, 26, 27] (fun s => [(6, .int .i64 s)]) (fun _ => _) (fun s => 0 ≤ s ∧ s ≤ cs.length ∧ ∀ j : Int, 0 ≤ j → j < s → clueB lw ls (nth cs j) = true) (fun s => (cs.length - s).toNat) 0 (fun _ _ => rfl) rfl rfl ⟨by omega, by omega, fun j h1 h2 => by omega⟩ ?_
      intro s t hs
      obtain ⟨hs1, hs2, hs3⟩ := hs
      refine CS.seq ?_
      refine CS.seq ?_
      refine CS.region ?_
      refine WS.det rfl rfl rfl (det_move rfl) rfl ?_ -- r7.0 ref.go:115
      refine WS.det rfl rfl rfl (det_move rfl) rfl ?_ -- r7.1 ref.go:115
      refine WS.det rfl rfl rfl ((by first | exact det_lenS sl31 rfl (by assumption) | exact det_lenS sl31 rfl (by first | exact SlL.sp (by assumption) | exact ClS.sp (by assumption)) | exact det_lenO sl31 rfl | exact det_lenV sl31 rfl ⟨_, _, rfl⟩)) rfl ?_ -- r7.2 ref.go:115
      refine WS.det rfl rfl rfl (det_lt rfl rfl) rfl ?_ -- r7.3 ref.go:115
      refine WS.done ?_
      refine QS.then_code ?_
      refine CS.cond rfl (fun hc3 => ?_) (fun hc3 => ?_) <;> (try simp only [decide_eq_true_eq, decide_eq_false_iff_not, Bool.and_eq_true, Bool.or_eq_true, Bool.and_eq_false_iff, Bool.or_eq_false_iff, Bool.not_eq_true', Bool.not_eq_false', ne_eq, Decidable.not_not, Bool.not_true, Bool.not_false, bne_iff_ne, bne_eq_false_iff_eq, beq_iff_eq, beq_eq_false_iff_ne] at hc3)
      · skip
        have hel := h1.el s hs1 (by omega)
        refine CS.skip ?_
        refine QS.then_code ?_
        refine CS.seq ?_
        refine CS.block ?_
        refine CS.seq ?_
        refine CS.draw mixed (by kernel_rfl) (by kernel_rfl) ?_
        refine DS.det rfl rfl ((by first | exact det_loadb0 (j := 0) rfl rfl tk23 | exact det_loadbN (j := 0) rfl rfl (by rfl) tk23 | exact det_loadwN rfl (by assumption) (by rfl) tk23)) rfl ?_ -- r9.0 ref.go:116
        refine DS.det rfl rfl (det_move rfl) rfl ?_ -- r9.1 ref.go:116
        refine DS.det rfl rfl (det_move rfl) rfl ?_ -- r9.2 ref.go:116
        refine DS.det rfl rfl (det_idxCl sl31 rfl rfl (by assumption) (by omega) (by omega)) rfl ?_ -- r9.3 ref.go:116
        refine DS.det rfl rfl ((by first | exact det_ldCl rfl (by assumption) (by omega) tk36 | exact det_loadb0 (j := 0) rfl rfl tk36 | exact det_loadb0 (j := 1) rfl rfl tk36 | exact det_loadb0 (j := 2) rfl rfl tk36 | exact det_loadb0 (j := 3) rfl rfl tk36 | exact det_loadbN (j := 0) rfl rfl (by rfl) tk36 | exact det_loadbN (j := 1) rfl rfl (by rfl) tk36 | exact det_loadbN (j := 2) rfl rfl (by rfl) tk36 | exact det_loadbN (j := 3) rfl rfl (by rfl) tk36 | exact det_loadwN rfl (by assumption) (by rfl) tk36)) rfl ?_ -- r9.4 ref.go:116
        refine DS.det rfl rfl (det_callB rfl rfl ent64 (fun u hu => isClue_c _ _ _ _ u hL (hel.st hu))) rfl ?_ -- r9.5 ref.go:116
        refine DS.det rfl rfl (det_not rfl) rfl ?_ -- r9.6 ref.go:116
        refine DS.done ?_
        refine QS.then_code ?_
        refine CS.cond rfl (fun hc4 => ?_) (fun hc4 => ?_) <;> (try simp only [decide_eq_true_eq, decide_eq_false_iff_not, Bool.and_eq_true, Bool.or_eq_true, Bool.and_eq_false_iff, Bool.or_eq_false_iff, Bool.not_eq_true', Bool.not_eq_false', ne_eq, Decidable.not_not, Bool.not_true, Bool.not_false, bne_iff_ne, bne_eq_false_iff_eq, beq_iff_eq, beq_eq_false_iff_ne] at hc4)
        · skip
          refine CS.seq ?_
          refine CS.region ?_
          refine WS.det rfl rfl rfl (det_assign rfl) rfl ?_ -- r10.0 ref.go:117
          refine WS.done ?_
          refine QS.then_code ?_
          refine CS.ret ?_
          refine QS.block_ret ?_
          refine QS.then_ret ?_
          refine QS.then_ret ?_
          refine QS.block_ret ?_
          refine QS.then_ret ?_
          exact out1 rfl rfl (retBe (by rw [cluesE_bad hL h20 hs1 (by omega) hc4])) -- ret 3
        · skip
          refine CS.skip ?_
          refine QS.block_normal ?_
          refine QS.then_code ?_
          refine CS.region ?_
          refine WS.det rfl rfl rfl (det_move rfl) rfl ?_ -- r8.0 ref.go:115
          refine WS.det rfl rfl rfl (det_add rfl rfl (by omega)) rfl ?_ -- r8.1 ref.go:115
          refine WS.det rfl rfl rfl (det_assign rfl) rfl ?_ -- r8.2 ref.go:115
          refine WS.done ?_
          exact QS.head (s + 1) rfl rfl ⟨⟨by omega, by omega, fun j h1 h2 => if hj : j = s then by rw [hj]; exact hc4 else hs3 j h1 (by omega)⟩, by omega⟩
      · skip
        refine CS.leave ?_
        refine QS.then_exit ?_
        refine QS.then_exit ?_
        refine QS.block_exit ?_
        refine QS.then_code ?_
        refine CS.seq ?_
        refine CS.region ?_
        refine WS.det rfl rfl rfl (det_assign rfl) rfl ?_ -- r11.0 ref.go:120
        refine WS.done ?_
        refine QS.then_code ?_
        refine CS.ret ?_
        exact out1 rfl rfl (retBe (by rw [cluesE_all hL h20 fun j h1 h2 => hs3 j h1 (by omega)])) -- ret 4

theorem failsF_c (lw ls : Int) (c : Clue) (gv : Value) (xs : List Int) (v : Value) (b : Nat) (e : TypeId) (w : World) (hU : Use lw ls c xs) (hg1 : SlI w gv c.g) (h1 : SlI w v xs) (hb : BlkAt w b [v] e) :
    Calls Try.prog 87 #[.agg #[.int .i64 c.k, .int .i64 c.a, .int .i64 c.b, .int .i64 c.n, .int .i64 c.m, gv, .bool c.nt], .pointer (some ⟨b, 0, none⟩)] w (RetB w (.bool (!holdsT c xs))) := by
  refine enter Try.func87 rfl rfl (Nat.le_of_ble_eq_true rfl) ?_
  refine CS.seq ?_
  refine CS.region ?_
  refine WS.box rfl rfl (fun _ => rfl) ?_; intro b2 hb2 -- r0.0 codes.go:172
  refine WS.det rfl rfl rfl (det_assign rfl) rfl ?_ -- r0.1 codes.go:172
  refine WS.done ?_
  refine QS.then_code ?_
  refine CS.seq ?_
  refine CS.region ?_
  refine WS.det rfl rfl rfl ((by first | exact det_ldCl rfl (by assumption) (by omega) tk36 | exact det_loadb0 (j := 0) rfl rfl tk36 | exact det_loadbN (j := 0) rfl rfl (by rfl) tk36 | exact det_loadwN rfl (by assumption) (by rfl) tk36)) rfl ?_ -- r1.0 codes.go:172
  refine WS.det rfl rfl rfl ((by first | exact det_ldL rfl (by assumption) (by omega) tk24 | exact det_loadb (j := 0) rfl rfl rfl tk24 | exact det_loadb (j := 1) rfl rfl rfl tk24 | exact det_loadb (j := 2) rfl rfl rfl tk24 | exact det_loadb (j := 3) rfl rfl rfl tk24 | exact det_loadw rfl (by assumption) rfl tk24)) rfl ?_ -- r1.1 codes.go:172
  refine WS.det rfl rfl rfl (det_callB rfl rfl ent65 (fun u hu => holds_c _ _ _ _ _ _ u hU (hg1.st hu) (h1.st hu))) rfl ?_ -- r1.2 codes.go:172
  refine WS.det rfl rfl rfl (det_not rfl) rfl ?_ -- r1.3 codes.go:172
  refine WS.det rfl rfl rfl (det_assign rfl) rfl ?_ -- r1.4 codes.go:172
  refine WS.done ?_
  refine QS.then_code ?_
  refine CS.ret ?_
  exact out1 rfl rfl retB -- ret 1

theorem fails_c (lw ls : Int) (cs : List Clue) (gs : List Value) (v : Value) (xs : List Int) (xv : Value) (w : World) (hU : ∀ c ∈ cs, Use lw ls c xs) (hk : ClS w v cs gs) (h1 : SlI w xv xs) :
    Calls Try.prog 58 #[v, xv] w (RetB w (.int .i64 (failsT cs xs))) := by
  obtain ⟨p, cap, rfl⟩ := h1.shape
  refine enter Try.func58 rfl rfl (Nat.le_of_ble_eq_true rfl) ?_
  refine CS.seq ?_
  refine CS.region ?_
  refine WS.box rfl rfl (fun _ => rfl) ?_; intro b3 hb3 -- r0.0 codes.go:171
  refine WS.det rfl rfl rfl (det_assign rfl) rfl ?_ -- r0.1 codes.go:171
  refine WS.done ?_
  refine QS.then_code ?_
  refine CS.seq ?_
  refine CS.region ?_
  refine WS.det rfl rfl rfl (det_move rfl) rfl ?_ -- r1.0 codes.go:172
  refine WS.det rfl rfl rfl (det_makeFunc rfl) rfl ?_ -- r1.1 codes.go:172
  refine WS.det rfl rfl rfl (det_callB rfl rfl ent86 (fun u hu => IndexC_c cs v gs u (hk.st hu) _ [.pointer (some ⟨b3, 0, none⟩)] (fun c => !holdsT c xs) ent87 (fun u2 h2 i h3 h4 => failsF_c _ _ _ _ _ _ _ _ u2 (hU _ (nth_mem h3 h4)) (((hk.st hu).ext h2).el i h3 h4) ((h1.st hu).ext h2) ((st_blk hu (j := 0) rfl).ext h2)))) rfl ?_ -- r1.2 codes.go:172
  refine WS.det rfl rfl rfl (det_assign rfl) rfl ?_ -- r1.3 codes.go:172
  refine WS.done ?_
  refine QS.then_code ?_
  refine CS.ret ?_
  exact out1 rfl rfl (retBe rfl) -- ret 1

theorem first_c (lw ls : Int) (cs : List Clue) (gs : List Value) (v : Value) (xs : List Int) (xv : Value) (w : World) (hU : ∀ c ∈ cs, Use lw ls c xs) (hk : ClS w v cs gs) (h1 : SlI w xv xs) :
    Calls Try.prog 60 #[v, xv] w (RetB w (.int .i64 (failsT cs xs))) := by
  have hl1 := hk.le
  refine enter Try.func60 rfl rfl (Nat.le_of_ble_eq_true rfl) ?_
  refine CS.seq ?_
  refine CS.region ?_
  refine WS.det rfl rfl rfl (det_assign rfl) rfl ?_ -- r0.0 ref.go:199
  refine WS.done ?_
  refine QS.then_code ?_
  refine CS.seq ?_
  refine CS.seq ?_
  refine CS.region ?_
  refine WS.det rfl rfl rfl (det_assign rfl) rfl ?_ -- r1.0 ref.go:200
  refine WS.done ?_
  refine QS.then_code ?_
  refine CS.block ?_
  refine CS.loopM (σ := Int) [4, 6, 7, 8, 9, 10, 11, 12, 13, 14, 15, 16, 17, 18, 19] (fun s => [(5, .int .i64 s)]) (fun _ => _) (fun s => 0 ≤ s ∧ s ≤ cs.length ∧ ∀ j : Int, 0 ≤ j → j < s → (!holdsT (nth cs j) xs) = false) (fun s => (cs.length - s).toNat) 0 (fun _ _ => rfl) rfl rfl ⟨by omega, by omega, fun j h1 h2 => by omega⟩ ?_
  intro s t hs
  obtain ⟨hs1, hs2, hs3⟩ := hs
  refine CS.seq ?_
  refine CS.seq ?_
  refine CS.region ?_
  refine WS.det rfl rfl rfl (det_move rfl) rfl ?_ -- r2.0 ref.go:200
  refine WS.det rfl rfl rfl (det_move rfl) rfl ?_ -- r2.1 ref.go:200
  refine WS.det rfl rfl rfl ((by first | exact det_lenS sl31 rfl (by assumption) | exact det_lenS sl31 rfl (by first | exact SlL.sp (by assumption) | exact ClS.sp (by assumption)) | exact det_lenO sl31 rfl | exact det_lenV sl31 rfl ⟨_, _, rfl⟩)) rfl ?_ -- r2.2 ref.go:200
  refine WS.det rfl rfl rfl (det_lt rfl rfl) rfl ?_ -- r2.3 ref.go:200
  refine WS.done ?_
  refine QS.then_code ?_
  refine CS.cond rfl (fun hc1 => ?_) (fun hc1 => ?_) <;> (try simp only [decide_eq_true_eq, decide_eq_false_iff_not, Bool.and_eq_true, Bool.or_eq_true, Bool.and_eq_false_iff, Bool.or_eq_false_iff, Bool.not_eq_true', Bool.not_eq_false', ne_eq, Decidable.not_not, Bool.not_true, Bool.not_false, bne_iff_ne, bne_eq_false_iff_eq, beq_iff_eq, beq_eq_false_iff_ne] at hc1)
  · skip
    have hel := hk.el s hs1 (by omega)
    refine CS.skip ?_
    refine QS.then_code ?_
    refine CS.seq ?_
    refine CS.block ?_
    refine CS.seq ?_
    refine CS.region ?_
    refine WS.det rfl rfl rfl (det_move rfl) rfl ?_ -- r4.0 ref.go:201
    refine WS.det rfl rfl rfl (det_move rfl) rfl ?_ -- r4.1 ref.go:201
    refine WS.det rfl rfl rfl (det_idxCl sl31 rfl rfl (by assumption) (by omega) (by omega)) rfl ?_ -- r4.2 ref.go:201
    refine WS.det rfl rfl rfl ((by first | exact det_ldCl rfl (by assumption) (by omega) tk36 | exact det_loadb0 (j := 0) rfl rfl tk36 | exact det_loadb0 (j := 1) rfl rfl tk36 | exact det_loadb0 (j := 2) rfl rfl tk36 | exact det_loadb0 (j := 3) rfl rfl tk36 | exact det_loadbN (j := 0) rfl rfl (by rfl) tk36 | exact det_loadbN (j := 1) rfl rfl (by rfl) tk36 | exact det_loadbN (j := 2) rfl rfl (by rfl) tk36 | exact det_loadbN (j := 3) rfl rfl (by rfl) tk36 | exact det_loadwN rfl (by assumption) (by rfl) tk36)) rfl ?_ -- r4.3 ref.go:201
    refine WS.det rfl rfl rfl (det_move rfl) rfl ?_ -- r4.4 ref.go:201
    refine WS.det rfl rfl rfl (det_callB rfl rfl ent66 (fun u hu => True_c _ _ _ _ _ _ u (hU _ (nth_mem hs1 (by omega))) (hel.st hu) (h1.st hu))) rfl ?_ -- r4.5 ref.go:201
    refine WS.det rfl rfl rfl (det_not rfl) rfl ?_ -- r4.6 ref.go:201
    refine WS.done ?_
    refine QS.then_code ?_
    refine CS.cond rfl (fun hc2 => ?_) (fun hc2 => ?_) <;> (try simp only [decide_eq_true_eq, decide_eq_false_iff_not, Bool.and_eq_true, Bool.or_eq_true, Bool.and_eq_false_iff, Bool.or_eq_false_iff, Bool.not_eq_true', Bool.not_eq_false', ne_eq, Decidable.not_not, Bool.not_true, Bool.not_false, bne_iff_ne, bne_eq_false_iff_eq, beq_iff_eq, beq_eq_false_iff_ne] at hc2)
    · skip
      refine CS.seq ?_
      refine CS.region ?_
      refine WS.det rfl rfl rfl (det_move rfl) rfl ?_ -- r5.0 ref.go:202
      refine WS.det rfl rfl rfl (det_assign rfl) rfl ?_ -- r5.1 ref.go:202
      refine WS.done ?_
      refine QS.then_code ?_
      refine CS.ret ?_
      refine QS.block_ret ?_
      refine QS.then_ret ?_
      refine QS.then_ret ?_
      refine QS.block_ret ?_
      refine QS.then_ret ?_
      exact out1 rfl rfl (retBe (by rw [failsT, idxF_found hs1 (by omega) hs3 (by simpa using hc2)])) -- ret 1
    · skip
      refine CS.skip ?_
      refine QS.block_normal ?_
      refine QS.then_code ?_
      refine CS.region ?_
      refine WS.det rfl rfl rfl (det_move rfl) rfl ?_ -- r3.0 ref.go:200
      refine WS.det rfl rfl rfl (det_add rfl rfl (by omega)) rfl ?_ -- r3.1 ref.go:200
      refine WS.det rfl rfl rfl (det_assign rfl) rfl ?_ -- r3.2 ref.go:200
      refine WS.done ?_
      exact QS.head (s + 1) rfl rfl ⟨⟨by omega, by omega, fun j h1 h2 => if hj : j = s then by rw [hj]; simpa using hc2 else hs3 j h1 (by omega)⟩, by omega⟩
  · skip
    refine CS.leave ?_
    refine QS.then_exit ?_
    refine QS.then_exit ?_
    refine QS.block_exit ?_
    refine QS.then_code ?_
    refine CS.seq ?_
    refine CS.region ?_
    refine WS.det rfl rfl rfl (det_assign rfl) rfl ?_ -- r6.0 ref.go:205
    refine WS.done ?_
    refine QS.then_code ?_
    refine CS.ret ?_
    exact out1 rfl rfl (retBe (by rw [failsT, idxF_none fun j h1 h2 => hs3 j h1 (by omega)])) -- ret 2

theorem Answer_c (lw ls : Int) (xs ys : List Int) (v1 v2 : Value) (w : World) (h1 : SlI w v1 xs) (h2 : SlI w v2 ys) :
    Calls Try.prog 17 #[.agg #[.int .i64 lw, .int .i64 ls], v1, v2] w (RetB w (.tuple #[.int .i64 (if ansE lw ls xs ys = 0 then rightN xs ys else 0), .int .i64 (if ansE lw ls xs ys = 0 then commonN xs ys 10 - rightN xs ys else 0), .int .i64 (ansE lw ls xs ys)])) := by
  refine enter Try.func17 rfl rfl (Nat.le_of_ble_eq_true rfl) ?_
  refine CS.seq ?_
  refine CS.region ?_
  refine WS.box rfl rfl (fun _ => rfl) ?_; intro b3 hb3 -- r0.0 codes.go:118
  refine WS.det rfl rfl rfl (det_assign rfl) rfl ?_ -- r0.1 codes.go:118
  refine WS.det rfl rfl rfl (det_assign rfl) rfl ?_ -- r0.2 codes.go:118
  refine WS.det rfl rfl rfl (det_assign rfl) rfl ?_ -- r0.3 codes.go:118
  refine WS.done ?_
  refine QS.then_code ?_
  refine CS.seq ?_
  refine CS.seq ?_
  refine CS.region ?_
  refine WS.det rfl rfl rfl ((by first | exact det_loadb0 (j := 0) rfl rfl tk23 | exact det_loadbN (j := 0) rfl rfl (by rfl) tk23 | exact det_loadwN rfl (by assumption) (by rfl) tk23)) rfl ?_ -- r1.0 codes.go:119
  refine WS.det rfl rfl rfl (det_move rfl) rfl ?_ -- r1.1 codes.go:119
  refine WS.det rfl rfl rfl (det_move rfl) rfl ?_ -- r1.2 codes.go:119
  refine WS.buildSlice1 sl51 zv24 (vs := [v1, v2]) rfl rfl (by decide) (by intro y hy; obtain ⟨_, p, cap, rfl, _⟩ := h1; obtain ⟨_, p2, cap2, rfl, _⟩ := h2; simp at hy; rcases hy with rfl | rfl <;> rfl) (fun _ => rfl) ?_; intro v12 -- r1.3 codes.go:119
  refine WS.det rfl rfl rfl (det_callB rfl rfl ent54 (fun u hu => checkCodes_c _ _ [xs, ys] _ _ u (SlL.two (osl_SlC hu (j := 0) rfl) (h1.st hu) (h2.st hu)))) rfl ?_ -- r1.4 codes.go:119
  refine WS.det rfl rfl rfl (det_assign rfl) rfl ?_ -- r1.5 codes.go:119
  refine WS.done ?_
  refine QS.then_code ?_
  refine CS.seq ?_
  refine CS.region ?_
  refine WS.det rfl rfl rfl (det_move rfl) rfl ?_ -- r2.0 codes.go:119
  refine WS.det rfl rfl rfl (det_ne rfl rfl) rfl ?_ -- r2.1 codes.go:119
  refine WS.done ?_
  refine QS.then_code ?_
  refine CS.cond rfl (fun hc1 => ?_) (fun hc1 => ?_) <;> (try simp only [decide_eq_true_eq, decide_eq_false_iff_not, Bool.and_eq_true, Bool.or_eq_true, Bool.and_eq_false_iff, Bool.or_eq_false_iff, Bool.not_eq_true', Bool.not_eq_false', ne_eq, Decidable.not_not, Bool.not_true, Bool.not_false, bne_iff_ne, bne_eq_false_iff_eq, beq_iff_eq, beq_eq_false_iff_ne] at hc1)
  · skip
    refine CS.seq ?_
    refine CS.region ?_
    refine WS.det rfl rfl rfl (det_move rfl) rfl ?_ -- r3.0 codes.go:120
    refine WS.det rfl rfl rfl (det_assign rfl) rfl ?_ -- r3.1 codes.go:120
    refine WS.det rfl rfl rfl (det_assign rfl) rfl ?_ -- r3.2 codes.go:120
    refine WS.det rfl rfl rfl (det_assign rfl) rfl ?_ -- r3.3 codes.go:120
    refine WS.done ?_
    refine QS.then_code ?_
    refine CS.ret ?_
    refine QS.then_ret ?_
    rw [ansE_codes]; exact out3 rfl rfl rfl rfl (retBe (by have hc1 : ¬ codesE lw ls [xs, ys] = 0 := hc1; rw [if_neg hc1, if_neg hc1]; rfl)) -- ret 1
  · skip
    have h0 : codesE lw ls [xs, ys] = 0 := hc1
    obtain ⟨hL, hx, hy⟩ := codesE_two h0
    have hn1 := code_ten hL hx
    have hn2 := code_ten hL hy
    have hlx := (code_of hx).1
    have hly := (code_of hy).1
    have hae : ansE lw ls xs ys = 0 := by simp [ansE, codeE, hL, hx, hy]
    refine CS.skip ?_
    refine QS.then_code ?_
    refine CS.seq ?_
    refine CS.region ?_
    refine WS.det rfl rfl rfl (det_move rfl) rfl ?_ -- r4.0 codes.go:122
    refine WS.det rfl rfl rfl (det_move rfl) rfl ?_ -- r4.1 codes.go:122
    refine WS.det rfl rfl rfl (det_callB rfl rfl ent55 (fun u hu => answer_c _ _ _ _ u (h1.st hu) (h2.st hu) (by omega) (by omega) hn1.2 hn2.2)) rfl ?_ -- r4.2 codes.go:122
    refine WS.det rfl rfl rfl (det_move rfl) rfl ?_ -- r4.3 codes.go:122
    refine WS.det rfl rfl rfl (det_extract rfl rfl) rfl ?_ -- r4.4 codes.go:122
    refine WS.det rfl rfl rfl (det_extract rfl rfl) rfl ?_ -- r4.5 codes.go:122
    refine WS.det rfl rfl rfl (det_assign rfl) rfl ?_ -- r4.6 codes.go:122
    refine WS.det rfl rfl rfl (det_assign rfl) rfl ?_ -- r4.7 codes.go:122
    refine WS.done ?_
    refine QS.then_code ?_
    refine CS.seq ?_
    refine CS.region ?_
    refine WS.det rfl rfl rfl (det_move rfl) rfl ?_ -- r5.0 codes.go:123
    refine WS.det rfl rfl rfl (det_move rfl) rfl ?_ -- r5.1 codes.go:123
    refine WS.det rfl rfl rfl (det_assign rfl) rfl ?_ -- r5.2 codes.go:123
    refine WS.det rfl rfl rfl (det_assign rfl) rfl ?_ -- r5.3 codes.go:123
    refine WS.det rfl rfl rfl (det_assign rfl) rfl ?_ -- r5.4 codes.go:123
    refine WS.done ?_
    refine QS.then_code ?_
    refine CS.ret ?_
    exact out3 rfl rfl rfl rfl (retBe (by simp [hae])) -- ret 2

theorem RAnswer_c (lw ls : Int) (xs ys : List Int) (v1 v2 : Value) (w : World) (h1 : SlI w v1 xs) (h2 : SlI w v2 ys) :
    Calls Try.prog 18 #[.agg #[.int .i64 lw, .int .i64 ls], v1, v2] w (RetB w (.tuple #[.int .i64 (if ansE lw ls xs ys = 0 then rightN xs ys else 0), .int .i64 (if ansE lw ls xs ys = 0 then commonN xs ys 10 - rightN xs ys else 0), .int .i64 (ansE lw ls xs ys)])) := by
  refine enter Try.func18 rfl rfl (Nat.le_of_ble_eq_true rfl) ?_
  refine CS.seq ?_
  refine CS.region ?_
  refine WS.box rfl rfl (fun _ => rfl) ?_; intro b3 hb3 -- r0.0 ref.go:149
  refine WS.det rfl rfl rfl (det_assign rfl) rfl ?_ -- r0.1 ref.go:149
  refine WS.det rfl rfl rfl (det_assign rfl) rfl ?_ -- r0.2 ref.go:149
  refine WS.det rfl rfl rfl (det_assign rfl) rfl ?_ -- r0.3 ref.go:149
  refine WS.done ?_
  refine QS.then_code ?_
  refine CS.seq ?_
  refine CS.seq ?_
  refine CS.region ?_
  refine WS.det rfl rfl rfl ((by first | exact det_loadb0 (j := 0) rfl rfl tk23 | exact det_loadbN (j := 0) rfl rfl (by rfl) tk23 | exact det_loadwN rfl (by assumption) (by rfl) tk23)) rfl ?_ -- r1.0 ref.go:150
  refine WS.det rfl rfl rfl (det_move rfl) rfl ?_ -- r1.1 ref.go:150
  refine WS.det rfl rfl rfl (det_callB rfl rfl ent28 (fun u hu => RCheckCode_c _ _ _ _ u (h1.st hu))) rfl ?_ -- r1.2 ref.go:150
  refine WS.det rfl rfl rfl (det_assign rfl) rfl ?_ -- r1.3 ref.go:150
  refine WS.done ?_
  refine QS.then_code ?_
  refine CS.seq ?_
  refine CS.region ?_
  refine WS.det rfl rfl rfl (det_move rfl) rfl ?_ -- r2.0 ref.go:150
  refine WS.det rfl rfl rfl (det_ne rfl rfl) rfl ?_ -- r2.1 ref.go:150
  refine WS.done ?_
  refine QS.then_code ?_
  refine CS.cond rfl (fun hc1 => ?_) (fun hc1 => ?_) <;> (try simp only [decide_eq_true_eq, decide_eq_false_iff_not, Bool.and_eq_true, Bool.or_eq_true, Bool.and_eq_false_iff, Bool.or_eq_false_iff, Bool.not_eq_true', Bool.not_eq_false', ne_eq, Decidable.not_not, Bool.not_true, Bool.not_false, bne_iff_ne, bne_eq_false_iff_eq, beq_iff_eq, beq_eq_false_iff_ne] at hc1)
  · skip
    refine CS.seq ?_
    refine CS.region ?_
    refine WS.det rfl rfl rfl (det_move rfl) rfl ?_ -- r3.0 ref.go:151
    refine WS.det rfl rfl rfl (det_assign rfl) rfl ?_ -- r3.1 ref.go:151
    refine WS.det rfl rfl rfl (det_assign rfl) rfl ?_ -- r3.2 ref.go:151
    refine WS.det rfl rfl rfl (det_assign rfl) rfl ?_ -- r3.3 ref.go:151
    refine WS.done ?_
    refine QS.then_code ?_
    refine CS.ret ?_
    refine QS.then_ret ?_
    exact out3 rfl rfl rfl rfl (retBe (by simp [ansE, hc1])) -- ret 1
  · skip
    refine CS.skip ?_
    refine QS.then_code ?_
    refine CS.seq ?_
    refine CS.seq ?_
    refine CS.region ?_
    refine WS.det rfl rfl rfl ((by first | exact det_loadb0 (j := 0) rfl rfl tk23 | exact det_loadbN (j := 0) rfl rfl (by rfl) tk23 | exact det_loadwN rfl (by assumption) (by rfl) tk23)) rfl ?_ -- r4.0 ref.go:153
    refine WS.det rfl rfl rfl (det_move rfl) rfl ?_ -- r4.1 ref.go:153
    refine WS.det rfl rfl rfl (det_callB rfl rfl ent28 (fun u hu => RCheckCode_c _ _ _ _ u (h2.st hu))) rfl ?_ -- r4.2 ref.go:153
    refine WS.det rfl rfl rfl (det_assign rfl) rfl ?_ -- r4.3 ref.go:153
    refine WS.done ?_
    refine QS.then_code ?_
    refine CS.seq ?_
    refine CS.region ?_
    refine WS.det rfl rfl rfl (det_move rfl) rfl ?_ -- r5.0 ref.go:153
    refine WS.det rfl rfl rfl (det_ne rfl rfl) rfl ?_ -- r5.1 ref.go:153
    refine WS.done ?_
    refine QS.then_code ?_
    refine CS.cond rfl (fun hc2 => ?_) (fun hc2 => ?_) <;> (try simp only [decide_eq_true_eq, decide_eq_false_iff_not, Bool.and_eq_true, Bool.or_eq_true, Bool.and_eq_false_iff, Bool.or_eq_false_iff, Bool.not_eq_true', Bool.not_eq_false', ne_eq, Decidable.not_not, Bool.not_true, Bool.not_false, bne_iff_ne, bne_eq_false_iff_eq, beq_iff_eq, beq_eq_false_iff_ne] at hc2)
    · skip
      refine CS.seq ?_
      refine CS.region ?_
      refine WS.det rfl rfl rfl (det_move rfl) rfl ?_ -- r6.0 ref.go:154
      refine WS.det rfl rfl rfl (det_assign rfl) rfl ?_ -- r6.1 ref.go:154
      refine WS.det rfl rfl rfl (det_assign rfl) rfl ?_ -- r6.2 ref.go:154
      refine WS.det rfl rfl rfl (det_assign rfl) rfl ?_ -- r6.3 ref.go:154
      refine WS.done ?_
      refine QS.then_code ?_
      refine CS.ret ?_
      refine QS.then_ret ?_
      exact out3 rfl rfl rfl rfl (retBe (by simp [ansE, hc1, hc2])) -- ret 2
    · skip
      have hL : lockB lw ls = true := codeE_lock hc1
      have hx := codeE_code hc1
      have hy := codeE_code hc2
      have hn1 := code_ten hL hx
      have hn2 := code_ten hL hy
      have hlx := (code_of hx).1
      have hly := (code_of hy).1
      have hae : ansE lw ls xs ys = 0 := by simp [ansE, codeE, hL, hx, hy]
      refine CS.skip ?_
      refine QS.then_code ?_
      refine CS.seq ?_
      refine CS.region ?_
      refine WS.det rfl rfl rfl (det_move rfl) rfl ?_ -- r7.0 ref.go:156
      refine WS.det rfl rfl rfl (det_move rfl) rfl ?_ -- r7.1 ref.go:156
      refine WS.det rfl rfl rfl (det_callB rfl rfl ent56 (fun u hu => Ranswer_c _ _ _ _ u (h1.st hu) (h2.st hu) (by omega) (by omega))) rfl ?_ -- r7.2 ref.go:156
      refine WS.det rfl rfl rfl (det_move rfl) rfl ?_ -- r7.3 ref.go:156
      refine WS.det rfl rfl rfl (det_extract rfl rfl) rfl ?_ -- r7.4 ref.go:156
      refine WS.det rfl rfl rfl (det_extract rfl rfl) rfl ?_ -- r7.5 ref.go:156
      refine WS.det rfl rfl rfl (det_assign rfl) rfl ?_ -- r7.6 ref.go:156
      refine WS.det rfl rfl rfl (det_assign rfl) rfl ?_ -- r7.7 ref.go:156
      refine WS.done ?_
      refine QS.then_code ?_
      refine CS.seq ?_
      refine CS.region ?_
      refine WS.det rfl rfl rfl (det_move rfl) rfl ?_ -- r8.0 ref.go:157
      refine WS.det rfl rfl rfl (det_move rfl) rfl ?_ -- r8.1 ref.go:157
      refine WS.det rfl rfl rfl (det_assign rfl) rfl ?_ -- r8.2 ref.go:157
      refine WS.det rfl rfl rfl (det_assign rfl) rfl ?_ -- r8.3 ref.go:157
      refine WS.det rfl rfl rfl (det_assign rfl) rfl ?_ -- r8.4 ref.go:157
      refine WS.done ?_
      refine QS.then_code ?_
      refine CS.ret ?_
      exact out3 rfl rfl rfl rfl (retBe (by simp [hae])) -- ret 3

theorem Fits_c (lw ls : Int) (cs : List Clue) (gs : List Value) (v : Value) (xs : List Int) (xv : Value) (w : World) (hk : ClS w v cs gs) (h1 : SlI w xv xs) :
    Calls Try.prog 21 #[.agg #[.int .i64 lw, .int .i64 ls], v, xv] w (RetB w (.tuple #[.int .i64 (if fitsE lw ls cs xs = 0 then failsT cs xs else 0), .bool (if fitsE lw ls cs xs = 0 then decide (failsT cs xs < 0) else false), .int .i64 (fitsE lw ls cs xs)])) := by
  refine enter Try.func21 rfl rfl (Nat.le_of_ble_eq_true rfl) ?_
  refine CS.seq ?_
  refine CS.region ?_
  refine WS.box rfl rfl (fun _ => rfl) ?_; intro b3 hb3 -- r0.0 codes.go:176
  refine WS.det rfl rfl rfl (det_assign rfl) rfl ?_ -- r0.1 codes.go:176
  refine WS.det rfl rfl rfl (det_assign rfl) rfl ?_ -- r0.2 codes.go:176
  refine WS.det rfl rfl rfl (det_assign rfl) rfl ?_ -- r0.3 codes.go:176
  refine WS.done ?_
  refine QS.then_code ?_
  refine CS.seq ?_
  refine CS.seq ?_
  refine CS.region ?_
  refine WS.det rfl rfl rfl ((by first | exact det_loadb0 (j := 0) rfl rfl tk23 | exact det_loadbN (j := 0) rfl rfl (by rfl) tk23 | exact det_loadwN rfl (by assumption) (by rfl) tk23)) rfl ?_ -- r1.0 codes.go:177
  refine WS.det rfl rfl rfl (det_move rfl) rfl ?_ -- r1.1 codes.go:177
  refine WS.det rfl rfl rfl (det_callB rfl rfl ent57 (fun u hu => checkClues_c _ _ _ _ _ u (hk.st hu))) rfl ?_ -- r1.2 codes.go:177
  refine WS.det rfl rfl rfl (det_assign rfl) rfl ?_ -- r1.3 codes.go:177
  refine WS.done ?_
  refine QS.then_code ?_
  refine CS.seq ?_
  refine CS.region ?_
  refine WS.det rfl rfl rfl (det_move rfl) rfl ?_ -- r2.0 codes.go:177
  refine WS.det rfl rfl rfl (det_ne rfl rfl) rfl ?_ -- r2.1 codes.go:177
  refine WS.done ?_
  refine QS.then_code ?_
  refine CS.cond rfl (fun hc1 => ?_) (fun hc1 => ?_) <;> (try simp only [decide_eq_true_eq, decide_eq_false_iff_not, Bool.and_eq_true, Bool.or_eq_true, Bool.and_eq_false_iff, Bool.or_eq_false_iff, Bool.not_eq_true', Bool.not_eq_false', ne_eq, Decidable.not_not, Bool.not_true, Bool.not_false, bne_iff_ne, bne_eq_false_iff_eq, beq_iff_eq, beq_eq_false_iff_ne] at hc1)
  · skip
    refine CS.seq ?_
    refine CS.region ?_
    refine WS.det rfl rfl rfl (det_move rfl) rfl ?_ -- r3.0 codes.go:178
    refine WS.det rfl rfl rfl (det_assign rfl) rfl ?_ -- r3.1 codes.go:178
    refine WS.det rfl rfl rfl (det_assign rfl) rfl ?_ -- r3.2 codes.go:178
    refine WS.det rfl rfl rfl (det_assign rfl) rfl ?_ -- r3.3 codes.go:178
    refine WS.done ?_
    refine QS.then_code ?_
    refine CS.ret ?_
    refine QS.then_ret ?_
    exact out3 rfl rfl rfl rfl (retBe (by simp [fitsE, hc1])) -- ret 1
  · skip
    refine CS.skip ?_
    refine QS.then_code ?_
    refine CS.seq ?_
    refine CS.seq ?_
    refine CS.region ?_
    refine WS.det rfl rfl rfl ((by first | exact det_loadb0 (j := 0) rfl rfl tk23 | exact det_loadbN (j := 0) rfl rfl (by rfl) tk23 | exact det_loadwN rfl (by assumption) (by rfl) tk23)) rfl ?_ -- r4.0 codes.go:180
    refine WS.det rfl rfl rfl (det_move rfl) rfl ?_ -- r4.1 codes.go:180
    refine WS.det rfl rfl rfl (det_callB rfl rfl ent27 (fun u hu => CheckCode_c _ _ _ _ u (h1.st hu))) rfl ?_ -- r4.2 codes.go:180
    refine WS.det rfl rfl rfl (det_assign rfl) rfl ?_ -- r4.3 codes.go:180
    refine WS.done ?_
    refine QS.then_code ?_
    refine CS.seq ?_
    refine CS.region ?_
    refine WS.det rfl rfl rfl (det_move rfl) rfl ?_ -- r5.0 codes.go:180
    refine WS.det rfl rfl rfl (det_ne rfl rfl) rfl ?_ -- r5.1 codes.go:180
    refine WS.done ?_
    refine QS.then_code ?_
    refine CS.cond rfl (fun hc2 => ?_) (fun hc2 => ?_) <;> (try simp only [decide_eq_true_eq, decide_eq_false_iff_not, Bool.and_eq_true, Bool.or_eq_true, Bool.and_eq_false_iff, Bool.or_eq_false_iff, Bool.not_eq_true', Bool.not_eq_false', ne_eq, Decidable.not_not, Bool.not_true, Bool.not_false, bne_iff_ne, bne_eq_false_iff_eq, beq_iff_eq, beq_eq_false_iff_ne] at hc2)
    · skip
      refine CS.seq ?_
      refine CS.region ?_
      refine WS.det rfl rfl rfl (det_move rfl) rfl ?_ -- r6.0 codes.go:181
      refine WS.det rfl rfl rfl (det_assign rfl) rfl ?_ -- r6.1 codes.go:181
      refine WS.det rfl rfl rfl (det_assign rfl) rfl ?_ -- r6.2 codes.go:181
      refine WS.det rfl rfl rfl (det_assign rfl) rfl ?_ -- r6.3 codes.go:181
      refine WS.done ?_
      refine QS.then_code ?_
      refine CS.ret ?_
      refine QS.then_ret ?_
      exact out3 rfl rfl rfl rfl (retBe (by simp [fitsE, hc1, hc2])) -- ret 2
    · skip
      have hU := use_all hc1 hc2
      have hae : fitsE lw ls cs xs = 0 := by simp [fitsE, hc1, hc2]
      refine CS.skip ?_
      refine QS.then_code ?_
      refine CS.seq ?_
      refine CS.region ?_
      refine WS.det rfl rfl rfl (det_move rfl) rfl ?_ -- r7.0 codes.go:183
      refine WS.det rfl rfl rfl (det_move rfl) rfl ?_ -- r7.1 codes.go:183
      refine WS.det rfl rfl rfl (det_callB rfl rfl ent58 (fun u hu => fails_c _ _ _ _ _ _ _ u hU (hk.st hu) (h1.st hu))) rfl ?_ -- r7.2 codes.go:183
      refine WS.det rfl rfl rfl (det_assign rfl) rfl ?_ -- r7.3 codes.go:183
      refine WS.done ?_
      refine QS.then_code ?_
      refine CS.seq ?_
      refine CS.region ?_
      refine WS.det rfl rfl rfl (det_move rfl) rfl ?_ -- r8.0 codes.go:184
      refine WS.det rfl rfl rfl (det_move rfl) rfl ?_ -- r8.1 codes.go:184
      refine WS.det rfl rfl rfl (det_lt rfl rfl) rfl ?_ -- r8.2 codes.go:184
      refine WS.det rfl rfl rfl (det_assign rfl) rfl ?_ -- r8.3 codes.go:184
      refine WS.det rfl rfl rfl (det_assign rfl) rfl ?_ -- r8.4 codes.go:184
      refine WS.det rfl rfl rfl (det_assign rfl) rfl ?_ -- r8.5 codes.go:184
      refine WS.done ?_
      refine QS.then_code ?_
      refine CS.ret ?_
      exact out3 rfl rfl rfl rfl (retBe (by simp [hae])) -- ret 3

theorem RFits_c (lw ls : Int) (cs : List Clue) (gs : List Value) (v : Value) (xs : List Int) (xv : Value) (w : World) (hk : ClS w v cs gs) (h1 : SlI w xv xs) :
    Calls Try.prog 22 #[.agg #[.int .i64 lw, .int .i64 ls], v, xv] w (RetB w (.tuple #[.int .i64 (if fitsE lw ls cs xs = 0 then failsT cs xs else 0), .bool (if fitsE lw ls cs xs = 0 then decide (failsT cs xs < 0) else false), .int .i64 (fitsE lw ls cs xs)])) := by
  refine enter Try.func22 rfl rfl (Nat.le_of_ble_eq_true rfl) ?_
  refine CS.seq ?_
  refine CS.region ?_
  refine WS.box rfl rfl (fun _ => rfl) ?_; intro b3 hb3 -- r0.0 ref.go:209
  refine WS.det rfl rfl rfl (det_assign rfl) rfl ?_ -- r0.1 ref.go:209
  refine WS.det rfl rfl rfl (det_assign rfl) rfl ?_ -- r0.2 ref.go:209
  refine WS.det rfl rfl rfl (det_assign rfl) rfl ?_ -- r0.3 ref.go:209
  refine WS.done ?_
  refine QS.then_code ?_
  refine CS.seq ?_
  refine CS.seq ?_
  refine CS.region ?_
  refine WS.det rfl rfl rfl ((by first | exact det_loadb0 (j := 0) rfl rfl tk23 | exact det_loadbN (j := 0) rfl rfl (by rfl) tk23 | exact det_loadwN rfl (by assumption) (by rfl) tk23)) rfl ?_ -- r1.0 ref.go:210
  refine WS.det rfl rfl rfl (det_move rfl) rfl ?_ -- r1.1 ref.go:210
  refine WS.det rfl rfl rfl (det_callB rfl rfl ent33 (fun u hu => RCheckClues_c _ _ _ _ _ u (hk.st hu))) rfl ?_ -- r1.2 ref.go:210
  refine WS.det rfl rfl rfl (det_assign rfl) rfl ?_ -- r1.3 ref.go:210
  refine WS.done ?_
  refine QS.then_code ?_
  refine CS.seq ?_
  refine CS.region ?_
  refine WS.det rfl rfl rfl (det_move rfl) rfl ?_ -- r2.0 ref.go:210
  refine WS.det rfl rfl rfl (det_ne rfl rfl) rfl ?_ -- r2.1 ref.go:210
  refine WS.done ?_
  refine QS.then_code ?_
  refine CS.cond rfl (fun hc1 => ?_) (fun hc1 => ?_) <;> (try simp only [decide_eq_true_eq, decide_eq_false_iff_not, Bool.and_eq_true, Bool.or_eq_true, Bool.and_eq_false_iff, Bool.or_eq_false_iff, Bool.not_eq_true', Bool.not_eq_false', ne_eq, Decidable.not_not, Bool.not_true, Bool.not_false, bne_iff_ne, bne_eq_false_iff_eq, beq_iff_eq, beq_eq_false_iff_ne] at hc1)
  · skip
    refine CS.seq ?_
    refine CS.region ?_
    refine WS.det rfl rfl rfl (det_move rfl) rfl ?_ -- r3.0 ref.go:211
    refine WS.det rfl rfl rfl (det_assign rfl) rfl ?_ -- r3.1 ref.go:211
    refine WS.det rfl rfl rfl (det_assign rfl) rfl ?_ -- r3.2 ref.go:211
    refine WS.det rfl rfl rfl (det_assign rfl) rfl ?_ -- r3.3 ref.go:211
    refine WS.done ?_
    refine QS.then_code ?_
    refine CS.ret ?_
    refine QS.then_ret ?_
    exact out3 rfl rfl rfl rfl (retBe (by simp [fitsE, hc1])) -- ret 1
  · skip
    have hL : lockB lw ls = true := cluesE_lock hc1
    refine CS.skip ?_
    refine QS.then_code ?_
    refine CS.seq ?_
    refine CS.seq ?_
    refine CS.region ?_
    refine WS.det rfl rfl rfl ((by first | exact det_loadb0 (j := 0) rfl rfl tk23 | exact det_loadbN (j := 0) rfl rfl (by rfl) tk23 | exact det_loadwN rfl (by assumption) (by rfl) tk23)) rfl ?_ -- r4.0 ref.go:213
    refine WS.det rfl rfl rfl (det_move rfl) rfl ?_ -- r4.1 ref.go:213
    refine WS.det rfl rfl rfl (det_callB rfl rfl ent59 (fun u hu => isCode_c _ _ _ _ u hL (h1.st hu))) rfl ?_ -- r4.2 ref.go:213
    refine WS.det rfl rfl rfl (det_not rfl) rfl ?_ -- r4.3 ref.go:213
    refine WS.done ?_
    refine QS.then_code ?_
    refine CS.cond rfl (fun hc2 => ?_) (fun hc2 => ?_) <;> (try simp only [decide_eq_true_eq, decide_eq_false_iff_not, Bool.and_eq_true, Bool.or_eq_true, Bool.and_eq_false_iff, Bool.or_eq_false_iff, Bool.not_eq_true', Bool.not_eq_false', ne_eq, Decidable.not_not, Bool.not_true, Bool.not_false, bne_iff_ne, bne_eq_false_iff_eq, beq_iff_eq, beq_eq_false_iff_ne] at hc2)
    · skip
      refine CS.seq ?_
      refine CS.region ?_
      refine WS.det rfl rfl rfl (det_assign rfl) rfl ?_ -- r5.0 ref.go:214
      refine WS.det rfl rfl rfl (det_assign rfl) rfl ?_ -- r5.1 ref.go:214
      refine WS.det rfl rfl rfl (det_assign rfl) rfl ?_ -- r5.2 ref.go:214
      refine WS.done ?_
      refine QS.then_code ?_
      refine CS.ret ?_
      refine QS.then_ret ?_
      exact out3 rfl rfl rfl rfl (retBe (by simp [fitsE, hc1, codeE, hL, hc2])) -- ret 2
    · skip
      have hE := codeE_of hL hc2
      have hU := use_all hc1 hE
      have hae : fitsE lw ls cs xs = 0 := by simp [fitsE, hc1, hE]
      refine CS.skip ?_
      refine QS.then_code ?_
      refine CS.seq ?_
      refine CS.region ?_
      refine WS.det rfl rfl rfl (det_move rfl) rfl ?_ -- r6.0 ref.go:216
      refine WS.det rfl rfl rfl (det_move rfl) rfl ?_ -- r6.1 ref.go:216
      refine WS.det rfl rfl rfl (det_callB rfl rfl ent60 (fun u hu => first_c _ _ _ _ _ _ _ u hU (hk.st hu) (h1.st hu))) rfl ?_ -- r6.2 ref.go:216
      refine WS.det rfl rfl rfl (det_assign rfl) rfl ?_ -- r6.3 ref.go:216
      refine WS.done ?_
      refine QS.then_code ?_
      refine CS.seq ?_
      refine CS.region ?_
      refine WS.det rfl rfl rfl (det_move rfl) rfl ?_ -- r7.0 ref.go:217
      refine WS.det rfl rfl rfl (det_move rfl) rfl ?_ -- r7.1 ref.go:217
      refine WS.det rfl rfl rfl (det_lt rfl rfl) rfl ?_ -- r7.2 ref.go:217
      refine WS.det rfl rfl rfl (det_assign rfl) rfl ?_ -- r7.3 ref.go:217
      refine WS.det rfl rfl rfl (det_assign rfl) rfl ?_ -- r7.4 ref.go:217
      refine WS.det rfl rfl rfl (det_assign rfl) rfl ?_ -- r7.5 ref.go:217
      refine WS.done ?_
      refine QS.then_code ?_
      refine CS.ret ?_
      exact out3 rfl rfl rfl rfl (retBe (by simp [hae])) -- ret 3

theorem Holds_c (lw ls : Int) (c : Clue) (gv : Value) (xs : List Int) (v : Value) (w : World) (hg1 : SlI w gv c.g) (h1 : SlI w v xs) :
    Calls Try.prog 29 #[.agg #[.int .i64 lw, .int .i64 ls], .agg #[.int .i64 c.k, .int .i64 c.a, .int .i64 c.b, .int .i64 c.n, .int .i64 c.m, gv, .bool c.nt], v] w (RetB w (.tuple #[.bool (if holdsE lw ls c xs = 0 then holdsT c xs else false), .int .i64 (holdsE lw ls c xs)])) := by
  refine enter Try.func29 rfl rfl (Nat.le_of_ble_eq_true rfl) ?_
  refine CS.seq ?_
  refine CS.region ?_
  refine WS.box rfl rfl (fun _ => rfl) ?_; intro b3 hb3 -- r0.0 codes.go:160
  refine WS.box rfl rfl (fun _ => rfl) ?_; intro b4 hb4 -- r0.1 codes.go:160
  refine WS.det rfl rfl rfl (det_assign rfl) rfl ?_ -- r0.2 codes.go:160
  refine WS.det rfl rfl rfl (det_assign rfl) rfl ?_ -- r0.3 codes.go:160
  refine WS.done ?_
  refine QS.then_code ?_
  refine CS.seq ?_
  refine CS.seq ?_
  refine CS.region ?_
  refine WS.det rfl rfl rfl ((by first | exact det_loadb0 (j := 1) rfl rfl tk23 | exact det_loadbN (j := 1) rfl rfl (by rfl) tk23 | exact det_loadwN rfl (by assumption) (by rfl) tk23)) rfl ?_ -- r1.0 codes.go:161
  refine WS.det rfl rfl rfl ((by first | exact det_ldCl rfl (by assumption) (by omega) tk36 | exact det_loadb0 (j := 0) rfl rfl tk36 | exact det_loadbN (j := 0) rfl rfl (by rfl) tk36 | exact det_loadwN rfl (by assumption) (by rfl) tk36)) rfl ?_ -- r1.1 codes.go:161
  refine WS.det rfl rfl rfl (det_callB rfl rfl ent25 (fun u hu => CheckClue_c _ _ _ _ u (hg1.st hu))) rfl ?_ -- r1.2 codes.go:161
  refine WS.det rfl rfl rfl (det_assign rfl) rfl ?_ -- r1.3 codes.go:161
  refine WS.done ?_
  refine QS.then_code ?_
  refine CS.seq ?_
  refine CS.region ?_
  refine WS.det rfl rfl rfl (det_move rfl) rfl ?_ -- r2.0 codes.go:161
  refine WS.det rfl rfl rfl (det_ne rfl rfl) rfl ?_ -- r2.1 codes.go:161
  refine WS.done ?_
  refine QS.then_code ?_
  refine CS.cond rfl (fun hc1 => ?_) (fun hc1 => ?_) <;> (try simp only [decide_eq_true_eq, decide_eq_false_iff_not, Bool.and_eq_true, Bool.or_eq_true, Bool.and_eq_false_iff, Bool.or_eq_false_iff, Bool.not_eq_true', Bool.not_eq_false', ne_eq, Decidable.not_not, Bool.not_true, Bool.not_false, bne_iff_ne, bne_eq_false_iff_eq, beq_iff_eq, beq_eq_false_iff_ne] at hc1)
  · skip
    refine CS.seq ?_
    refine CS.region ?_
    refine WS.det rfl rfl rfl (det_move rfl) rfl ?_ -- r3.0 codes.go:162
    refine WS.det rfl rfl rfl (det_assign rfl) rfl ?_ -- r3.1 codes.go:162
    refine WS.det rfl rfl rfl (det_assign rfl) rfl ?_ -- r3.2 codes.go:162
    refine WS.done ?_
    refine QS.then_code ?_
    refine CS.ret ?_
    refine QS.then_ret ?_
    exact out2 rfl rfl rfl (retBe (by simp [holdsE, hc1])) -- ret 1
  · skip
    refine CS.skip ?_
    refine QS.then_code ?_
    refine CS.seq ?_
    refine CS.seq ?_
    refine CS.region ?_
    refine WS.det rfl rfl rfl ((by first | exact det_loadb0 (j := 1) rfl rfl tk23 | exact det_loadbN (j := 1) rfl rfl (by rfl) tk23 | exact det_loadwN rfl (by assumption) (by rfl) tk23)) rfl ?_ -- r4.0 codes.go:164
    refine WS.det rfl rfl rfl (det_move rfl) rfl ?_ -- r4.1 codes.go:164
    refine WS.det rfl rfl rfl (det_callB rfl rfl ent27 (fun u hu => CheckCode_c _ _ _ _ u (h1.st hu))) rfl ?_ -- r4.2 codes.go:164
    refine WS.det rfl rfl rfl (det_assign rfl) rfl ?_ -- r4.3 codes.go:164
    refine WS.done ?_
    refine QS.then_code ?_
    refine CS.seq ?_
    refine CS.region ?_
    refine WS.det rfl rfl rfl (det_move rfl) rfl ?_ -- r5.0 codes.go:164
    refine WS.det rfl rfl rfl (det_ne rfl rfl) rfl ?_ -- r5.1 codes.go:164
    refine WS.done ?_
    refine QS.then_code ?_
    refine CS.cond rfl (fun hc2 => ?_) (fun hc2 => ?_) <;> (try simp only [decide_eq_true_eq, decide_eq_false_iff_not, Bool.and_eq_true, Bool.or_eq_true, Bool.and_eq_false_iff, Bool.or_eq_false_iff, Bool.not_eq_true', Bool.not_eq_false', ne_eq, Decidable.not_not, Bool.not_true, Bool.not_false, bne_iff_ne, bne_eq_false_iff_eq, beq_iff_eq, beq_eq_false_iff_ne] at hc2)
    · skip
      refine CS.seq ?_
      refine CS.region ?_
      refine WS.det rfl rfl rfl (det_move rfl) rfl ?_ -- r6.0 codes.go:165
      refine WS.det rfl rfl rfl (det_assign rfl) rfl ?_ -- r6.1 codes.go:165
      refine WS.det rfl rfl rfl (det_assign rfl) rfl ?_ -- r6.2 codes.go:165
      refine WS.done ?_
      refine QS.then_code ?_
      refine CS.ret ?_
      refine QS.then_ret ?_
      exact out2 rfl rfl rfl (retBe (by simp [holdsE, hc1, hc2])) -- ret 2
    · skip
      have hU := use_one hc1 hc2
      have hae : holdsE lw ls c xs = 0 := by simp [holdsE, hc1, hc2]
      refine CS.skip ?_
      refine QS.then_code ?_
      refine CS.seq ?_
      refine CS.region ?_
      refine WS.det rfl rfl rfl ((by first | exact det_ldCl rfl (by assumption) (by omega) tk36 | exact det_loadb0 (j := 0) rfl rfl tk36 | exact det_loadbN (j := 0) rfl rfl (by rfl) tk36 | exact det_loadwN rfl (by assumption) (by rfl) tk36)) rfl ?_ -- r7.0 codes.go:167
      refine WS.det rfl rfl rfl (det_move rfl) rfl ?_ -- r7.1 codes.go:167
      refine WS.det rfl rfl rfl (det_callB rfl rfl ent65 (fun u hu => holds_c _ _ _ _ _ _ u hU (hg1.st hu) (h1.st hu))) rfl ?_ -- r7.2 codes.go:167
      refine WS.det rfl rfl rfl (det_assign rfl) rfl ?_ -- r7.3 codes.go:167
      refine WS.det rfl rfl rfl (det_assign rfl) rfl ?_ -- r7.4 codes.go:167
      refine WS.done ?_
      refine QS.then_code ?_
      refine CS.ret ?_
      exact out2 rfl rfl rfl (retBe (by simp [hae])) -- ret 3

theorem RHolds_c (lw ls : Int) (c : Clue) (gv : Value) (xs : List Int) (v : Value) (w : World) (hg1 : SlI w gv c.g) (h1 : SlI w v xs) :
    Calls Try.prog 30 #[.agg #[.int .i64 lw, .int .i64 ls], .agg #[.int .i64 c.k, .int .i64 c.a, .int .i64 c.b, .int .i64 c.n, .int .i64 c.m, gv, .bool c.nt], v] w (RetB w (.tuple #[.bool (if holdsE lw ls c xs = 0 then holdsT c xs else false), .int .i64 (holdsE lw ls c xs)])) := by
  refine enter Try.func30 rfl rfl (Nat.le_of_ble_eq_true rfl) ?_
  refine CS.seq ?_
  refine CS.region ?_
  refine WS.box rfl rfl (fun _ => rfl) ?_; intro b3 hb3 -- r0.0 ref.go:188
  refine WS.box rfl rfl (fun _ => rfl) ?_; intro b4 hb4 -- r0.1 ref.go:188
  refine WS.det rfl rfl rfl (det_assign rfl) rfl ?_ -- r0.2 ref.go:188
  refine WS.det rfl rfl rfl (det_assign rfl) rfl ?_ -- r0.3 ref.go:188
  refine WS.done ?_
  refine QS.then_code ?_
  refine CS.seq ?_
  refine CS.seq ?_
  refine CS.region ?_
  refine WS.det rfl rfl rfl ((by first | exact det_loadb0 (j := 1) rfl rfl tk23 | exact det_loadbN (j := 1) rfl rfl (by rfl) tk23 | exact det_loadwN rfl (by assumption) (by rfl) tk23)) rfl ?_ -- r1.0 ref.go:189
  refine WS.det rfl rfl rfl ((by first | exact det_ldCl rfl (by assumption) (by omega) tk36 | exact det_loadb0 (j := 0) rfl rfl tk36 | exact det_loadbN (j := 0) rfl rfl (by rfl) tk36 | exact det_loadwN rfl (by assumption) (by rfl) tk36)) rfl ?_ -- r1.1 ref.go:189
  refine WS.det rfl rfl rfl (det_callB rfl rfl ent26 (fun u hu => RCheckClue_c _ _ _ _ u (hg1.st hu))) rfl ?_ -- r1.2 ref.go:189
  refine WS.det rfl rfl rfl (det_assign rfl) rfl ?_ -- r1.3 ref.go:189
  refine WS.done ?_
  refine QS.then_code ?_
  refine CS.seq ?_
  refine CS.region ?_
  refine WS.det rfl rfl rfl (det_move rfl) rfl ?_ -- r2.0 ref.go:189
  refine WS.det rfl rfl rfl (det_ne rfl rfl) rfl ?_ -- r2.1 ref.go:189
  refine WS.done ?_
  refine QS.then_code ?_
  refine CS.cond rfl (fun hc1 => ?_) (fun hc1 => ?_) <;> (try simp only [decide_eq_true_eq, decide_eq_false_iff_not, Bool.and_eq_true, Bool.or_eq_true, Bool.and_eq_false_iff, Bool.or_eq_false_iff, Bool.not_eq_true', Bool.not_eq_false', ne_eq, Decidable.not_not, Bool.not_true, Bool.not_false, bne_iff_ne, bne_eq_false_iff_eq, beq_iff_eq, beq_eq_false_iff_ne] at hc1)
  · skip
    refine CS.seq ?_
    refine CS.region ?_
    refine WS.det rfl rfl rfl (det_move rfl) rfl ?_ -- r3.0 ref.go:190
    refine WS.det rfl rfl rfl (det_assign rfl) rfl ?_ -- r3.1 ref.go:190
    refine WS.det rfl rfl rfl (det_assign rfl) rfl ?_ -- r3.2 ref.go:190
    refine WS.done ?_
    refine QS.then_code ?_
    refine CS.ret ?_
    refine QS.then_ret ?_
    exact out2 rfl rfl rfl (retBe (by simp [holdsE, hc1])) -- ret 1
  · skip
    have hL : lockB lw ls = true := clueE_lock hc1
    refine CS.skip ?_
    refine QS.then_code ?_
    refine CS.seq ?_
    refine CS.seq ?_
    refine CS.region ?_
    refine WS.det rfl rfl rfl ((by first | exact det_loadb0 (j := 1) rfl rfl tk23 | exact det_loadbN (j := 1) rfl rfl (by rfl) tk23 | exact det_loadwN rfl (by assumption) (by rfl) tk23)) rfl ?_ -- r4.0 ref.go:192
    refine WS.det rfl rfl rfl (det_move rfl) rfl ?_ -- r4.1 ref.go:192
    refine WS.det rfl rfl rfl (det_callB rfl rfl ent59 (fun u hu => isCode_c _ _ _ _ u hL (h1.st hu))) rfl ?_ -- r4.2 ref.go:192
    refine WS.det rfl rfl rfl (det_not rfl) rfl ?_ -- r4.3 ref.go:192
    refine WS.done ?_
    refine QS.then_code ?_
    refine CS.cond rfl (fun hc2 => ?_) (fun hc2 => ?_) <;> (try simp only [decide_eq_true_eq, decide_eq_false_iff_not, Bool.and_eq_true, Bool.or_eq_true, Bool.and_eq_false_iff, Bool.or_eq_false_iff, Bool.not_eq_true', Bool.not_eq_false', ne_eq, Decidable.not_not, Bool.not_true, Bool.not_false, bne_iff_ne, bne_eq_false_iff_eq, beq_iff_eq, beq_eq_false_iff_ne] at hc2)
    · skip
      refine CS.seq ?_
      refine CS.region ?_
      refine WS.det rfl rfl rfl (det_assign rfl) rfl ?_ -- r5.0 ref.go:193
      refine WS.det rfl rfl rfl (det_assign rfl) rfl ?_ -- r5.1 ref.go:193
      refine WS.done ?_
      refine QS.then_code ?_
      refine CS.ret ?_
      refine QS.then_ret ?_
      exact out2 rfl rfl rfl (retBe (by simp [holdsE, hc1, codeE, hL, hc2])) -- ret 2
    · skip
      have hE := codeE_of hL hc2
      have hU := use_one hc1 hE
      have hae : holdsE lw ls c xs = 0 := by simp [holdsE, hc1, hE]
      refine CS.skip ?_
      refine QS.then_code ?_
      refine CS.seq ?_
      refine CS.region ?_
      refine WS.det rfl rfl rfl ((by first | exact det_ldCl rfl (by assumption) (by omega) tk36 | exact det_loadb0 (j := 0) rfl rfl tk36 | exact det_loadbN (j := 0) rfl rfl (by rfl) tk36 | exact det_loadwN rfl (by assumption) (by rfl) tk36)) rfl ?_ -- r6.0 ref.go:195
      refine WS.det rfl rfl rfl (det_move rfl) rfl ?_ -- r6.1 ref.go:195
      refine WS.det rfl rfl rfl (det_callB rfl rfl ent66 (fun u hu => True_c _ _ _ _ _ _ u hU (hg1.st hu) (h1.st hu))) rfl ?_ -- r6.2 ref.go:195
      refine WS.det rfl rfl rfl (det_assign rfl) rfl ?_ -- r6.3 ref.go:195
      refine WS.det rfl rfl rfl (det_assign rfl) rfl ?_ -- r6.4 ref.go:195
      refine WS.done ?_
      refine QS.then_code ?_
      refine CS.ret ?_
      exact out2 rfl rfl rfl (retBe (by simp [hae])) -- ret 3

end Go.Proofs.Ytldagbcceefcdaa
