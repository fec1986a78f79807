/- Contracts of functions, printed by a program of the prover (gen.py). -/
import Derived.Test.YtldagbcceefcdaaC8
namespace Go.Proofs.Ytldagbcceefcdaa
open Go.RowKit Go.Proofs
set_option maxRecDepth 100000
set_option linter.unusedVariables false
set_option linter.unusedSimpArgs false

theorem count_c (lw ls : Int) (cs : List Clue) (gs : List Value) (cv : Value) (w : World) (hL : lockB lw ls = true) (hC : ∀ c ∈ cs, clueB lw ls c = true) (hk : ClS w cv cs gs) :
    Calls Try.prog 70 #[.agg #[.int .i64 lw, .int .i64 ls], cv] w (RetB w (.int .i64 (readL lw ls cs).length)) := by
  refine enterM St.nil Try.func70 rfl rfl (Nat.le_of_ble_eq_true rfl) ?_
  refine CS.seq ?_
  refine CS.region ?_
  refine WS.box rfl rfl (fun _ => rfl) ?_; intro b2 hb2 -- r0.0 codes.go:220
  refine WS.alloc zv3 (fun _ => rfl) ?_; intro b4 hb4 -- r0.1 codes.go:220
  refine WS.done ?_
  refine QS.then_code ?_
  refine CS.seq ?_
  refine CS.seq ?_
  refine CS.region ?_
  refine WS.det rfl rfl rfl ((by first | exact det_loadb0 (j := 1) rfl rfl tk77 | exact det_loadbN (j := 1) rfl rfl (by rfl) tk77 | exact det_loadwN rfl (by assumption) (by rfl) tk77)) rfl ?_ -- r1.0 codes.go:221
  refine WS.det rfl rfl rfl (det_move rfl) rfl ?_ -- r1.1 codes.go:221
  refine WS.callF rfl rfl ent67 (fun u hu => readings_c _ _ _ _ _ u (hk.st hu)) (fun _ => rfl) ?_; intro br _; refine WS.unpack ?_ -- r1.2 codes.go:221
  refine WS.done ?_
  refine QS.then_code ?_
  refine CS.block ?_
  refine CS.perm (L' := [blk b4 [.int .i64 0] 3, blk b2 [.int .i64 lw, .int .i64 ls] 77] ++ [blk br.1 [.int .i64 lw, .int .i64 ls] 77, blk br.2 [cv] 31]) (List.perm_append_comm (l₁ := [_, _]) (l₂ := [_, _])) ?_
  refine CS.rangeS (A := [blk br.1 [.int .i64 lw, .int .i64 ls] 77, blk br.2 [cv] 31]) rfl ent92 (readingsI_c lw ls cs gs cv w br.1 br.2 hL hk hC) (fun pre => [blk b4 [.int .i64 pre.length] 3, blk b2 [.int .i64 lw, .int .i64 ls] 77]) (fun c pre => match c with | _ => [fact False]) (fun _ => rfl) ?_ ?_ ?_
  · intro lr pre x post v F hall
    have hb := readL_le hL cs
    rw [hall] at hb
    simp at hb
    refine CS.block ?_
    refine CS.region ?_
    refine WS.det rfl rfl rfl ((by first | exact det_loadb (j := 1) rfl rfl rfl tk3 | exact det_loadw rfl (by assumption) rfl tk3)) rfl ?_ -- r2.0 codes.go:222
    refine WS.det rfl rfl rfl (det_add rfl rfl (by omega)) rfl ?_ -- r2.1 codes.go:222
    first | refine WS.store (j := 1) rfl rfl (by first | decide | omega | (simp; done) | (simp; omega)) rfl rfl tk3 rfl rfl ?_ | refine WS.store (j := 1) rfl rfl (by first | decide | omega | (simp; done) | (simp; omega)) rfl rfl tk3 (lset_eq _ _ _) rfl ?_ -- r2.2 codes.go:222
    refine WS.done ?_
    refine QS.block_normal ?_
    exact fun u hu => by simp only [roundQ, List.length_append, List.length_singleton]; exact hu
  · intro D
    refine QS.block_normal ?_
    refine QS.then_code ?_
    refine CS.seq ?_
    refine CS.region ?_
    refine WS.det rfl rfl rfl ((by first | exact det_loadb (j := 1) rfl rfl rfl tk3 | exact det_loadw rfl (by assumption) rfl tk3)) rfl ?_ -- r3.0 codes.go:224
    first | refine WS.store (j := 1) rfl rfl (by first | decide | omega | (simp; done) | (simp; omega)) rfl rfl tk3 rfl rfl ?_ | refine WS.store (j := 1) rfl rfl (by first | decide | omega | (simp; done) | (simp; omega)) rfl rfl tk3 (lset_eq _ _ _) rfl ?_ -- r3.1 codes.go:224
    refine WS.done ?_
    refine QS.then_code ?_
    refine CS.ret ?_
    exact outM (j := 0) (Or.inl rfl) rfl (resc rfl (cell_rv (j := 1) rfl rfl rfl tk3)) (retB) -- ret 1
  · intro D c pre x post hall
    cases c with
    | _ => exact fun u hu => (hu.factE (j := 1) rfl).elim

theorem Count_c (lw ls : Int) (cs : List Clue) (gs : List Value) (cv : Value) (w : World) (hk : ClS w cv cs gs) :
    Calls Try.prog 34 #[.agg #[.int .i64 lw, .int .i64 ls], cv] w (RetB w (.tuple #[.int .i64 (if cluesE lw ls cs = 0 then ((readL lw ls cs).length : Int) else 0), .int .i64 (cluesE lw ls cs)])) := by
  refine enter Try.func34 rfl rfl (Nat.le_of_ble_eq_true rfl) ?_
  refine CS.seq ?_
  refine CS.region ?_
  refine WS.box rfl rfl (fun _ => rfl) ?_; intro b2 hb2 -- r0.0 codes.go:236
  refine WS.det rfl rfl rfl (det_assign rfl) rfl ?_ -- r0.1 codes.go:236
  refine WS.det rfl rfl rfl (det_assign rfl) rfl ?_ -- r0.2 codes.go:236
  refine WS.done ?_
  refine QS.then_code ?_
  refine CS.seq ?_
  refine CS.seq ?_
  refine CS.region ?_
  refine WS.det rfl rfl rfl ((by first | exact det_loadb0 (j := 0) rfl rfl tk23 | exact det_loadbN (j := 0) rfl rfl (by rfl) tk23 | exact det_loadwN rfl (by assumption) (by rfl) tk23)) rfl ?_ -- r1.0 codes.go:237
  refine WS.det rfl rfl rfl (det_move rfl) rfl ?_ -- r1.1 codes.go:237
  refine WS.det rfl rfl rfl (det_callB rfl rfl ent57 (fun u hu => checkClues_c _ _ _ _ _ u (hk.st hu))) rfl ?_ -- r1.2 codes.go:237
  refine WS.det rfl rfl rfl (det_assign rfl) rfl ?_ -- r1.3 codes.go:237
  refine WS.done ?_
  refine QS.then_code ?_
  refine CS.seq ?_
  refine CS.region ?_
  refine WS.det rfl rfl rfl (det_move rfl) rfl ?_ -- r2.0 codes.go:237
  refine WS.det rfl rfl rfl (det_ne rfl rfl) rfl ?_ -- r2.1 codes.go:237
  refine WS.done ?_
  refine QS.then_code ?_
  refine CS.cond rfl (fun hc1 => ?_) (fun hc1 => ?_) <;> (try simp only [decide_eq_true_eq, decide_eq_false_iff_not, Bool.and_eq_true, Bool.or_eq_true, Bool.and_eq_false_iff, Bool.or_eq_false_iff, Bool.not_eq_true', Bool.not_eq_false', ne_eq, Decidable.not_not, Bool.not_true, Bool.not_false, bne_iff_ne, bne_eq_false_iff_eq, beq_iff_eq, beq_eq_false_iff_ne] at hc1)
  · skip
    refine CS.seq ?_
    refine CS.region ?_
    refine WS.det rfl rfl rfl (det_move rfl) rfl ?_ -- r3.0 codes.go:238
    refine WS.det rfl rfl rfl (det_assign rfl) rfl ?_ -- r3.1 codes.go:238
    refine WS.det rfl rfl rfl (det_assign rfl) rfl ?_ -- r3.2 codes.go:238
    refine WS.done ?_
    refine QS.then_code ?_
    refine CS.ret ?_
    refine QS.then_ret ?_
    exact out2 rfl rfl rfl (retBe (by simp [hc1])) -- ret 1
  · skip
    refine CS.skip ?_
    refine QS.then_code ?_
    refine CS.seq ?_
    refine CS.region ?_
    refine WS.det rfl rfl rfl ((by first | exact det_loadb0 (j := 0) rfl rfl tk23 | exact det_loadbN (j := 0) rfl rfl (by rfl) tk23 | exact det_loadwN rfl (by assumption) (by rfl) tk23)) rfl ?_ -- r4.0 codes.go:240
    refine WS.det rfl rfl rfl (det_move rfl) rfl ?_ -- r4.1 codes.go:240
    refine WS.det rfl rfl rfl (det_callB rfl rfl ent70 (fun u hu => count_c _ _ _ _ _ u (cluesE_lock hc1) (cluesE_clue hc1) (hk.st hu))) rfl ?_ -- r4.2 codes.go:240
    refine WS.det rfl rfl rfl (det_assign rfl) rfl ?_ -- r4.3 codes.go:240
    refine WS.det rfl rfl rfl (det_assign rfl) rfl ?_ -- r4.4 codes.go:240
    refine WS.done ?_
    refine QS.then_code ?_
    refine CS.ret ?_
    exact out2 rfl rfl rfl (retBe (by simp [hc1])) -- ret 2

end Go.Proofs.Ytldagbcceefcdaa
