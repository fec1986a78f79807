/- Contracts of functions, printed by a program of the prover (gen.py). -/
import Derived.Test.YtldagbcceefcdaaC9
namespace Go.Proofs.Ytldagbcceefcdaa
open Go.RowKit Go.Proofs
set_option maxRecDepth 100000
set_option linter.unusedVariables false
set_option linter.unusedSimpArgs false

def workClues : List Clue := [⟨2, 0, 2, 4, 0, [], false⟩, ⟨3, 0, 1, 0, 0, [], false⟩]
def workGs : List Value := [.slice none 0 0, .slice none 0 0]
theorem workCl {u : World} {v : Value} (h : SlC u v 2 7 (clFlat workClues workGs)) : ClS u v workClues workGs := ⟨h, rfl, fun i h0 h1 => by
  have h2 : i < 2 := h1
  rcases (show i = 0 ∨ i = 1 by omega) with rfl | rfl
  · exact SlI.nil u
  · exact SlI.nil u⟩

theorem works_c (w : World) : Calls Try.prog 19 #[] w (RetB w (.bool true)) := by
  refine enter Try.func19 rfl rfl (Nat.le_of_ble_eq_true rfl) ?_
  refine CS.seq ?_
  refine CS.region ?_
  refine WS.det rfl rfl rfl (det_assign rfl) rfl ?_ -- r0.0 law.go:11
  refine WS.done ?_
  refine QS.then_code ?_
  refine CS.seq ?_
  refine CS.region ?_
  refine WS.det rfl rfl rfl ((det_build1 plc23 zv23 rfl rfl (by simp [Value.oneCell']))) rfl ?_ -- r1.0 law.go:12
  refine WS.alloc zv23 (fun _ => rfl) ?_; intro b1 hb1 -- r1.1 law.go:12
  first | refine WS.storeW (j := 0) rfl rfl rfl rfl (by simp [Value.oneCell']) tk23 rfl rfl ?_ -- r1.2 law.go:12
  refine WS.done ?_
  refine QS.then_code ?_
  refine CS.seq ?_
  refine CS.region ?_
  refine WS.det rfl rfl rfl ((det_build1 plc36 zv36 rfl rfl (by simp [Value.oneCell']))) rfl ?_ -- r2.0 law.go:13
  refine WS.det rfl rfl rfl ((det_build1 plc36 zv36 rfl rfl (by simp [Value.oneCell']))) rfl ?_ -- r2.1 law.go:13
  refine WS.buildSliceK sl31 zv36 (rows := [[.int .i64 2, .int .i64 0, .int .i64 2, .int .i64 4, .int .i64 0, .slice none 0 0, .bool false], [.int .i64 3, .int .i64 0, .int .i64 1, .int .i64 0, .int .i64 0, .slice none 0 0, .bool false]]) rfl rfl (by decide) (by decide) (by simp) (fun _ => rfl) ?_; intro v11 -- r2.2 law.go:13
  refine WS.det rfl rfl rfl (det_assign rfl) rfl ?_ -- r2.3 law.go:13
  refine WS.done ?_
  refine QS.then_code ?_
  refine CS.seq ?_
  refine CS.region ?_
  refine WS.det rfl rfl rfl ((by first | exact det_loadb0 (j := 1) rfl rfl tk23 | exact det_loadbN (j := 1) rfl rfl (by rfl) tk23 | exact det_loadwN rfl (by assumption) (by rfl) tk23)) rfl ?_ -- r3.0 law.go:14
  refine WS.det rfl rfl rfl (det_move rfl) rfl ?_ -- r3.1 law.go:14
  refine WS.det rfl rfl rfl (det_callB rfl rfl ent34 (fun u hu => Count_c 3 4 workClues workGs _ u (workCl (osl_SlC hu (j := 0) rfl)))) rfl ?_ -- r3.2 law.go:14
  refine WS.det rfl rfl rfl (det_move rfl) rfl ?_ -- r3.3 law.go:14
  refine WS.det rfl rfl rfl (det_extract rfl rfl) rfl ?_ -- r3.4 law.go:14
  refine WS.det rfl rfl rfl (det_extract rfl rfl) rfl ?_ -- r3.5 law.go:14
  refine WS.det rfl rfl rfl (det_assign rfl) rfl ?_ -- r3.6 law.go:14
  refine WS.det rfl rfl rfl (det_assign rfl) rfl ?_ -- r3.7 law.go:14
  refine WS.done ?_
  refine QS.then_code ?_
  refine CS.seq ?_
  refine CS.region ?_
  refine WS.det rfl rfl rfl ((by first | exact det_loadb0 (j := 1) rfl rfl tk23 | exact det_loadbN (j := 1) rfl rfl (by rfl) tk23 | exact det_loadwN rfl (by assumption) (by rfl) tk23)) rfl ?_ -- r4.0 law.go:15
  refine WS.buildSlice1 sl24 zv3 (vs := [.int .i64 0, .int .i64 3, .int .i64 1]) rfl rfl (by decide) (by simp [Value.oneCell']) (fun _ => rfl) ?_; intro v20 -- r4.1 law.go:15
  refine WS.buildSlice1 sl24 zv3 (vs := [.int .i64 3, .int .i64 3, .int .i64 0]) rfl rfl (by decide) (by simp [Value.oneCell']) (fun _ => rfl) ?_; intro v21 -- r4.2 law.go:15
  refine WS.det rfl rfl rfl (det_callB rfl rfl ent17 (fun u hu => Answer_c 3 4 [0, 3, 1] [3, 3, 0] _ _ u (osl_SlC hu (j := 1) rfl) (osl_SlC hu (j := 0) rfl))) rfl ?_ -- r4.3 law.go:15
  refine WS.det rfl rfl rfl (det_move rfl) rfl ?_ -- r4.4 law.go:15
  refine WS.det rfl rfl rfl (det_extract rfl rfl) rfl ?_ -- r4.5 law.go:15
  refine WS.det rfl rfl rfl (det_extract rfl rfl) rfl ?_ -- r4.6 law.go:15
  refine WS.det rfl rfl rfl (det_extract rfl rfl) rfl ?_ -- r4.7 law.go:15
  refine WS.det rfl rfl rfl (det_assign rfl) rfl ?_ -- r4.8 law.go:15
  refine WS.det rfl rfl rfl (det_assign rfl) rfl ?_ -- r4.9 law.go:15
  refine WS.det rfl rfl rfl (det_assign rfl) rfl ?_ -- r4.10 law.go:15
  refine WS.done ?_
  refine QS.then_code ?_
  refine CS.seq ?_
  refine CS.region ?_
  refine WS.det rfl rfl rfl (det_move rfl) rfl ?_ -- r5.0 law.go:16
  refine WS.det rfl rfl rfl (det_eq rfl rfl) rfl ?_ -- r5.1 law.go:16
  refine WS.det rfl rfl rfl (det_move rfl) rfl ?_ -- r5.2 law.go:16
  refine WS.guardT rfl rfl rfl rfl (fun hg => det_move rfl) rfl ?_ -- r5.3 law.go:16
  refine WS.guardT rfl rfl rfl rfl (fun hg => det_eq (ev_cond hg rfl) rfl) rfl ?_ -- r5.4 law.go:16
  refine WS.det rfl rfl rfl (det_pick_and rfl rfl rfl) rfl ?_ -- r5.5 law.go:16
  refine WS.det rfl rfl rfl (det_move rfl) rfl ?_ -- r5.6 law.go:16
  refine WS.guardT rfl rfl rfl rfl (fun hg => det_move rfl) rfl ?_ -- r5.7 law.go:16
  refine WS.guardT rfl rfl rfl rfl (fun hg => det_eq (ev_cond hg rfl) rfl) rfl ?_ -- r5.8 law.go:16
  refine WS.det rfl rfl rfl (det_pick_and rfl rfl rfl) rfl ?_ -- r5.9 law.go:16
  refine WS.det rfl rfl rfl (det_move rfl) rfl ?_ -- r5.10 law.go:16
  refine WS.guardT rfl rfl rfl rfl (fun hg => det_move rfl) rfl ?_ -- r5.11 law.go:16
  refine WS.guardT rfl rfl rfl rfl (fun hg => det_eq (ev_cond hg rfl) rfl) rfl ?_ -- r5.12 law.go:16
  refine WS.det rfl rfl rfl (det_pick_and rfl rfl rfl) rfl ?_ -- r5.13 law.go:16
  refine WS.det rfl rfl rfl (det_move rfl) rfl ?_ -- r5.14 law.go:16
  refine WS.guardT rfl rfl rfl rfl (fun hg => det_move rfl) rfl ?_ -- r5.15 law.go:16
  refine WS.guardT rfl rfl rfl rfl (fun hg => det_eq (ev_cond hg rfl) rfl) rfl ?_ -- r5.16 law.go:16
  refine WS.det rfl rfl rfl (det_pick_and rfl rfl rfl) rfl ?_ -- r5.17 law.go:16
  refine WS.det rfl rfl rfl (det_assign rfl) rfl ?_ -- r5.18 law.go:16
  refine WS.done ?_
  refine QS.then_code ?_
  refine CS.ret ?_
  exact out1 rfl rfl (retBe (by kernel_rfl)) -- ret 1

end Go.Proofs.Ytldagbcceefcdaa
