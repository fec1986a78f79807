/- Contracts of functions, printed by a program of the prover (gen.py). -/
import Derived.Test.YtldagbcceefcdaaL1
import Derived.Test.YtldagbcceefcdaaC11
namespace Go.Proofs.Ytldagbcceefcdaa
open Go.RowKit Go.Proofs
set_option maxRecDepth 100000
set_option linter.unusedVariables false
set_option linter.unusedSimpArgs false

theorem CodesImplies_c (lw ls : Int) (cs : List Clue) (gs : List Value) (cv : Value) (c : Clue) (gv : Value) (w : World) (hk : ClS w cv cs gs) (hg1 : SlI w gv c.g) :
    Calls Try.prog 7 #[.agg #[.int .i64 lw, .int .i64 ls], cv, .agg #[.int .i64 c.k, .int .i64 c.a, .int .i64 c.b, .int .i64 c.n, .int .i64 c.m, gv, .bool c.nt]] w (RetB w (.bool true)) := by
  refine enter Try.func7 rfl rfl (Nat.le_of_ble_eq_true rfl) ?_
  refine CS.seq ?_
  refine CS.region ?_
  refine WS.box rfl rfl (fun _ => rfl) ?_; intro b3 hb3 -- r0.0 law.go:74
  refine WS.box rfl rfl (fun _ => rfl) ?_; intro b5 hb5 -- r0.1 law.go:74
  refine WS.det rfl rfl rfl (det_assign rfl) rfl ?_ -- r0.2 law.go:74
  refine WS.done ?_
  refine QS.then_code ?_
  refine CS.seq ?_
  refine CS.region ?_
  refine WS.det rfl rfl rfl ((by first | exact det_loadb0 (j := 1) rfl rfl tk23 | exact det_loadbN (j := 1) rfl rfl (by rfl) tk23 | exact det_loadwN rfl (by assumption) (by rfl) tk23 | exact det_loadbK (n := 2) (j := 1) rfl rfl rfl rfl tk23)) rfl ?_ -- r1.0 law.go:75
  refine WS.det rfl rfl rfl (det_move rfl) rfl ?_ -- r1.1 law.go:75
  refine WS.det rfl rfl rfl ((by first | exact det_ldCl rfl (by assumption) (by omega) tk36 | exact det_loadb0 (j := 0) rfl rfl tk36 | exact det_loadbN (j := 0) rfl rfl (by rfl) tk36 | exact det_loadwN rfl (by assumption) (by rfl) tk36 | exact det_loadbK (n := 7) (j := 0) rfl rfl rfl rfl tk36)) rfl ?_ -- r1.2 law.go:75
  refine WS.callF rfl rfl ent31 (fun u hu => Implies_c _ _ _ _ _ _ _ u (hk.st hu) (hg1.st hu)) (fun _ => rfl) ?_; rintro vi ⟨ui, hvi⟩ -- r1.3 law.go:75
  refine WS.det rfl rfl rfl (det_move rfl) rfl ?_ -- r1.4 law.go:75
  refine WS.det rfl rfl rfl (det_extract rfl rfl) rfl ?_ -- r1.5 law.go:75
  refine WS.det rfl rfl rfl (det_extract rfl rfl) rfl ?_ -- r1.6 law.go:75
  refine WS.det rfl rfl rfl (det_extract rfl rfl) rfl ?_ -- r1.7 law.go:75
  refine WS.det rfl rfl rfl (det_assign rfl) rfl ?_ -- r1.8 law.go:75
  refine WS.det rfl rfl rfl (det_assign rfl) rfl ?_ -- r1.9 law.go:75
  refine WS.det rfl rfl rfl (det_assign rfl) rfl ?_ -- r1.10 law.go:75
  refine WS.done ?_
  refine QS.then_code ?_
  refine CS.seq ?_
  refine CS.region ?_
  refine WS.det rfl rfl rfl ((by first | exact det_loadb0 (j := 2) rfl rfl tk23 | exact det_loadbN (j := 2) rfl rfl (by rfl) tk23 | exact det_loadwN rfl (by assumption) (by rfl) tk23 | exact det_loadbK (n := 2) (j := 2) rfl rfl rfl rfl tk23)) rfl ?_ -- r2.0 law.go:76
  refine WS.det rfl rfl rfl (det_move rfl) rfl ?_ -- r2.1 law.go:76
  refine WS.det rfl rfl rfl ((by first | exact det_ldCl rfl (by assumption) (by omega) tk36 | exact det_loadb0 (j := 1) rfl rfl tk36 | exact det_loadbN (j := 1) rfl rfl (by rfl) tk36 | exact det_loadwN rfl (by assumption) (by rfl) tk36 | exact det_loadbK (n := 7) (j := 1) rfl rfl rfl rfl tk36)) rfl ?_ -- r2.2 law.go:76
  refine WS.callF rfl rfl ent32 (fun u hu => RImplies_c _ _ _ _ _ _ _ u (hk.st hu) (hg1.st hu)) (fun _ => rfl) ?_; rintro vj ⟨uj, hvj⟩ -- r2.3 law.go:76
  refine WS.det rfl rfl rfl (det_move rfl) rfl ?_ -- r2.4 law.go:76
  refine WS.det rfl rfl rfl (det_extract rfl rfl) rfl ?_ -- r2.5 law.go:76
  refine WS.det rfl rfl rfl (det_extract rfl rfl) rfl ?_ -- r2.6 law.go:76
  refine WS.det rfl rfl rfl (det_extract rfl rfl) rfl ?_ -- r2.7 law.go:76
  refine WS.det rfl rfl rfl (det_assign rfl) rfl ?_ -- r2.8 law.go:76
  refine WS.det rfl rfl rfl (det_assign rfl) rfl ?_ -- r2.9 law.go:76
  refine WS.det rfl rfl rfl (det_assign rfl) rfl ?_ -- r2.10 law.go:76
  refine WS.done ?_
  refine QS.then_code ?_
  refine CS.seq ?_
  refine CS.region ?_
  refine WS.det rfl rfl rfl (det_move rfl) rfl ?_ -- r3.0 law.go:77
  refine WS.det rfl rfl rfl (det_move rfl) rfl ?_ -- r3.1 law.go:77
  refine WS.det rfl rfl rfl (det_eqb rfl rfl Try.underlying4) rfl ?_ -- r3.2 law.go:77
  refine WS.det rfl rfl rfl (det_move rfl) rfl ?_ -- r3.3 law.go:77
  refine WS.guardT rfl rfl rfl rfl (fun hg => det_move rfl) rfl ?_ -- r3.4 law.go:77
  refine WS.guardT rfl rfl rfl rfl (fun hg => det_move rfl) rfl ?_ -- r3.5 law.go:77
  refine WS.guardT rfl rfl rfl rfl (fun hg => det_eq (ev_cond hg rfl) (ev_cond hg rfl)) rfl ?_ -- r3.6 law.go:77
  refine WS.det rfl rfl rfl (det_pick_and rfl rfl rfl) rfl ?_ -- r3.7 law.go:77
  refine WS.det rfl rfl rfl (det_move rfl) rfl ?_ -- r3.8 law.go:77
  refine WS.guardT rfl rfl rfl rfl (fun hg => det_move rfl) rfl ?_ -- r3.9 law.go:77
  refine WS.guardT rfl rfl rfl rfl (fun hg => det_move rfl) rfl ?_ -- r3.10 law.go:77
  refine WS.guardT rfl rfl rfl rfl (fun hg => det_callB rfl (evs_cons (ev_cond hg rfl) (evs_cons (ev_cond hg rfl) evs_nil)) ent20 (fun u hu => SameInts_c _ _ _ _ u (hu.roI (j := 1) rfl) (hu.roI (j := 0) rfl))) rfl ?_ -- r3.11 law.go:77
  refine WS.det rfl rfl rfl (det_pick_and rfl rfl rfl) rfl ?_ -- r3.12 law.go:77
  refine WS.det rfl rfl rfl (det_move rfl) rfl ?_ -- r3.13 law.go:77
  refine WS.guardT rfl rfl rfl rfl (fun hg => det_callB rfl rfl ent19 (fun u hu => works_c u)) rfl ?_ -- r3.14 law.go:77
  refine WS.det rfl rfl rfl (det_pick_and rfl rfl rfl) rfl ?_ -- r3.15 law.go:77
  refine WS.det rfl rfl rfl (det_assign rfl) rfl ?_ -- r3.16 law.go:77
  refine WS.done ?_
  refine QS.then_code ?_
  refine CS.ret ?_
  exact out1 rfl rfl (retBe (by simp)) -- ret 1

end Go.Proofs.Ytldagbcceefcdaa
