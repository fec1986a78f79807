/- Contracts of functions, printed by a program of the prover (gen.py). -/
import Derived.Test.YtgbofmnbakfalaaDoorKn
namespace Go.Proofs.YtgbofmnbakfalaaDoor
open Go.RowKit Go.Proofs
set_option maxRecDepth 100000
set_option linter.unusedVariables false
set_option linter.unusedSimpArgs false
set_option maxHeartbeats 2000000 in
theorem RoomChecks_c (r : Room) (w : World) (hr : RoomOk w r) (g : Sl ByteArray) (hG : GOk w g) :
  Calls Tryd.prog 3 #[.agg #[r.pls.v, r.ths.v, r.prs.v, r.wys.v, r.acs.v, r.aus.v, .int .i64 r.ply, r.gl.v]] w (RetB w (.bool true)) := by
 refine enter Tryd.func3 rfl rfl (Nat.le_of_ble_eq_true rfl) ?_
 refine N3 ?_
 refine WS.box rfl rfl (fun _ => rfl) ?_; intro b1 hb1
 refine WS.det rfl rfl rfl (det_assign rfl) rfl ?_
 refine N4 ?_
 refine CS.seq ?_
 refine N3 ?_
 refine WS.det rfl rfl rfl ((by first | exact det_loadb0 (j := 0) rfl rfl tk31 | exact det_loadbN (j := 0) rfl rfl (by rfl) tk31 | exact det_loadwN rfl (by assumption) (by rfl) tk31 | exact det_loadbK (n := 8) (j := 0) rfl rfl rfl rfl tk31)) rfl ?_
 refine WS.det rfl rfl rfl (det_callB rfl rfl ent12 (fun u hu => Far_c r u (hr.st hu))) rfl ?_
 refine N4 ?_
 refine CS.cond rfl (fun hc1 => ?_) (fun hc1 => ?_) <;> (try simp only [bq] at hc1)
 ·
  refine N3 ?_
  refine WS.det rfl rfl rfl (det_callB rfl rfl ent13 (fun u hu => works_c u g (hG.st hu))) rfl ?_
  refine WS.det rfl rfl rfl (det_assign rfl) rfl ?_
  refine N4 ?_
  refine CS.ret ?_
  refine QS.then_ret ?_
  exact out1 rfl rfl retB
 ·
  have hn : Near r := clB_iff.1 hc1
  refine CS.skip ?_
  refine QS.then_code ?_
  refine N3 ?_
  refine WS.det rfl rfl rfl ((by first | exact det_loadb0 (j := 0) rfl rfl tk31 | exact det_loadbN (j := 0) rfl rfl (by rfl) tk31 | exact det_loadwN rfl (by assumption) (by rfl) tk31 | exact det_loadbK (n := 8) (j := 0) rfl rfl rfl rfl tk31)) rfl ?_
  refine WS.callF rfl rfl ent14 (fun u hu => Copy_c r u (hr.st hu) hn) (fun _ => rfl) ?_; rintro c ⟨hce, uc, hcok⟩
  have hA := alike hce
  have hnc := near_e hce hn
  have o1 := Sl.one hcok.pls
  have o2 := Sl.one hcok.ths
  have o3 := Sl.one hcok.prs
  have o4 := Sl.one hcok.wys
  have o5 := Sl.one hcok.acs
  have o6 := Sl.one hcok.aus
  have o7 := Sl.one hcok.gl
  refine WS.alloc zv31 (fun _ => rfl) ?_; intro b3 hb3
  first | refine WS.storeW (j := 0) rfl rfl rfl rfl (by first | (simp [Value.oneCell']; done) | ((repeat (refine List.forall_mem_cons.2 ⟨by first | rfl | assumption, ?_⟩)); exact fun _ h => absurd h List.not_mem_nil) | exact Cel.one _ w _ (by first | assumption | exact trivial)) tk31 rfl rfl ?_
  refine N1 ?_
  refine WS.det rfl rfl rfl ((by first | exact det_loadb0 (j := 0) rfl rfl tk31 | exact det_loadbN (j := 0) rfl rfl (by rfl) tk31 | exact det_loadwN rfl (by assumption) (by rfl) tk31 | exact det_loadbK (n := 8) (j := 0) rfl rfl rfl rfl tk31)) rfl ?_
  refine WS.callF rfl rfl ent15 (fun u hu => (by have q := IBegin_c c u (hu.ro (j := 1) rfl) g (hG.st hu) hnc; rw [hA.BeginV] at q; exact q)) (fun _ => rfl) ?_; rintro y ⟨hyx, uy, hyok⟩
  obtain ⟨hya, hyb, hyc⟩ := hyok.ones
  refine WS.det rfl rfl rfl (det_move rfl) rfl ?_
  refine WS.det rfl rfl rfl (det_extract rfl rfl) rfl ?_
  refine WS.det rfl rfl rfl (det_extract rfl rfl) rfl ?_
  refine WS.alloc zv37 (fun _ => rfl) ?_; intro b4 hb4
  first | refine WS.storeW (j := 0) rfl rfl rfl rfl (by first | (simp [Value.oneCell']; done) | ((repeat (refine List.forall_mem_cons.2 ⟨by first | rfl | assumption, ?_⟩)); exact fun _ h => absurd h List.not_mem_nil) | exact Cel.one _ w _ (by first | assumption | exact trivial)) tk37 rfl rfl ?_
  refine WS.det rfl rfl rfl (det_assign rfl) rfl ?_
  refine N1 ?_
  refine WS.det rfl rfl rfl ((by first | exact det_loadb0 (j := 4) rfl rfl tk31 | exact det_loadbN (j := 4) rfl rfl (by rfl) tk31 | exact det_loadwN rfl (by assumption) (by rfl) tk31 | exact det_loadbK (n := 8) (j := 4) rfl rfl rfl rfl tk31)) rfl ?_
  refine WS.callF rfl rfl ent16 (fun u hu => RBegin_c r u (hr.st hu) hn) (fun _ => rfl) ?_; rintro x ⟨hxx, ux, hxok⟩
  obtain ⟨hxa, hxb, hxc⟩ := hxok.ones
  refine WS.det rfl rfl rfl (det_move rfl) rfl ?_
  refine WS.det rfl rfl rfl (det_extract rfl rfl) rfl ?_
  refine WS.det rfl rfl rfl (det_extract rfl rfl) rfl ?_
  refine WS.alloc zv37 (fun _ => rfl) ?_; intro b6 hb6
  first | refine WS.storeW (j := 0) rfl rfl rfl rfl (by first | (simp [Value.oneCell']; done) | ((repeat (refine List.forall_mem_cons.2 ⟨by first | rfl | assumption, ?_⟩)); exact fun _ h => absurd h List.not_mem_nil) | exact Cel.one _ w _ (by first | assumption | exact trivial)) tk37 rfl rfl ?_
  refine WS.det rfl rfl rfl (det_assign rfl) rfl ?_
  refine N4 ?_
  refine CS.seq ?_
  refine CS.draw mixed (by kernel_rfl) (by kernel_rfl) ?_
  refine DS.det rfl rfl ((by first | exact det_loadb0 (j := 4) rfl rfl tk31 | exact det_loadbN (j := 4) rfl rfl (by rfl) tk31 | exact det_loadwN rfl (by assumption) (by rfl) tk31 | exact det_loadbK (n := 8) (j := 4) rfl rfl rfl rfl tk31)) rfl ?_
  refine DS.det rfl rfl (det_callB rfl rfl ent17 (fun u hu => (by have q := ICheck_c c u (hu.ro (j := 5) rfl) g (hG.st hu) hnc; rw [hA.checkE] at q; exact q))) rfl ?_
  refine DS.det rfl rfl ((by first | exact det_loadb0 (j := 6) rfl rfl tk31 | exact det_loadbN (j := 6) rfl rfl (by rfl) tk31 | exact det_loadwN rfl (by assumption) (by rfl) tk31 | exact det_loadbK (n := 8) (j := 6) rfl rfl rfl rfl tk31)) rfl ?_
  refine DS.det rfl rfl (det_callB rfl rfl ent18 (fun u hu => RCheck_c r u (hr.st hu) hn)) rfl ?_
  refine DS.det rfl rfl (det_eq rfl rfl) rfl ?_
  refine DS.det rfl rfl (det_move rfl) rfl ?_
  refine DS.guardT rfl rfl rfl (fun hg => (by first | exact det_loadb0 (j := 2) rfl rfl tk37 | exact det_loadbN (j := 2) rfl rfl (by rfl) tk37 | exact det_loadwN rfl (by assumption) (by rfl) tk37 | exact det_loadbK (n := 3) (j := 2) rfl rfl rfl rfl tk37)) rfl ?_
  refine DS.guardT rfl rfl rfl (fun hg => (by first | exact det_loadb0 (j := 0) rfl rfl tk37 | exact det_loadbN (j := 0) rfl rfl (by rfl) tk37 | exact det_loadwN rfl (by assumption) (by rfl) tk37 | exact det_loadbK (n := 3) (j := 0) rfl rfl rfl rfl tk37)) rfl ?_
  refine DS.guardT rfl rfl rfl (fun hg => det_callB rfl (evs_cons (ev_cond hg rfl) (evs_cons (ev_cond hg rfl) evs_nil)) ent19 (fun u hu => SameT_c y x u (hu.ro (j := 3) rfl) (hu.ro (j := 1) rfl) (hyx.trans hxx.symm))) rfl ?_
  refine DS.det rfl rfl (det_pick_and rfl rfl rfl) rfl ?_
  refine DS.det rfl rfl (det_move rfl) rfl ?_
  refine DS.guardT rfl rfl rfl (fun hg => det_move rfl) rfl ?_
  refine DS.guardT rfl rfl rfl (fun hg => det_move rfl) rfl ?_
  refine DS.guardT rfl rfl rfl (fun hg => det_eq (ev_cond hg rfl) (ev_cond hg rfl)) rfl ?_
  refine DS.det rfl rfl (det_pick_and rfl rfl rfl) rfl ?_
  refine DS.det rfl rfl (det_move rfl) rfl ?_
  refine DS.guardT rfl rfl rfl (fun hg => (by first | exact det_loadb0 (j := 4) rfl rfl tk31 | exact det_loadbN (j := 4) rfl rfl (by rfl) tk31 | exact det_loadwN rfl (by assumption) (by rfl) tk31 | exact det_loadbK (n := 8) (j := 4) rfl rfl rfl rfl tk31)) rfl ?_
  refine DS.guardT rfl rfl rfl (fun hg => (by first | exact det_loadb0 (j := 6) rfl rfl tk31 | exact det_loadbN (j := 6) rfl rfl (by rfl) tk31 | exact det_loadwN rfl (by assumption) (by rfl) tk31 | exact det_loadbK (n := 8) (j := 6) rfl rfl rfl rfl tk31)) rfl ?_
  refine DS.guardT rfl rfl rfl (fun hg => det_callB rfl (evs_cons (ev_cond hg rfl) (evs_cons (ev_cond hg rfl) evs_nil)) ent20 (fun u hu => RSame_c c r u (hu.ro (j := 5) rfl) (hr.st hu))) rfl ?_
  refine DS.det rfl rfl (det_pick_and rfl rfl rfl) rfl ?_
  refine DS.det rfl rfl (det_move rfl) rfl ?_
  refine DS.guardT rfl rfl rfl (fun hg => det_callB rfl rfl ent13 (fun u hu => works_c u g (hG.st hu))) rfl ?_
  refine DS.det rfl rfl (det_pick_and rfl rfl rfl) rfl ?_
  refine DS.det rfl rfl (det_assign rfl) rfl ?_
  refine DS.done ?_
  refine QS.then_code ?_
  refine CS.ret ?_
  exact out1 rfl rfl (retBe (by rw [clB_t hce]; simp))
end Go.Proofs.YtgbofmnbakfalaaDoor
