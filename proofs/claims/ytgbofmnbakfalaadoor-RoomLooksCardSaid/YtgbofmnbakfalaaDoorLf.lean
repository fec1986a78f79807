/- Contracts of functions, printed by a program of the prover (gen.py). -/
import Derived.Test.YtgbofmnbakfalaaDoorKn
namespace Go.Proofs.YtgbofmnbakfalaaDoor
open Go.RowKit Go.Proofs
set_option maxRecDepth 100000
set_option linter.unusedVariables false
set_option linter.unusedSimpArgs false
set_option maxHeartbeats 2000000 in
theorem RoomLooks_c (r : Room) (w : World) (hr : RoomOk w r) (g : Sl ByteArray) (hG : GOk w g) (z : Stt) (hz : SttOk w z) (pl : Int) :
  Calls Tryd.prog 11 #[.agg #[r.pls.v, r.ths.v, r.prs.v, r.wys.v, r.acs.v, r.aus.v, .int .i64 r.ply, r.gl.v], .agg #[z.ths.v, z.prs.v, z.pls.v], .int .i64 pl] w (RetB w (.bool true)) := by
 refine enter Tryd.func11 rfl rfl (Nat.le_of_ble_eq_true rfl) ?_
 refine N3 ?_
 refine WS.box rfl rfl (fun _ => rfl) ?_; intro b3 hb3
 refine WS.box rfl rfl (fun _ => rfl) ?_; intro b4 hb4
 refine WS.det rfl rfl rfl (det_assign rfl) rfl ?_
 refine N4 ?_
 refine CS.seq ?_
 refine N3 ?_
 refine WS.det rfl rfl rfl ((by first | exact det_loadb0 (j := 1) rfl rfl tk31 | exact det_loadbN (j := 1) rfl rfl (by rfl) tk31 | exact det_loadwN rfl (by assumption) (by rfl) tk31 | exact det_loadbK (n := 8) (j := 1) rfl rfl rfl rfl tk31)) rfl ?_
 refine WS.det rfl rfl rfl (det_callB rfl rfl ent12 (fun u hu => Far_c r u (hr.st hu))) rfl ?_
 refine WS.det rfl rfl rfl (det_move rfl) rfl ?_
 refine WS.guardF rfl rfl rfl rfl (fun hg => (by first | exact det_loadb0 (j := 0) rfl rfl tk37 | exact det_loadbN (j := 0) rfl rfl (by rfl) tk37 | exact det_loadwN rfl (by assumption) (by rfl) tk37 | exact det_loadbK (n := 3) (j := 0) rfl rfl rfl rfl tk37)) rfl ?_
 refine WS.guardF rfl rfl rfl rfl (fun hg => det_callB rfl (evs_cons (ev_cond hg rfl) evs_nil) ent21 (fun u hu => Away_c z u (hz.st hu))) rfl ?_
 refine WS.det rfl rfl rfl (det_pick_or rfl rfl rfl) rfl ?_
 refine N4 ?_
 refine CS.cond rfl (fun hc1 => ?_) (fun hc1 => ?_) <;> (try simp only [bq] at hc1)
 ·
  refine N3 ?_
  refine WS.det rfl rfl rfl (det_callB rfl rfl ent13 (fun u hu => works_c u g (hG.st hu))) rfl ?_
  refine WS.det rfl rfl rfl (det_assign rfl) rfl ?_
  refine N4 ?_
  refine CS.ret ?_
  refine QS.then_ret ?_
  exact out1 rfl rfl retB
 ·
  have hn : Near r := clB_iff.1 hc1.1
  have hsm : z.ths.l.length ≤ 1000000 ∧ z.prs.l.length ≤ 1000000 ∧ z.pls.l.length ≤ 1000000 := by have := hc1.2; omega
  refine CS.skip ?_
  refine QS.then_code ?_
  refine CS.seq ?_
  refine CS.drawnAll (k := 15) mixed rfl rfl ?_
  refine AS.take 0 rfl (by kernel_rfl) (by kernel_rfl) (by kernel_rfl) rfl rfl ((by first | exact det_loadb0 (j := 1) rfl rfl tk31 | exact det_loadbN (j := 1) rfl rfl (by rfl) tk31 | exact det_loadwN rfl (by assumption) (by rfl) tk31 | exact det_loadbK (n := 8) (j := 1) rfl rfl rfl rfl tk31)) rfl rfl ?_
  refine AS.take 2 rfl (by kernel_rfl) (by kernel_rfl) (by kernel_rfl) rfl rfl ((by first | exact det_loadb0 (j := 0) rfl rfl tk37 | exact det_loadbN (j := 0) rfl rfl (by rfl) tk37 | exact det_loadwN rfl (by assumption) (by rfl) tk37 | exact det_loadbK (n := 3) (j := 0) rfl rfl rfl rfl tk37)) rfl rfl ?_
  refine AS.take 4 rfl (by kernel_rfl) (by kernel_rfl) (by kernel_rfl) rfl rfl (det_move rfl) rfl rfl ?_
  refine AS.one (i := 1) (by kernel_rfl) rfl (by first | exact fun _ h => h | exact fun _ h => h.sub (by repeat first | exact List.Sublist.refl _ | apply List.Sublist.cons_cons | apply List.Sublist.cons)) rfl ?_
  refine WS.callF rfl rfl ent14 (fun u hu => Copy_c r u (hr.st hu) hn) (fun _ => rfl) ?_; rintro c ⟨hce, uc, hcok⟩
  have hA := alike hce
  have hnc := near_e hce hn
  have o1 := Sl.one hcok.pls
  have o2 := Sl.one hcok.ths
  have o3 := Sl.one hcok.prs
  have o4 := Sl.one hcok.wys
  have o5 := Sl.one hcok.acs
  have o6 := Sl.one hcok.aus
  have o7 := Sl.one hcok.gl
  refine WS.done ?_
  refine QS.then_AS ?_
  refine AS.one (i := 3) (by kernel_rfl) rfl (by first | exact fun _ h => h | exact fun _ h => h.sub (by repeat first | exact List.Sublist.refl _ | apply List.Sublist.cons_cons | apply List.Sublist.cons)) rfl ?_
  refine WS.callF rfl rfl ent23 (fun u hu => CopyStateR_c z u (hz.st hu) hsm) (fun _ => rfl) ?_; rintro y ⟨hyx, uy, hyok⟩
  obtain ⟨hya, hyb, hyc⟩ := hyok.ones
  refine WS.done ?_
  refine QS.then_AS ?_
  refine AS.one (i := 5) (by kernel_rfl) rfl (by first | exact fun _ h => h | exact fun _ h => h.sub (by repeat first | exact List.Sublist.refl _ | apply List.Sublist.cons_cons | apply List.Sublist.cons)) rfl ?_
  refine WS.callF rfl rfl ent39 (fun u hu => (by have q := ILook_c c u (hu.ro (j := 1) rfl) g (hG.st hu) hnc y (hu.ro (j := 0) rfl) pl; rw [hA.LookV, hyx] at q; exact q)) (fun _ => rfl) ?_; rintro x ⟨hxx, ux, hxok⟩
  refine WS.done ?_
  refine QS.then_AS ?_
  refine AS.take 6 rfl (by kernel_rfl) (by kernel_rfl) (by kernel_rfl) rfl rfl (det_move rfl) rfl rfl ?_
  refine AS.take 7 rfl (by kernel_rfl) (by kernel_rfl) (by kernel_rfl) rfl rfl (det_extract rfl rfl) rfl rfl ?_
  refine AS.take 8 rfl (by kernel_rfl) (by kernel_rfl) (by kernel_rfl) rfl rfl (det_extract rfl rfl) rfl rfl ?_
  refine AS.take 9 rfl (by kernel_rfl) (by kernel_rfl) (by kernel_rfl) rfl rfl (det_extract rfl rfl) rfl rfl ?_
  refine AS.take 10 rfl (by kernel_rfl) (by kernel_rfl) (by kernel_rfl) rfl rfl (det_extract rfl rfl) rfl rfl ?_
  refine AS.take 11 rfl (by kernel_rfl) (by kernel_rfl) (by kernel_rfl) rfl rfl (det_assign rfl) rfl rfl ?_
  refine AS.take 12 rfl (by kernel_rfl) (by kernel_rfl) (by kernel_rfl) rfl rfl (det_assign rfl) rfl rfl ?_
  refine AS.take 13 rfl (by kernel_rfl) (by kernel_rfl) (by kernel_rfl) rfl rfl (det_assign rfl) rfl rfl ?_
  refine AS.take 14 rfl (by kernel_rfl) (by kernel_rfl) (by kernel_rfl) rfl rfl (det_assign rfl) rfl rfl ?_
  refine AS.done (by kernel_rfl) (by first | exact fun _ h => h | exact fun _ h => h.sub (by repeat first | exact List.Sublist.refl _ | apply List.Sublist.cons_cons | apply List.Sublist.cons)) ?_
  refine QS.then_code ?_
  refine N3 ?_
  refine WS.det rfl rfl rfl ((by first | exact det_loadb0 (j := 4) rfl rfl tk31 | exact det_loadbN (j := 4) rfl rfl (by rfl) tk31 | exact det_loadwN rfl (by assumption) (by rfl) tk31 | exact det_loadbK (n := 8) (j := 4) rfl rfl rfl rfl tk31)) rfl ?_
  refine WS.det rfl rfl rfl ((by first | exact det_loadb0 (j := 3) rfl rfl tk37 | exact det_loadbN (j := 3) rfl rfl (by rfl) tk37 | exact det_loadwN rfl (by assumption) (by rfl) tk37 | exact det_loadbK (n := 3) (j := 3) rfl rfl rfl rfl tk37)) rfl ?_
  refine WS.det rfl rfl rfl (det_move rfl) rfl ?_
  refine WS.callF rfl rfl ent40 (fun u hu => RLook_c r u (hr.st hu) hn z (hz.st hu) pl) (fun _ => rfl) ?_; rintro x2 ⟨hx2x, ux2, hx2ok⟩
  have e1 : x.ths.l = x2.ths.l := congrArg (fun p : P3 => p.1) (hxx.trans hx2x.symm)
  have e2 : x.prs.l = x2.prs.l := congrArg (fun p : P3 => p.2.1) (hxx.trans hx2x.symm)
  have e3 : x.pls.l = x2.pls.l := congrArg (fun p : P3 => p.2.2) (hxx.trans hx2x.symm)
  refine WS.det rfl rfl rfl (det_move rfl) rfl ?_
  refine WS.det rfl rfl rfl (det_extract rfl rfl) rfl ?_
  refine WS.det rfl rfl rfl (det_extract rfl rfl) rfl ?_
  refine WS.det rfl rfl rfl (det_extract rfl rfl) rfl ?_
  refine WS.det rfl rfl rfl (det_extract rfl rfl) rfl ?_
  refine WS.det rfl rfl rfl (det_assign rfl) rfl ?_
  refine WS.det rfl rfl rfl (det_assign rfl) rfl ?_
  refine WS.det rfl rfl rfl (det_assign rfl) rfl ?_
  refine WS.det rfl rfl rfl (det_assign rfl) rfl ?_
  refine N1 ?_
  refine WS.det rfl rfl rfl (det_move rfl) rfl ?_
  refine WS.det rfl rfl rfl (det_move rfl) rfl ?_
  refine WS.det rfl rfl rfl (det_callB rfl rfl ent41 (fun u hu => SameInts_c _ _ _ _ u (hu.ro (j := 1) rfl : SttOk u x).ths.ints (hu.ro (j := 0) rfl : SttOk u x2).ths.ints)) rfl ?_
  refine WS.det rfl rfl rfl (det_move rfl) rfl ?_
  refine WS.guardT rfl rfl rfl rfl (fun hg => det_move rfl) rfl ?_
  refine WS.guardT rfl rfl rfl rfl (fun hg => det_move rfl) rfl ?_
  refine WS.guardT rfl rfl rfl rfl (fun hg => det_callB rfl (evs_cons (ev_cond hg rfl) (evs_cons (ev_cond hg rfl) evs_nil)) ent41 (fun u hu => SameInts_c _ _ _ _ u (hu.ro (j := 1) rfl : SttOk u x).prs.ints (hu.ro (j := 0) rfl : SttOk u x2).prs.ints)) rfl ?_
  refine WS.det rfl rfl rfl (det_pick_and rfl rfl rfl) rfl ?_
  refine WS.det rfl rfl rfl (det_move rfl) rfl ?_
  refine WS.guardT rfl rfl rfl rfl (fun hg => det_move rfl) rfl ?_
  refine WS.guardT rfl rfl rfl rfl (fun hg => det_move rfl) rfl ?_
  refine WS.guardT rfl rfl rfl rfl (fun hg => det_callB rfl (evs_cons (ev_cond hg rfl) (evs_cons (ev_cond hg rfl) evs_nil)) ent41 (fun u hu => SameInts_c _ _ _ _ u (hu.ro (j := 1) rfl : SttOk u x).pls.ints (hu.ro (j := 0) rfl : SttOk u x2).pls.ints)) rfl ?_
  refine WS.det rfl rfl rfl (det_pick_and rfl rfl rfl) rfl ?_
  refine WS.det rfl rfl rfl (det_move rfl) rfl ?_
  refine WS.guardT rfl rfl rfl rfl (fun hg => det_move rfl) rfl ?_
  refine WS.guardT rfl rfl rfl rfl (fun hg => det_move rfl) rfl ?_
  refine WS.guardT rfl rfl rfl rfl (fun hg => det_eq (ev_cond hg rfl) (ev_cond hg rfl)) rfl ?_
  refine WS.det rfl rfl rfl (det_pick_and rfl rfl rfl) rfl ?_
  refine WS.det rfl rfl rfl (det_move rfl) rfl ?_
  refine WS.guardT rfl rfl rfl rfl (fun hg => det_callB rfl rfl ent13 (fun u hu => works_c u g (hG.st hu))) rfl ?_
  refine WS.det rfl rfl rfl (det_pick_and rfl rfl rfl) rfl ?_
  refine WS.det rfl rfl rfl (det_assign rfl) rfl ?_
  refine N4 ?_
  refine CS.ret ?_
  exact out1 rfl rfl (retBe (by rw [e1, e2, e3]; simp))
end Go.Proofs.YtgbofmnbakfalaaDoor
