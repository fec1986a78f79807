/- Contracts of functions, printed by a program of the prover (gen.py). -/
import Derived.Test.YtgbofmnbakfalaaDoorKn
namespace Go.Proofs.YtgbofmnbakfalaaDoor
open Go.RowKit Go.Proofs
set_option maxRecDepth 100000
set_option linter.unusedVariables false
set_option linter.unusedSimpArgs false
set_option maxHeartbeats 2000000 in
theorem RoomHolds_c (r : Room) (w : World) (hr : RoomOk w r) (g : Sl ByteArray) (hG : GOk w g) (z : Stt) (hz : SttOk w z) (cc : Sl Lit) (hk : SlT cLit w cc) :
  Calls Tryd.prog 8 #[.agg #[r.pls.v, r.ths.v, r.prs.v, r.wys.v, r.acs.v, r.aus.v, .int .i64 r.ply, r.gl.v], .agg #[z.ths.v, z.prs.v, z.pls.v], cc.v] w (RetB w (.bool true)) := by
 have lcc := hk.le
 have hone := hk.one
 refine enter Tryd.func8 rfl rfl (Nat.le_of_ble_eq_true rfl) ?_
 refine N3 ?_
 refine WS.box rfl rfl (fun _ => rfl) ?_; intro b3 hb3
 refine WS.box rfl rfl (fun _ => rfl) ?_; intro b4 hb4
 refine WS.det rfl rfl rfl (det_assign rfl) rfl ?_
 refine N4 ?_
 refine CS.seq ?_
 refine N3 ?_
 refine WS.det rfl rfl rfl ((by first | exact det_loadb0 (j := 1) rfl rfl tk31 | exact det_loadbN (j := 1) rfl rfl (by rfl) tk31 | exact det_loadwN rfl (by assumption) (by rfl) tk31 | exact det_loadbK (n := 8) (j := 1) rfl rfl rfl rfl tk31)) rfl ?_
 refine WS.det rfl rfl rfl (det_callB rfl rfl ent12 (fun u hu => Far_c r u (hr.st hu))) rfl ?_
 refine WS.det rfl rfl rfl (det_move rfl) rfl ?_
 refine WS.guardF rfl rfl rfl rfl (fun hg => (by first | exact det_loadb0 (j := 0) rfl rfl tk37 | exact det_loadbN (j := 0) rfl rfl (by rfl) tk37 | exact det_loadwN rfl (by assumption) (by rfl) tk37 | exact det_loadbK (n := 3) (j := 0) rfl rfl rfl rfl tk37)) rfl ?_
 refine WS.guardF rfl rfl rfl rfl (fun hg => det_callB rfl (evs_cons (ev_cond hg rfl) evs_nil) ent21 (fun u hu => Away_c z u (hz.st hu))) rfl ?_
 refine WS.det rfl rfl rfl (det_pick_or rfl rfl rfl) rfl ?_
 refine WS.det rfl rfl rfl (det_move rfl) rfl ?_
 refine WS.guardF rfl rfl rfl rfl (fun hg => det_move rfl) rfl ?_
 refine WS.guardF rfl rfl rfl rfl (fun hg => det_lenU sl29 (ev_cond hg rfl) (by assumption)) rfl ?_
 refine WS.guardF rfl rfl rfl rfl (fun hg => det_gt (ev_cond hg rfl) rfl) rfl ?_
 refine WS.det rfl rfl rfl (det_pick_or rfl rfl rfl) rfl ?_
 refine N4 ?_
 refine CS.cond rfl (fun hc1 => ?_) (fun hc1 => ?_) <;> (try simp only [bq] at hc1)
 ·
  refine N3 ?_
  refine WS.det rfl rfl rfl (det_callB rfl rfl ent13 (fun u hu => works_c u g (hG.st hu))) rfl ?_
  refine WS.det rfl rfl rfl (det_assign rfl) rfl ?_
  refine N4 ?_
  refine CS.ret ?_
  refine QS.then_ret ?_
  exact out1 rfl rfl retB
 ·
  have hn : Near r := clB_iff.1 hc1.1.1
  have hsm : z.ths.l.length ≤ 1000000 ∧ z.prs.l.length ≤ 1000000 ∧ z.pls.l.length ≤ 1000000 := by have := hc1.1.2; omega
  refine CS.skip ?_
  refine QS.then_code ?_
  refine CS.seq ?_
  refine CS.drawnAll (k := 13) mixed rfl rfl ?_
  refine AS.take 0 rfl (by kernel_rfl) (by kernel_rfl) (by kernel_rfl) rfl rfl ((by first | exact det_loadb0 (j := 1) rfl rfl tk31 | exact det_loadbN (j := 1) rfl rfl (by rfl) tk31 | exact det_loadwN rfl (by assumption) (by rfl) tk31 | exact det_loadbK (n := 8) (j := 1) rfl rfl rfl rfl tk31)) rfl rfl ?_
  refine AS.take 2 rfl (by kernel_rfl) (by kernel_rfl) (by kernel_rfl) rfl rfl ((by first | exact det_loadb0 (j := 0) rfl rfl tk37 | exact det_loadbN (j := 0) rfl rfl (by rfl) tk37 | exact det_loadwN rfl (by assumption) (by rfl) tk37 | exact det_loadbK (n := 3) (j := 0) rfl rfl rfl rfl tk37)) rfl rfl ?_
  refine AS.take 5 rfl (by kernel_rfl) (by kernel_rfl) (by kernel_rfl) rfl rfl (det_move rfl) rfl rfl ?_
  refine AS.two (i := 1) (j := 4) (by kernel_rfl) rfl rfl (by first | exact fun _ h => h | exact fun _ h => h.sub (by repeat first | exact List.Sublist.refl _ | apply List.Sublist.cons_cons | apply List.Sublist.cons)) rfl rfl ?_ ?_
  ·
   refine WS.callF rfl rfl ent14 (fun u hu => Copy_c r u (hr.st hu) hn) (fun _ => rfl) ?_; rintro c ⟨hce, uc, hcok⟩
   have hA := alike hce
   have hnc := near_e hce hn
   have o1 := Sl.one hcok.pls
   have o2 := Sl.one hcok.ths
   have o3 := Sl.one hcok.prs
   have o4 := Sl.one hcok.wys
   have o5 := Sl.one hcok.acs
   have o6 := Sl.one hcok.aus
   have o7 := Sl.one hcok.gl
   refine WS.done ?_
   refine QS.then_AS ?_
   refine AS.two (i := 3) (j := 4) (by kernel_rfl) rfl rfl (by first | exact fun _ h => h | exact fun _ h => h.sub (by repeat first | exact List.Sublist.refl _ | apply List.Sublist.cons_cons | apply List.Sublist.cons)) rfl rfl ?_ ?_
   ·
    refine WS.callF rfl rfl ent23 (fun u hu => CopyStateR_c z u (hz.st hu) hsm) (fun _ => rfl) ?_; rintro y ⟨hyx, uy, hyok⟩
    obtain ⟨hya, hyb, hyc⟩ := hyok.ones
    refine WS.done ?_
    refine QS.then_AS ?_
    refine AS.one (i := 4) (by kernel_rfl) rfl (by first | exact fun _ h => h | exact fun _ h => h.sub (by repeat first | exact List.Sublist.refl _ | apply List.Sublist.cons_cons | apply List.Sublist.cons)) rfl ?_
    refine WS.build0 sl29 zv117 (fun _ => rfl) ?_; intro v32
    refine WS.done ?_
    refine QS.then_AS ?_
    refine AS.one (i := 6) (by kernel_rfl) rfl (by first | exact fun _ h => h | exact fun _ h => h.sub (by repeat first | exact List.Sublist.refl _ | apply List.Sublist.cons_cons | apply List.Sublist.cons)) rfl ?_
    refine WS.append0 (j := 0) (news := flatC cLit cc.l) (m := cc.l.length) sl29 zv117 rfl (by decide) rfl rfl rfl (fun u hu => (hk.st hu).sp) hone (by omega) (by omega) (fun _ => rfl) (fun _ => rfl) ?_; intro v34
    refine WS.done ?_
    refine QS.then_AS ?_
    refine AS.one (i := 7) (by kernel_rfl) rfl (by first | exact fun _ h => h | exact fun _ h => h.sub (by repeat first | exact List.Sublist.refl _ | apply List.Sublist.cons_cons | apply List.Sublist.cons)) rfl ?_
    refine WS.det rfl rfl rfl (det_callB rfl rfl ent32 (fun u hu => (by have q := IHolds_c c u (hu.ro (j := 2) rfl) g (hG.st hu) hnc y (hu.ro (j := 1) rfl) ⟨v34, cc.l⟩ ⟨osl_SlC hu (j := 0) rfl, fun _ _ => trivial⟩; rw [hA.HoldsV, hyx] at q; exact q))) rfl ?_
    refine WS.done ?_
    refine QS.then_AS ?_
    refine AS.take 8 rfl (by kernel_rfl) (by kernel_rfl) (by kernel_rfl) rfl rfl (det_move rfl) rfl rfl ?_
    refine AS.take 9 rfl (by kernel_rfl) (by kernel_rfl) (by kernel_rfl) rfl rfl (det_extract rfl rfl) rfl rfl ?_
    refine AS.take 10 rfl (by kernel_rfl) (by kernel_rfl) (by kernel_rfl) rfl rfl (det_extract rfl rfl) rfl rfl ?_
    refine AS.take 11 rfl (by kernel_rfl) (by kernel_rfl) (by kernel_rfl) rfl rfl (det_assign rfl) rfl rfl ?_
    refine AS.take 12 rfl (by kernel_rfl) (by kernel_rfl) (by kernel_rfl) rfl rfl (det_assign rfl) rfl rfl ?_
    refine AS.done (by kernel_rfl) (by first | exact fun _ h => h | exact fun _ h => h.sub (by repeat first | exact List.Sublist.refl _ | apply List.Sublist.cons_cons | apply List.Sublist.cons)) ?_
    refine QS.then_code ?_
    refine N3 ?_
    refine WS.det rfl rfl rfl ((by first | exact det_loadb0 (j := 4) rfl rfl tk31 | exact det_loadbN (j := 4) rfl rfl (by rfl) tk31 | exact det_loadwN rfl (by assumption) (by rfl) tk31 | exact det_loadbK (n := 8) (j := 4) rfl rfl rfl rfl tk31)) rfl ?_
    refine WS.det rfl rfl rfl ((by first | exact det_loadb0 (j := 3) rfl rfl tk37 | exact det_loadbN (j := 3) rfl rfl (by rfl) tk37 | exact det_loadwN rfl (by assumption) (by rfl) tk37 | exact det_loadbK (n := 3) (j := 3) rfl rfl rfl rfl tk37)) rfl ?_
    refine WS.det rfl rfl rfl (det_move rfl) rfl ?_
    refine WS.det rfl rfl rfl (det_callB rfl rfl ent33 (fun u hu => RHolds_c r u (hr.st hu) hn z (hz.st hu) cc (hk.st hu))) rfl ?_
    refine WS.det rfl rfl rfl (det_move rfl) rfl ?_
    refine WS.det rfl rfl rfl (det_extract rfl rfl) rfl ?_
    refine WS.det rfl rfl rfl (det_extract rfl rfl) rfl ?_
    refine WS.det rfl rfl rfl (det_assign rfl) rfl ?_
    refine WS.det rfl rfl rfl (det_assign rfl) rfl ?_
    refine N4 ?_
    refine CS.seq ?_
    refine CS.drawnAll (k := 10) mixed rfl rfl ?_
    refine AS.take 0 rfl (by kernel_rfl) (by kernel_rfl) (by kernel_rfl) rfl rfl ((by first | exact det_loadb0 (j := 4) rfl rfl tk31 | exact det_loadbN (j := 4) rfl rfl (by rfl) tk31 | exact det_loadwN rfl (by assumption) (by rfl) tk31 | exact det_loadbK (n := 8) (j := 4) rfl rfl rfl rfl tk31)) rfl rfl ?_
    refine AS.take 2 rfl (by kernel_rfl) (by kernel_rfl) (by kernel_rfl) rfl rfl ((by first | exact det_loadb0 (j := 3) rfl rfl tk37 | exact det_loadbN (j := 3) rfl rfl (by rfl) tk37 | exact det_loadwN rfl (by assumption) (by rfl) tk37 | exact det_loadbK (n := 3) (j := 3) rfl rfl rfl rfl tk37)) rfl rfl ?_
    refine AS.one (i := 1) (by kernel_rfl) rfl (by first | exact fun _ h => h | exact fun _ h => h.sub (by repeat first | exact List.Sublist.refl _ | apply List.Sublist.cons_cons | apply List.Sublist.cons)) rfl ?_
    refine WS.callF rfl rfl ent14 (fun u hu => Copy_c r u (hr.st hu) hn) (fun _ => rfl) ?_; rintro c ⟨hce, uc, hcok⟩
    have hA := alike hce
    have hnc := near_e hce hn
    have o1 := Sl.one hcok.pls
    have o2 := Sl.one hcok.ths
    have o3 := Sl.one hcok.prs
    have o4 := Sl.one hcok.wys
    have o5 := Sl.one hcok.acs
    have o6 := Sl.one hcok.aus
    have o7 := Sl.one hcok.gl
    refine WS.done ?_
    refine QS.then_AS ?_
    refine AS.one (i := 3) (by kernel_rfl) rfl (by first | exact fun _ h => h | exact fun _ h => h.sub (by repeat first | exact List.Sublist.refl _ | apply List.Sublist.cons_cons | apply List.Sublist.cons)) rfl ?_
    refine WS.callF rfl rfl ent23 (fun u hu => CopyStateR_c z u (hz.st hu) hsm) (fun _ => rfl) ?_; rintro y ⟨hyx, uy, hyok⟩
    obtain ⟨hya, hyb, hyc⟩ := hyok.ones
    refine WS.done ?_
    refine QS.then_AS ?_
    refine AS.one (i := 4) (by kernel_rfl) rfl (by first | exact fun _ h => h | exact fun _ h => h.sub (by repeat first | exact List.Sublist.refl _ | apply List.Sublist.cons_cons | apply List.Sublist.cons)) rfl ?_
    refine WS.det rfl rfl rfl (det_callB rfl rfl ent34 (fun u hu => (by have q := IDone_c c u (hu.ro (j := 1) rfl) g (hG.st hu) hnc y (hu.ro (j := 0) rfl); rw [hA.HoldsV, hyx, hA.gl] at q; exact q))) rfl ?_
    refine WS.done ?_
    refine QS.then_AS ?_
    refine AS.take 5 rfl (by kernel_rfl) (by kernel_rfl) (by kernel_rfl) rfl rfl (det_move rfl) rfl rfl ?_
    refine AS.take 6 rfl (by kernel_rfl) (by kernel_rfl) (by kernel_rfl) rfl rfl (det_extract rfl rfl) rfl rfl ?_
    refine AS.take 7 rfl (by kernel_rfl) (by kernel_rfl) (by kernel_rfl) rfl rfl (det_extract rfl rfl) rfl rfl ?_
    refine AS.take 8 rfl (by kernel_rfl) (by kernel_rfl) (by kernel_rfl) rfl rfl (det_assign rfl) rfl rfl ?_
    refine AS.take 9 rfl (by kernel_rfl) (by kernel_rfl) (by kernel_rfl) rfl rfl (det_assign rfl) rfl rfl ?_
    refine AS.done (by kernel_rfl) (by first | exact fun _ h => h | exact fun _ h => h.sub (by repeat first | exact List.Sublist.refl _ | apply List.Sublist.cons_cons | apply List.Sublist.cons)) ?_
    refine QS.then_code ?_
    refine N3 ?_
    refine WS.det rfl rfl rfl ((by first | exact det_loadb0 (j := 6) rfl rfl tk31 | exact det_loadbN (j := 6) rfl rfl (by rfl) tk31 | exact det_loadwN rfl (by assumption) (by rfl) tk31 | exact det_loadbK (n := 8) (j := 6) rfl rfl rfl rfl tk31)) rfl ?_
    refine WS.det rfl rfl rfl ((by first | exact det_loadb0 (j := 5) rfl rfl tk37 | exact det_loadbN (j := 5) rfl rfl (by rfl) tk37 | exact det_loadwN rfl (by assumption) (by rfl) tk37 | exact det_loadbK (n := 3) (j := 5) rfl rfl rfl rfl tk37)) rfl ?_
    refine WS.det rfl rfl rfl (det_callB rfl rfl ent35 (fun u hu => RDone_c r u (hr.st hu) hn z (hz.st hu))) rfl ?_
    refine WS.det rfl rfl rfl (det_move rfl) rfl ?_
    refine WS.det rfl rfl rfl (det_extract rfl rfl) rfl ?_
    refine WS.det rfl rfl rfl (det_extract rfl rfl) rfl ?_
    refine WS.det rfl rfl rfl (det_assign rfl) rfl ?_
    refine WS.det rfl rfl rfl (det_assign rfl) rfl ?_
    refine N4 ?_
    refine CS.seq ?_
    refine CS.drawnAll (k := 33) mixed rfl rfl ?_
    refine AS.take 0 rfl (by kernel_rfl) (by kernel_rfl) (by kernel_rfl) rfl rfl ((by first | exact det_loadb0 (j := 6) rfl rfl tk31 | exact det_loadbN (j := 6) rfl rfl (by rfl) tk31 | exact det_loadwN rfl (by assumption) (by rfl) tk31 | exact det_loadbK (n := 8) (j := 6) rfl rfl rfl rfl tk31)) rfl rfl ?_
    refine AS.take 2 rfl (by kernel_rfl) (by kernel_rfl) (by kernel_rfl) rfl rfl ((by first | exact det_loadb0 (j := 5) rfl rfl tk37 | exact det_loadbN (j := 5) rfl rfl (by rfl) tk37 | exact det_loadwN rfl (by assumption) (by rfl) tk37 | exact det_loadbK (n := 3) (j := 5) rfl rfl rfl rfl tk37)) rfl rfl ?_
    refine AS.take 5 rfl (by kernel_rfl) (by kernel_rfl) (by kernel_rfl) rfl rfl ((by first | exact det_loadb0 (j := 6) rfl rfl tk31 | exact det_loadbN (j := 6) rfl rfl (by rfl) tk31 | exact det_loadwN rfl (by assumption) (by rfl) tk31 | exact det_loadbK (n := 8) (j := 6) rfl rfl rfl rfl tk31)) rfl rfl ?_
    refine AS.take 6 rfl (by kernel_rfl) (by kernel_rfl) (by kernel_rfl) rfl rfl ((by first | exact det_loadb0 (j := 5) rfl rfl tk37 | exact det_loadbN (j := 5) rfl rfl (by rfl) tk37 | exact det_loadwN rfl (by assumption) (by rfl) tk37 | exact det_loadbK (n := 3) (j := 5) rfl rfl rfl rfl tk37)) rfl rfl ?_
    refine AS.one (i := 1) (by kernel_rfl) rfl (by first | exact fun _ h => h | exact fun _ h => h.sub (by repeat first | exact List.Sublist.refl _ | apply List.Sublist.cons_cons | apply List.Sublist.cons)) rfl ?_
    refine WS.callF rfl rfl ent14 (fun u hu => Copy_c r u (hr.st hu) hn) (fun _ => rfl) ?_; rintro c ⟨hce, uc, hcok⟩
    have hA := alike hce
    have hnc := near_e hce hn
    have o1 := Sl.one hcok.pls
    have o2 := Sl.one hcok.ths
    have o3 := Sl.one hcok.prs
    have o4 := Sl.one hcok.wys
    have o5 := Sl.one hcok.acs
    have o6 := Sl.one hcok.aus
    have o7 := Sl.one hcok.gl
    refine WS.done ?_
    refine QS.then_AS ?_
    refine AS.one (i := 3) (by kernel_rfl) rfl (by first | exact fun _ h => h | exact fun _ h => h.sub (by repeat first | exact List.Sublist.refl _ | apply List.Sublist.cons_cons | apply List.Sublist.cons)) rfl ?_
    refine WS.callF rfl rfl ent23 (fun u hu => CopyStateR_c z u (hz.st hu) hsm) (fun _ => rfl) ?_; rintro y ⟨hyx, uy, hyok⟩
    obtain ⟨hya, hyb, hyc⟩ := hyok.ones
    refine WS.done ?_
    refine QS.then_AS ?_
    refine AS.one (i := 4) (by kernel_rfl) rfl (by first | exact fun _ h => h | exact fun _ h => h.sub (by repeat first | exact List.Sublist.refl _ | apply List.Sublist.cons_cons | apply List.Sublist.cons)) rfl ?_
    refine WS.det rfl rfl rfl (det_callB rfl rfl ent31 (fun u hu => (by have q := ICheckState_c c u (hu.ro (j := 1) rfl) g (hG.st hu) hnc y (hu.ro (j := 0) rfl); rw [show stateE c y = stL c y.x from rfl, hA.stL, hyx] at q; exact q))) rfl ?_
    refine WS.done ?_
    refine QS.then_AS ?_
    refine AS.take 7 rfl (by kernel_rfl) (by kernel_rfl) (by kernel_rfl) rfl rfl (det_callB rfl rfl ent30 (fun u hu => RCheckState_c r u (hr.st hu) hn z (hz.st hu))) rfl rfl ?_
    refine AS.take 8 rfl (by kernel_rfl) (by kernel_rfl) (by kernel_rfl) rfl rfl (det_eq rfl rfl) rfl rfl ?_
    refine AS.take 9 rfl (by kernel_rfl) (by kernel_rfl) (by kernel_rfl) rfl rfl (det_move rfl) rfl rfl ?_
    refine AS.takeT 10 rfl (by kernel_rfl) (by kernel_rfl) (by kernel_rfl) rfl rfl rfl (fun hg => det_move rfl) rfl rfl ?_
    refine AS.takeT 11 rfl (by kernel_rfl) (by kernel_rfl) (by kernel_rfl) rfl rfl rfl (fun hg => det_move rfl) rfl rfl ?_
    refine AS.takeT 12 rfl (by kernel_rfl) (by kernel_rfl) (by kernel_rfl) rfl rfl rfl (fun hg => det_eqb (ev_cond hg rfl) (ev_cond hg rfl) Tryd.underlying4) rfl rfl ?_
    refine AS.take 13 rfl (by kernel_rfl) (by kernel_rfl) (by kernel_rfl) rfl rfl (det_pick_and rfl rfl rfl) rfl rfl ?_
    refine AS.take 14 rfl (by kernel_rfl) (by kernel_rfl) (by kernel_rfl) rfl rfl (det_move rfl) rfl rfl ?_
    refine AS.takeT 15 rfl (by kernel_rfl) (by kernel_rfl) (by kernel_rfl) rfl rfl rfl (fun hg => det_move rfl) rfl rfl ?_
    refine AS.takeT 16 rfl (by kernel_rfl) (by kernel_rfl) (by kernel_rfl) rfl rfl rfl (fun hg => det_move rfl) rfl rfl ?_
    refine AS.takeT 17 rfl (by kernel_rfl) (by kernel_rfl) (by kernel_rfl) rfl rfl rfl (fun hg => det_eq (ev_cond hg rfl) (ev_cond hg rfl)) rfl rfl ?_
    refine AS.take 18 rfl (by kernel_rfl) (by kernel_rfl) (by kernel_rfl) rfl rfl (det_pick_and rfl rfl rfl) rfl rfl ?_
    refine AS.take 19 rfl (by kernel_rfl) (by kernel_rfl) (by kernel_rfl) rfl rfl (det_move rfl) rfl rfl ?_
    refine AS.takeT 20 rfl (by kernel_rfl) (by kernel_rfl) (by kernel_rfl) rfl rfl rfl (fun hg => det_move rfl) rfl rfl ?_
    refine AS.takeT 21 rfl (by kernel_rfl) (by kernel_rfl) (by kernel_rfl) rfl rfl rfl (fun hg => det_move rfl) rfl rfl ?_
    refine AS.takeT 22 rfl (by kernel_rfl) (by kernel_rfl) (by kernel_rfl) rfl rfl rfl (fun hg => det_eqb (ev_cond hg rfl) (ev_cond hg rfl) Tryd.underlying4) rfl rfl ?_
    refine AS.take 23 rfl (by kernel_rfl) (by kernel_rfl) (by kernel_rfl) rfl rfl (det_pick_and rfl rfl rfl) rfl rfl ?_
    refine AS.take 24 rfl (by kernel_rfl) (by kernel_rfl) (by kernel_rfl) rfl rfl (det_move rfl) rfl rfl ?_
    refine AS.takeT 25 rfl (by kernel_rfl) (by kernel_rfl) (by kernel_rfl) rfl rfl rfl (fun hg => det_move rfl) rfl rfl ?_
    refine AS.takeT 26 rfl (by kernel_rfl) (by kernel_rfl) (by kernel_rfl) rfl rfl rfl (fun hg => det_move rfl) rfl rfl ?_
    refine AS.takeT 27 rfl (by kernel_rfl) (by kernel_rfl) (by kernel_rfl) rfl rfl rfl (fun hg => det_eq (ev_cond hg rfl) (ev_cond hg rfl)) rfl rfl ?_
    refine AS.take 28 rfl (by kernel_rfl) (by kernel_rfl) (by kernel_rfl) rfl rfl (det_pick_and rfl rfl rfl) rfl rfl ?_
    refine AS.take 29 rfl (by kernel_rfl) (by kernel_rfl) (by kernel_rfl) rfl rfl (det_move rfl) rfl rfl ?_
    refine AS.takeT 30 rfl (by kernel_rfl) (by kernel_rfl) (by kernel_rfl) rfl rfl rfl (fun hg => det_callB rfl rfl ent13 (fun u hu => works_c u g (hG.st hu))) rfl rfl ?_
    refine AS.take 31 rfl (by kernel_rfl) (by kernel_rfl) (by kernel_rfl) rfl rfl (det_pick_and rfl rfl rfl) rfl rfl ?_
    refine AS.take 32 rfl (by kernel_rfl) (by kernel_rfl) (by kernel_rfl) rfl rfl (det_assign rfl) rfl rfl ?_
    refine AS.done (by kernel_rfl) (by first | exact fun _ h => h | exact fun _ h => h.sub (by repeat first | exact List.Sublist.refl _ | apply List.Sublist.cons_cons | apply List.Sublist.cons)) ?_
    refine QS.then_code ?_
    refine CS.ret ?_
    exact out1 rfl rfl (retBe (by rw [show stateE r z = stL r z.x from rfl]; simp))
   ·
    refine WS.build0 sl29 zv117 (fun _ => rfl) ?_; intro v32
    refine WS.done ?_
    refine QS.then_AS ?_
    refine AS.one (i := 3) (by kernel_rfl) rfl (by first | exact fun _ h => h | exact fun _ h => h.sub (by repeat first | exact List.Sublist.refl _ | apply List.Sublist.cons_cons | apply List.Sublist.cons)) rfl ?_
    refine WS.callF rfl rfl ent23 (fun u hu => CopyStateR_c z u (hz.st hu) hsm) (fun _ => rfl) ?_; rintro y ⟨hyx, uy, hyok⟩
    obtain ⟨hya, hyb, hyc⟩ := hyok.ones
    refine WS.done ?_
    refine QS.then_AS ?_
    refine AS.one (i := 6) (by kernel_rfl) rfl (by first | exact fun _ h => h | exact fun _ h => h.sub (by repeat first | exact List.Sublist.refl _ | apply List.Sublist.cons_cons | apply List.Sublist.cons)) rfl ?_
    refine WS.append0 (j := 1) (news := flatC cLit cc.l) (m := cc.l.length) sl29 zv117 rfl (by decide) rfl rfl rfl (fun u hu => (hk.st hu).sp) hone (by omega) (by omega) (fun _ => rfl) (fun _ => rfl) ?_; intro v34
    refine WS.done ?_
    refine QS.then_AS ?_
    refine AS.one (i := 7) (by kernel_rfl) rfl (by first | exact fun _ h => h | exact fun _ h => h.sub (by repeat first | exact List.Sublist.refl _ | apply List.Sublist.cons_cons | apply List.Sublist.cons)) rfl ?_
    refine WS.det rfl rfl rfl (det_callB rfl rfl ent32 (fun u hu => (by have q := IHolds_c c u (hu.ro (j := 2) rfl) g (hG.st hu) hnc y (hu.ro (j := 0) rfl) ⟨v34, cc.l⟩ ⟨osl_SlC hu (j := 1) rfl, fun _ _ => trivial⟩; rw [hA.HoldsV, hyx] at q; exact q))) rfl ?_
    refine WS.done ?_
    refine QS.then_AS ?_
    refine AS.take 8 rfl (by kernel_rfl) (by kernel_rfl) (by kernel_rfl) rfl rfl (det_move rfl) rfl rfl ?_
    refine AS.take 9 rfl (by kernel_rfl) (by kernel_rfl) (by kernel_rfl) rfl rfl (det_extract rfl rfl) rfl rfl ?_
    refine AS.take 10 rfl (by kernel_rfl) (by kernel_rfl) (by kernel_rfl) rfl rfl (det_extract rfl rfl) rfl rfl ?_
    refine AS.take 11 rfl (by kernel_rfl) (by kernel_rfl) (by kernel_rfl) rfl rfl (det_assign rfl) rfl rfl ?_
    refine AS.take 12 rfl (by kernel_rfl) (by kernel_rfl) (by kernel_rfl) rfl rfl (det_assign rfl) rfl rfl ?_
    refine AS.done (by kernel_rfl) (by first | exact fun _ h => h | exact fun _ h => h.sub (by repeat first | exact List.Sublist.refl _ | apply List.Sublist.cons_cons | apply List.Sublist.cons)) ?_
    refine QS.then_code ?_
    refine N3 ?_
    refine WS.det rfl rfl rfl ((by first | exact det_loadb0 (j := 4) rfl rfl tk31 | exact det_loadbN (j := 4) rfl rfl (by rfl) tk31 | exact det_loadwN rfl (by assumption) (by rfl) tk31 | exact det_loadbK (n := 8) (j := 4) rfl rfl rfl rfl tk31)) rfl ?_
    refine WS.det rfl rfl rfl ((by first | exact det_loadb0 (j := 3) rfl rfl tk37 | exact det_loadbN (j := 3) rfl rfl (by rfl) tk37 | exact det_loadwN rfl (by assumption) (by rfl) tk37 | exact det_loadbK (n := 3) (j := 3) rfl rfl rfl rfl tk37)) rfl ?_
    refine WS.det rfl rfl rfl (det_move rfl) rfl ?_
    refine WS.det rfl rfl rfl (det_callB rfl rfl ent33 (fun u hu => RHolds_c r u (hr.st hu) hn z (hz.st hu) cc (hk.st hu))) rfl ?_
    refine WS.det rfl rfl rfl (det_move rfl) rfl ?_
    refine WS.det rfl rfl rfl (det_extract rfl rfl) rfl ?_
    refine WS.det rfl rfl rfl (det_extract rfl rfl) rfl ?_
    refine WS.det rfl rfl rfl (det_assign rfl) rfl ?_
    refine WS.det rfl rfl rfl (det_assign rfl) rfl ?_
    refine N4 ?_
    refine CS.seq ?_
    refine CS.drawnAll (k := 10) mixed rfl rfl ?_
    refine AS.take 0 rfl (by kernel_rfl) (by kernel_rfl) (by kernel_rfl) rfl rfl ((by first | exact det_loadb0 (j := 4) rfl rfl tk31 | exact det_loadbN (j := 4) rfl rfl (by rfl) tk31 | exact det_loadwN rfl (by assumption) (by rfl) tk31 | exact det_loadbK (n := 8) (j := 4) rfl rfl rfl rfl tk31)) rfl rfl ?_
    refine AS.take 2 rfl (by kernel_rfl) (by kernel_rfl) (by kernel_rfl) rfl rfl ((by first | exact det_loadb0 (j := 3) rfl rfl tk37 | exact det_loadbN (j := 3) rfl rfl (by rfl) tk37 | exact det_loadwN rfl (by assumption) (by rfl) tk37 | exact det_loadbK (n := 3) (j := 3) rfl rfl rfl rfl tk37)) rfl rfl ?_
    refine AS.one (i := 1) (by kernel_rfl) rfl (by first | exact fun _ h => h | exact fun _ h => h.sub (by repeat first | exact List.Sublist.refl _ | apply List.Sublist.cons_cons | apply List.Sublist.cons)) rfl ?_
    refine WS.callF rfl rfl ent14 (fun u hu => Copy_c r u (hr.st hu) hn) (fun _ => rfl) ?_; rintro c ⟨hce, uc, hcok⟩
    have hA := alike hce
    have hnc := near_e hce hn
    have o1 := Sl.one hcok.pls
    have o2 := Sl.one hcok.ths
    have o3 := Sl.one hcok.prs
    have o4 := Sl.one hcok.wys
    have o5 := Sl.one hcok.acs
    have o6 := Sl.one hcok.aus
    have o7 := Sl.one hcok.gl
    refine WS.done ?_
    refine QS.then_AS ?_
    refine AS.one (i := 3) (by kernel_rfl) rfl (by first | exact fun _ h => h | exact fun _ h => h.sub (by repeat first | exact List.Sublist.refl _ | apply List.Sublist.cons_cons | apply List.Sublist.cons)) rfl ?_
    refine WS.callF rfl rfl ent23 (fun u hu => CopyStateR_c z u (hz.st hu) hsm) (fun _ => rfl) ?_; rintro y ⟨hyx, uy, hyok⟩
    obtain ⟨hya, hyb, hyc⟩ := hyok.ones
    refine WS.done ?_
    refine QS.then_AS ?_
    refine AS.one (i := 4) (by kernel_rfl) rfl (by first | exact fun _ h => h | exact fun _ h => h.sub (by repeat first | exact List.Sublist.refl _ | apply List.Sublist.cons_cons | apply List.Sublist.cons)) rfl ?_
    refine WS.det rfl rfl rfl (det_callB rfl rfl ent34 (fun u hu => (by have q := IDone_c c u (hu.ro (j := 1) rfl) g (hG.st hu) hnc y (hu.ro (j := 0) rfl); rw [hA.HoldsV, hyx, hA.gl] at q; exact q))) rfl ?_
    refine WS.done ?_
    refine QS.then_AS ?_
    refine AS.take 5 rfl (by kernel_rfl) (by kernel_rfl) (by kernel_rfl) rfl rfl (det_move rfl) rfl rfl ?_
    refine AS.take 6 rfl (by kernel_rfl) (by kernel_rfl) (by kernel_rfl) rfl rfl (det_extract rfl rfl) rfl rfl ?_
    refine AS.take 7 rfl (by kernel_rfl) (by kernel_rfl) (by kernel_rfl) rfl rfl (det_extract rfl rfl) rfl rfl ?_
    refine AS.take 8 rfl (by kernel_rfl) (by kernel_rfl) (by kernel_rfl) rfl rfl (det_assign rfl) rfl rfl ?_
    refine AS.take 9 rfl (by kernel_rfl) (by kernel_rfl) (by kernel_rfl) rfl rfl (det_assign rfl) rfl rfl ?_
    refine AS.done (by kernel_rfl) (by first | exact fun _ h => h | exact fun _ h => h.sub (by repeat first | exact List.Sublist.refl _ | apply List.Sublist.cons_cons | apply List.Sublist.cons)) ?_
    refine QS.then_code ?_
    refine N3 ?_
    refine WS.det rfl rfl rfl ((by first | exact det_loadb0 (j := 6) rfl rfl tk31 | exact det_loadbN (j := 6) rfl rfl (by rfl) tk31 | exact det_loadwN rfl (by assumption) (by rfl) tk31 | exact det_loadbK (n := 8) (j := 6) rfl rfl rfl rfl tk31)) rfl ?_
    refine WS.det rfl rfl rfl ((by first | exact det_loadb0 (j := 5) rfl rfl tk37 | exact det_loadbN (j := 5) rfl rfl (by rfl) tk37 | exact det_loadwN rfl (by assumption) (by rfl) tk37 | exact det_loadbK (n := 3) (j := 5) rfl rfl rfl rfl tk37)) rfl ?_
    refine WS.det rfl rfl rfl (det_callB rfl rfl ent35 (fun u hu => RDone_c r u (hr.st hu) hn z (hz.st hu))) rfl ?_
    refine WS.det rfl rfl rfl (det_move rfl) rfl ?_
    refine WS.det rfl rfl rfl (det_extract rfl rfl) rfl ?_
    refine WS.det rfl rfl rfl (det_extract rfl rfl) rfl ?_
    refine WS.det rfl rfl rfl (det_assign rfl) rfl ?_
    refine WS.det rfl rfl rfl (det_assign rfl) rfl ?_
    refine N4 ?_
    refine CS.seq ?_
    refine CS.drawnAll (k := 33) mixed rfl rfl ?_
    refine AS.take 0 rfl (by kernel_rfl) (by kernel_rfl) (by kernel_rfl) rfl rfl ((by first | exact det_loadb0 (j := 6) rfl rfl tk31 | exact det_loadbN (j := 6) rfl rfl (by rfl) tk31 | exact det_loadwN rfl (by assumption) (by rfl) tk31 | exact det_loadbK (n := 8) (j := 6) rfl rfl rfl rfl tk31)) rfl rfl ?_
    refine AS.take 2 rfl (by kernel_rfl) (by kernel_rfl) (by kernel_rfl) rfl rfl ((by first | exact det_loadb0 (j := 5) rfl rfl tk37 | exact det_loadbN (j := 5) rfl rfl (by rfl) tk37 | exact det_loadwN rfl (by assumption) (by rfl) tk37 | exact det_loadbK (n := 3) (j := 5) rfl rfl rfl rfl tk37)) rfl rfl ?_
    refine AS.take 5 rfl (by kernel_rfl) (by kernel_rfl) (by kernel_rfl) rfl rfl ((by first | exact det_loadb0 (j := 6) rfl rfl tk31 | exact det_loadbN (j := 6) rfl rfl (by rfl) tk31 | exact det_loadwN rfl (by assumption) (by rfl) tk31 | exact det_loadbK (n := 8) (j := 6) rfl rfl rfl rfl tk31)) rfl rfl ?_
    refine AS.take 6 rfl (by kernel_rfl) (by kernel_rfl) (by kernel_rfl) rfl rfl ((by first | exact det_loadb0 (j := 5) rfl rfl tk37 | exact det_loadbN (j := 5) rfl rfl (by rfl) tk37 | exact det_loadwN rfl (by assumption) (by rfl) tk37 | exact det_loadbK (n := 3) (j := 5) rfl rfl rfl rfl tk37)) rfl rfl ?_
    refine AS.one (i := 1) (by kernel_rfl) rfl (by first | exact fun _ h => h | exact fun _ h => h.sub (by repeat first | exact List.Sublist.refl _ | apply List.Sublist.cons_cons | apply List.Sublist.cons)) rfl ?_
    refine WS.callF rfl rfl ent14 (fun u hu => Copy_c r u (hr.st hu) hn) (fun _ => rfl) ?_; rintro c ⟨hce, uc, hcok⟩
    have hA := alike hce
    have hnc := near_e hce hn
    have o1 := Sl.one hcok.pls
    have o2 := Sl.one hcok.ths
    have o3 := Sl.one hcok.prs
    have o4 := Sl.one hcok.wys
    have o5 := Sl.one hcok.acs
    have o6 := Sl.one hcok.aus
    have o7 := Sl.one hcok.gl
    refine WS.done ?_
    refine QS.then_AS ?_
    refine AS.one (i := 3) (by kernel_rfl) rfl (by first | exact fun _ h => h | exact fun _ h => h.sub (by repeat first | exact List.Sublist.refl _ | apply List.Sublist.cons_cons | apply List.Sublist.cons)) rfl ?_
    refine WS.callF rfl rfl ent23 (fun u hu => CopyStateR_c z u (hz.st hu) hsm) (fun _ => rfl) ?_; rintro y ⟨hyx, uy, hyok⟩
    obtain ⟨hya, hyb, hyc⟩ := hyok.ones
    refine WS.done ?_
    refine QS.then_AS ?_
    refine AS.one (i := 4) (by kernel_rfl) rfl (by first | exact fun _ h => h | exact fun _ h => h.sub (by repeat first | exact List.Sublist.refl _ | apply List.Sublist.cons_cons | apply List.Sublist.cons)) rfl ?_
    refine WS.det rfl rfl rfl (det_callB rfl rfl ent31 (fun u hu => (by have q := ICheckState_c c u (hu.ro (j := 1) rfl) g (hG.st hu) hnc y (hu.ro (j := 0) rfl); rw [show stateE c y = stL c y.x from rfl, hA.stL, hyx] at q; exact q))) rfl ?_
    refine WS.done ?_
    refine QS.then_AS ?_
    refine AS.take 7 rfl (by kernel_rfl) (by kernel_rfl) (by kernel_rfl) rfl rfl (det_callB rfl rfl ent30 (fun u hu => RCheckState_c r u (hr.st hu) hn z (hz.st hu))) rfl rfl ?_
    refine AS.take 8 rfl (by kernel_rfl) (by kernel_rfl) (by kernel_rfl) rfl rfl (det_eq rfl rfl) rfl rfl ?_
    refine AS.take 9 rfl (by kernel_rfl) (by kernel_rfl) (by kernel_rfl) rfl rfl (det_move rfl) rfl rfl ?_
    refine AS.takeT 10 rfl (by kernel_rfl) (by kernel_rfl) (by kernel_rfl) rfl rfl rfl (fun hg => det_move rfl) rfl rfl ?_
    refine AS.takeT 11 rfl (by kernel_rfl) (by kernel_rfl) (by kernel_rfl) rfl rfl rfl (fun hg => det_move rfl) rfl rfl ?_
    refine AS.takeT 12 rfl (by kernel_rfl) (by kernel_rfl) (by kernel_rfl) rfl rfl rfl (fun hg => det_eqb (ev_cond hg rfl) (ev_cond hg rfl) Tryd.underlying4) rfl rfl ?_
    refine AS.take 13 rfl (by kernel_rfl) (by kernel_rfl) (by kernel_rfl) rfl rfl (det_pick_and rfl rfl rfl) rfl rfl ?_
    refine AS.take 14 rfl (by kernel_rfl) (by kernel_rfl) (by kernel_rfl) rfl rfl (det_move rfl) rfl rfl ?_
    refine AS.takeT 15 rfl (by kernel_rfl) (by kernel_rfl) (by kernel_rfl) rfl rfl rfl (fun hg => det_move rfl) rfl rfl ?_
    refine AS.takeT 16 rfl (by kernel_rfl) (by kernel_rfl) (by kernel_rfl) rfl rfl rfl (fun hg => det_move rfl) rfl rfl ?_
    refine AS.takeT 17 rfl (by kernel_rfl) (by kernel_rfl) (by kernel_rfl) rfl rfl rfl (fun hg => det_eq (ev_cond hg rfl) (ev_cond hg rfl)) rfl rfl ?_
    refine AS.take 18 rfl (by kernel_rfl) (by kernel_rfl) (by kernel_rfl) rfl rfl (det_pick_and rfl rfl rfl) rfl rfl ?_
    refine AS.take 19 rfl (by kernel_rfl) (by kernel_rfl) (by kernel_rfl) rfl rfl (det_move rfl) rfl rfl ?_
    refine AS.takeT 20 rfl (by kernel_rfl) (by kernel_rfl) (by kernel_rfl) rfl rfl rfl (fun hg => det_move rfl) rfl rfl ?_
    refine AS.takeT 21 rfl (by kernel_rfl) (by kernel_rfl) (by kernel_rfl) rfl rfl rfl (fun hg => det_move rfl) rfl rfl ?_
    refine AS.takeT 22 rfl (by kernel_rfl) (by kernel_rfl) (by kernel_rfl) rfl rfl rfl (fun hg => det_eqb (ev_cond hg rfl) (ev_cond hg rfl) Tryd.underlying4) rfl rfl ?_
    refine AS.take 23 rfl (by kernel_rfl) (by kernel_rfl) (by kernel_rfl) rfl rfl (det_pick_and rfl rfl rfl) rfl rfl ?_
    refine AS.take 24 rfl (by kernel_rfl) (by kernel_rfl) (by kernel_rfl) rfl rfl (det_move rfl) rfl rfl ?_
    refine AS.takeT 25 rfl (by kernel_rfl) (by kernel_rfl) (by kernel_rfl) rfl rfl rfl (fun hg => det_move rfl) rfl rfl ?_
    refine AS.takeT 26 rfl (by kernel_rfl) (by kernel_rfl) (by kernel_rfl) rfl rfl rfl (fun hg => det_move rfl) rfl rfl ?_
    refine AS.takeT 27 rfl (by kernel_rfl) (by kernel_rfl) (by kernel_rfl) rfl rfl rfl (fun hg => det_eq (ev_cond hg rfl) (ev_cond hg rfl)) rfl rfl ?_
    refine AS.take 28 rfl (by kernel_rfl) (by kernel_rfl) (by kernel_rfl) rfl rfl (det_pick_and rfl rfl rfl) rfl rfl ?_
    refine AS.take 29 rfl (by kernel_rfl) (by kernel_rfl) (by kernel_rfl) rfl rfl (det_move rfl) rfl rfl ?_
    refine AS.takeT 30 rfl (by kernel_rfl) (by kernel_rfl) (by kernel_rfl) rfl rfl rfl (fun hg => det_callB rfl rfl ent13 (fun u hu => works_c u g (hG.st hu))) rfl rfl ?_
    refine AS.take 31 rfl (by kernel_rfl) (by kernel_rfl) (by kernel_rfl) rfl rfl (det_pick_and rfl rfl rfl) rfl rfl ?_
    refine AS.take 32 rfl (by kernel_rfl) (by kernel_rfl) (by kernel_rfl) rfl rfl (det_assign rfl) rfl rfl ?_
    refine AS.done (by kernel_rfl) (by first | exact fun _ h => h | exact fun _ h => h.sub (by repeat first | exact List.Sublist.refl _ | apply List.Sublist.cons_cons | apply List.Sublist.cons)) ?_
    refine QS.then_code ?_
    refine CS.ret ?_
    exact out1 rfl rfl (retBe (by rw [show stateE r z = stL r z.x from rfl]; simp))
  ·
   refine WS.build0 sl29 zv117 (fun _ => rfl) ?_; intro v32
   refine WS.done ?_
   refine QS.then_AS ?_
   refine AS.one (i := 1) (by kernel_rfl) rfl (by first | exact fun _ h => h | exact fun _ h => h.sub (by repeat first | exact List.Sublist.refl _ | apply List.Sublist.cons_cons | apply List.Sublist.cons)) rfl ?_
   refine WS.callF rfl rfl ent14 (fun u hu => Copy_c r u (hr.st hu) hn) (fun _ => rfl) ?_; rintro c ⟨hce, uc, hcok⟩
   have hA := alike hce
   have hnc := near_e hce hn
   have o1 := Sl.one hcok.pls
   have o2 := Sl.one hcok.ths
   have o3 := Sl.one hcok.prs
   have o4 := Sl.one hcok.wys
   have o5 := Sl.one hcok.acs
   have o6 := Sl.one hcok.aus
   have o7 := Sl.one hcok.gl
   refine WS.done ?_
   refine QS.then_AS ?_
   refine AS.one (i := 3) (by kernel_rfl) rfl (by first | exact fun _ h => h | exact fun _ h => h.sub (by repeat first | exact List.Sublist.refl _ | apply List.Sublist.cons_cons | apply List.Sublist.cons)) rfl ?_
   refine WS.callF rfl rfl ent23 (fun u hu => CopyStateR_c z u (hz.st hu) hsm) (fun _ => rfl) ?_; rintro y ⟨hyx, uy, hyok⟩
   obtain ⟨hya, hyb, hyc⟩ := hyok.ones
   refine WS.done ?_
   refine QS.then_AS ?_
   refine AS.one (i := 6) (by kernel_rfl) rfl (by first | exact fun _ h => h | exact fun _ h => h.sub (by repeat first | exact List.Sublist.refl _ | apply List.Sublist.cons_cons | apply List.Sublist.cons)) rfl ?_
   refine WS.append0 (j := 2) (news := flatC cLit cc.l) (m := cc.l.length) sl29 zv117 rfl (by decide) rfl rfl rfl (fun u hu => (hk.st hu).sp) hone (by omega) (by omega) (fun _ => rfl) (fun _ => rfl) ?_; intro v34
   refine WS.done ?_
   refine QS.then_AS ?_
   refine AS.one (i := 7) (by kernel_rfl) rfl (by first | exact fun _ h => h | exact fun _ h => h.sub (by repeat first | exact List.Sublist.refl _ | apply List.Sublist.cons_cons | apply List.Sublist.cons)) rfl ?_
   refine WS.det rfl rfl rfl (det_callB rfl rfl ent32 (fun u hu => (by have q := IHolds_c c u (hu.ro (j := 1) rfl) g (hG.st hu) hnc y (hu.ro (j := 0) rfl) ⟨v34, cc.l⟩ ⟨osl_SlC hu (j := 2) rfl, fun _ _ => trivial⟩; rw [hA.HoldsV, hyx] at q; exact q))) rfl ?_
   refine WS.done ?_
   refine QS.then_AS ?_
   refine AS.take 8 rfl (by kernel_rfl) (by kernel_rfl) (by kernel_rfl) rfl rfl (det_move rfl) rfl rfl ?_
   refine AS.take 9 rfl (by kernel_rfl) (by kernel_rfl) (by kernel_rfl) rfl rfl (det_extract rfl rfl) rfl rfl ?_
   refine AS.take 10 rfl (by kernel_rfl) (by kernel_rfl) (by kernel_rfl) rfl rfl (det_extract rfl rfl) rfl rfl ?_
   refine AS.take 11 rfl (by kernel_rfl) (by kernel_rfl) (by kernel_rfl) rfl rfl (det_assign rfl) rfl rfl ?_
   refine AS.take 12 rfl (by kernel_rfl) (by kernel_rfl) (by kernel_rfl) rfl rfl (det_assign rfl) rfl rfl ?_
   refine AS.done (by kernel_rfl) (by first | exact fun _ h => h | exact fun _ h => h.sub (by repeat first | exact List.Sublist.refl _ | apply List.Sublist.cons_cons | apply List.Sublist.cons)) ?_
   refine QS.then_code ?_
   refine N3 ?_
   refine WS.det rfl rfl rfl ((by first | exact det_loadb0 (j := 4) rfl rfl tk31 | exact det_loadbN (j := 4) rfl rfl (by rfl) tk31 | exact det_loadwN rfl (by assumption) (by rfl) tk31 | exact det_loadbK (n := 8) (j := 4) rfl rfl rfl rfl tk31)) rfl ?_
   refine WS.det rfl rfl rfl ((by first | exact det_loadb0 (j := 3) rfl rfl tk37 | exact det_loadbN (j := 3) rfl rfl (by rfl) tk37 | exact det_loadwN rfl (by assumption) (by rfl) tk37 | exact det_loadbK (n := 3) (j := 3) rfl rfl rfl rfl tk37)) rfl ?_
   refine WS.det rfl rfl rfl (det_move rfl) rfl ?_
   refine WS.det rfl rfl rfl (det_callB rfl rfl ent33 (fun u hu => RHolds_c r u (hr.st hu) hn z (hz.st hu) cc (hk.st hu))) rfl ?_
   refine WS.det rfl rfl rfl (det_move rfl) rfl ?_
   refine WS.det rfl rfl rfl (det_extract rfl rfl) rfl ?_
   refine WS.det rfl rfl rfl (det_extract rfl rfl) rfl ?_
   refine WS.det rfl rfl rfl (det_assign rfl) rfl ?_
   refine WS.det rfl rfl rfl (det_assign rfl) rfl ?_
   refine N4 ?_
   refine CS.seq ?_
   refine CS.drawnAll (k := 10) mixed rfl rfl ?_
   refine AS.take 0 rfl (by kernel_rfl) (by kernel_rfl) (by kernel_rfl) rfl rfl ((by first | exact det_loadb0 (j := 4) rfl rfl tk31 | exact det_loadbN (j := 4) rfl rfl (by rfl) tk31 | exact det_loadwN rfl (by assumption) (by rfl) tk31 | exact det_loadbK (n := 8) (j := 4) rfl rfl rfl rfl tk31)) rfl rfl ?_
   refine AS.take 2 rfl (by kernel_rfl) (by kernel_rfl) (by kernel_rfl) rfl rfl ((by first | exact det_loadb0 (j := 3) rfl rfl tk37 | exact det_loadbN (j := 3) rfl rfl (by rfl) tk37 | exact det_loadwN rfl (by assumption) (by rfl) tk37 | exact det_loadbK (n := 3) (j := 3) rfl rfl rfl rfl tk37)) rfl rfl ?_
   refine AS.one (i := 1) (by kernel_rfl) rfl (by first | exact fun _ h => h | exact fun _ h => h.sub (by repeat first | exact List.Sublist.refl _ | apply List.Sublist.cons_cons | apply List.Sublist.cons)) rfl ?_
   refine WS.callF rfl rfl ent14 (fun u hu => Copy_c r u (hr.st hu) hn) (fun _ => rfl) ?_; rintro c ⟨hce, uc, hcok⟩
   have hA := alike hce
   have hnc := near_e hce hn
   have o1 := Sl.one hcok.pls
   have o2 := Sl.one hcok.ths
   have o3 := Sl.one hcok.prs
   have o4 := Sl.one hcok.wys
   have o5 := Sl.one hcok.acs
   have o6 := Sl.one hcok.aus
   have o7 := Sl.one hcok.gl
   refine WS.done ?_
   refine QS.then_AS ?_
   refine AS.one (i := 3) (by kernel_rfl) rfl (by first | exact fun _ h => h | exact fun _ h => h.sub (by repeat first | exact List.Sublist.refl _ | apply List.Sublist.cons_cons | apply List.Sublist.cons)) rfl ?_
   refine WS.callF rfl rfl ent23 (fun u hu => CopyStateR_c z u (hz.st hu) hsm) (fun _ => rfl) ?_; rintro y ⟨hyx, uy, hyok⟩
   obtain ⟨hya, hyb, hyc⟩ := hyok.ones
   refine WS.done ?_
   refine QS.then_AS ?_
   refine AS.one (i := 4) (by kernel_rfl) rfl (by first | exact fun _ h => h | exact fun _ h => h.sub (by repeat first | exact List.Sublist.refl _ | apply List.Sublist.cons_cons | apply List.Sublist.cons)) rfl ?_
   refine WS.det rfl rfl rfl (det_callB rfl rfl ent34 (fun u hu => (by have q := IDone_c c u (hu.ro (j := 1) rfl) g (hG.st hu) hnc y (hu.ro (j := 0) rfl); rw [hA.HoldsV, hyx, hA.gl] at q; exact q))) rfl ?_
   refine WS.done ?_
   refine QS.then_AS ?_
   refine AS.take 5 rfl (by kernel_rfl) (by kernel_rfl) (by kernel_rfl) rfl rfl (det_move rfl) rfl rfl ?_
   refine AS.take 6 rfl (by kernel_rfl) (by kernel_rfl) (by kernel_rfl) rfl rfl (det_extract rfl rfl) rfl rfl ?_
   refine AS.take 7 rfl (by kernel_rfl) (by kernel_rfl) (by kernel_rfl) rfl rfl (det_extract rfl rfl) rfl rfl ?_
   refine AS.take 8 rfl (by kernel_rfl) (by kernel_rfl) (by kernel_rfl) rfl rfl (det_assign rfl) rfl rfl ?_
   refine AS.take 9 rfl (by kernel_rfl) (by kernel_rfl) (by kernel_rfl) rfl rfl (det_assign rfl) rfl rfl ?_
   refine AS.done (by kernel_rfl) (by first | exact fun _ h => h | exact fun _ h => h.sub (by repeat first | exact List.Sublist.refl _ | apply List.Sublist.cons_cons | apply List.Sublist.cons)) ?_
   refine QS.then_code ?_
   refine N3 ?_
   refine WS.det rfl rfl rfl ((by first | exact det_loadb0 (j := 6) rfl rfl tk31 | exact det_loadbN (j := 6) rfl rfl (by rfl) tk31 | exact det_loadwN rfl (by assumption) (by rfl) tk31 | exact det_loadbK (n := 8) (j := 6) rfl rfl rfl rfl tk31)) rfl ?_
   refine WS.det rfl rfl rfl ((by first | exact det_loadb0 (j := 5) rfl rfl tk37 | exact det_loadbN (j := 5) rfl rfl (by rfl) tk37 | exact det_loadwN rfl (by assumption) (by rfl) tk37 | exact det_loadbK (n := 3) (j := 5) rfl rfl rfl rfl tk37)) rfl ?_
   refine WS.det rfl rfl rfl (det_callB rfl rfl ent35 (fun u hu => RDone_c r u (hr.st hu) hn z (hz.st hu))) rfl ?_
   refine WS.det rfl rfl rfl (det_move rfl) rfl ?_
   refine WS.det rfl rfl rfl (det_extract rfl rfl) rfl ?_
   refine WS.det rfl rfl rfl (det_extract rfl rfl) rfl ?_
   refine WS.det rfl rfl rfl (det_assign rfl) rfl ?_
   refine WS.det rfl rfl rfl (det_assign rfl) rfl ?_
   refine N4 ?_
   refine CS.seq ?_
   refine CS.drawnAll (k := 33) mixed rfl rfl ?_
   refine AS.take 0 rfl (by kernel_rfl) (by kernel_rfl) (by kernel_rfl) rfl rfl ((by first | exact det_loadb0 (j := 6) rfl rfl tk31 | exact det_loadbN (j := 6) rfl rfl (by rfl) tk31 | exact det_loadwN rfl (by assumption) (by rfl) tk31 | exact det_loadbK (n := 8) (j := 6) rfl rfl rfl rfl tk31)) rfl rfl ?_
   refine AS.take 2 rfl (by kernel_rfl) (by kernel_rfl) (by kernel_rfl) rfl rfl ((by first | exact det_loadb0 (j := 5) rfl rfl tk37 | exact det_loadbN (j := 5) rfl rfl (by rfl) tk37 | exact det_loadwN rfl (by assumption) (by rfl) tk37 | exact det_loadbK (n := 3) (j := 5) rfl rfl rfl rfl tk37)) rfl rfl ?_
   refine AS.take 5 rfl (by kernel_rfl) (by kernel_rfl) (by kernel_rfl) rfl rfl ((by first | exact det_loadb0 (j := 6) rfl rfl tk31 | exact det_loadbN (j := 6) rfl rfl (by rfl) tk31 | exact det_loadwN rfl (by assumption) (by rfl) tk31 | exact det_loadbK (n := 8) (j := 6) rfl rfl rfl rfl tk31)) rfl rfl ?_
   refine AS.take 6 rfl (by kernel_rfl) (by kernel_rfl) (by kernel_rfl) rfl rfl ((by first | exact det_loadb0 (j := 5) rfl rfl tk37 | exact det_loadbN (j := 5) rfl rfl (by rfl) tk37 | exact det_loadwN rfl (by assumption) (by rfl) tk37 | exact det_loadbK (n := 3) (j := 5) rfl rfl rfl rfl tk37)) rfl rfl ?_
   refine AS.one (i := 1) (by kernel_rfl) rfl (by first | exact fun _ h => h | exact fun _ h => h.sub (by repeat first | exact List.Sublist.refl _ | apply List.Sublist.cons_cons | apply List.Sublist.cons)) rfl ?_
   refine WS.callF rfl rfl ent14 (fun u hu => Copy_c r u (hr.st hu) hn) (fun _ => rfl) ?_; rintro c ⟨hce, uc, hcok⟩
   have hA := alike hce
   have hnc := near_e hce hn
   have o1 := Sl.one hcok.pls
   have o2 := Sl.one hcok.ths
   have o3 := Sl.one hcok.prs
   have o4 := Sl.one hcok.wys
   have o5 := Sl.one hcok.acs
   have o6 := Sl.one hcok.aus
   have o7 := Sl.one hcok.gl
   refine WS.done ?_
   refine QS.then_AS ?_
   refine AS.one (i := 3) (by kernel_rfl) rfl (by first | exact fun _ h => h | exact fun _ h => h.sub (by repeat first | exact List.Sublist.refl _ | apply List.Sublist.cons_cons | apply List.Sublist.cons)) rfl ?_
   refine WS.callF rfl rfl ent23 (fun u hu => CopyStateR_c z u (hz.st hu) hsm) (fun _ => rfl) ?_; rintro y ⟨hyx, uy, hyok⟩
   obtain ⟨hya, hyb, hyc⟩ := hyok.ones
   refine WS.done ?_
   refine QS.then_AS ?_
   refine AS.one (i := 4) (by kernel_rfl) rfl (by first | exact fun _ h => h | exact fun _ h => h.sub (by repeat first | exact List.Sublist.refl _ | apply List.Sublist.cons_cons | apply List.Sublist.cons)) rfl ?_
   refine WS.det rfl rfl rfl (det_callB rfl rfl ent31 (fun u hu => (by have q := ICheckState_c c u (hu.ro (j := 1) rfl) g (hG.st hu) hnc y (hu.ro (j := 0) rfl); rw [show stateE c y = stL c y.x from rfl, hA.stL, hyx] at q; exact q))) rfl ?_
   refine WS.done ?_
   refine QS.then_AS ?_
   refine AS.take 7 rfl (by kernel_rfl) (by kernel_rfl) (by kernel_rfl) rfl rfl (det_callB rfl rfl ent30 (fun u hu => RCheckState_c r u (hr.st hu) hn z (hz.st hu))) rfl rfl ?_
   refine AS.take 8 rfl (by kernel_rfl) (by kernel_rfl) (by kernel_rfl) rfl rfl (det_eq rfl rfl) rfl rfl ?_
   refine AS.take 9 rfl (by kernel_rfl) (by kernel_rfl) (by kernel_rfl) rfl rfl (det_move rfl) rfl rfl ?_
   refine AS.takeT 10 rfl (by kernel_rfl) (by kernel_rfl) (by kernel_rfl) rfl rfl rfl (fun hg => det_move rfl) rfl rfl ?_
   refine AS.takeT 11 rfl (by kernel_rfl) (by kernel_rfl) (by kernel_rfl) rfl rfl rfl (fun hg => det_move rfl) rfl rfl ?_
   refine AS.takeT 12 rfl (by kernel_rfl) (by kernel_rfl) (by kernel_rfl) rfl rfl rfl (fun hg => det_eqb (ev_cond hg rfl) (ev_cond hg rfl) Tryd.underlying4) rfl rfl ?_
   refine AS.take 13 rfl (by kernel_rfl) (by kernel_rfl) (by kernel_rfl) rfl rfl (det_pick_and rfl rfl rfl) rfl rfl ?_
   refine AS.take 14 rfl (by kernel_rfl) (by kernel_rfl) (by kernel_rfl) rfl rfl (det_move rfl) rfl rfl ?_
   refine AS.takeT 15 rfl (by kernel_rfl) (by kernel_rfl) (by kernel_rfl) rfl rfl rfl (fun hg => det_move rfl) rfl rfl ?_
   refine AS.takeT 16 rfl (by kernel_rfl) (by kernel_rfl) (by kernel_rfl) rfl rfl rfl (fun hg => det_move rfl) rfl rfl ?_
   refine AS.takeT 17 rfl (by kernel_rfl) (by kernel_rfl) (by kernel_rfl) rfl rfl rfl (fun hg => det_eq (ev_cond hg rfl) (ev_cond hg rfl)) rfl rfl ?_
   refine AS.take 18 rfl (by kernel_rfl) (by kernel_rfl) (by kernel_rfl) rfl rfl (det_pick_and rfl rfl rfl) rfl rfl ?_
   refine AS.take 19 rfl (by kernel_rfl) (by kernel_rfl) (by kernel_rfl) rfl rfl (det_move rfl) rfl rfl ?_
   refine AS.takeT 20 rfl (by kernel_rfl) (by kernel_rfl) (by kernel_rfl) rfl rfl rfl (fun hg => det_move rfl) rfl rfl ?_
   refine AS.takeT 21 rfl (by kernel_rfl) (by kernel_rfl) (by kernel_rfl) rfl rfl rfl (fun hg => det_move rfl) rfl rfl ?_
   refine AS.takeT 22 rfl (by kernel_rfl) (by kernel_rfl) (by kernel_rfl) rfl rfl rfl (fun hg => det_eqb (ev_cond hg rfl) (ev_cond hg rfl) Tryd.underlying4) rfl rfl ?_
   refine AS.take 23 rfl (by kernel_rfl) (by kernel_rfl) (by kernel_rfl) rfl rfl (det_pick_and rfl rfl rfl) rfl rfl ?_
   refine AS.take 24 rfl (by kernel_rfl) (by kernel_rfl) (by kernel_rfl) rfl rfl (det_move rfl) rfl rfl ?_
   refine AS.takeT 25 rfl (by kernel_rfl) (by kernel_rfl) (by kernel_rfl) rfl rfl rfl (fun hg => det_move rfl) rfl rfl ?_
   refine AS.takeT 26 rfl (by kernel_rfl) (by kernel_rfl) (by kernel_rfl) rfl rfl rfl (fun hg => det_move rfl) rfl rfl ?_
   refine AS.takeT 27 rfl (by kernel_rfl) (by kernel_rfl) (by kernel_rfl) rfl rfl rfl (fun hg => det_eq (ev_cond hg rfl) (ev_cond hg rfl)) rfl rfl ?_
   refine AS.take 28 rfl (by kernel_rfl) (by kernel_rfl) (by kernel_rfl) rfl rfl (det_pick_and rfl rfl rfl) rfl rfl ?_
   refine AS.take 29 rfl (by kernel_rfl) (by kernel_rfl) (by kernel_rfl) rfl rfl (det_move rfl) rfl rfl ?_
   refine AS.takeT 30 rfl (by kernel_rfl) (by kernel_rfl) (by kernel_rfl) rfl rfl rfl (fun hg => det_callB rfl rfl ent13 (fun u hu => works_c u g (hG.st hu))) rfl rfl ?_
   refine AS.take 31 rfl (by kernel_rfl) (by kernel_rfl) (by kernel_rfl) rfl rfl (det_pick_and rfl rfl rfl) rfl rfl ?_
   refine AS.take 32 rfl (by kernel_rfl) (by kernel_rfl) (by kernel_rfl) rfl rfl (det_assign rfl) rfl rfl ?_
   refine AS.done (by kernel_rfl) (by first | exact fun _ h => h | exact fun _ h => h.sub (by repeat first | exact List.Sublist.refl _ | apply List.Sublist.cons_cons | apply List.Sublist.cons)) ?_
   refine QS.then_code ?_
   refine CS.ret ?_
   exact out1 rfl rfl (retBe (by rw [show stateE r z = stL r z.x from rfl]; simp))
end Go.Proofs.YtgbofmnbakfalaaDoor
