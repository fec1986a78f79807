/- Contracts of functions, printed by a program of the prover (gen.py). -/
import Derived.Test.YtgbofmnbakfalaaDoorKn
import Derived.Test.YtgbofmnbakfalaaDoorKo
namespace Go.Proofs.YtgbofmnbakfalaaDoor
open Go.RowKit Go.Proofs
set_option maxRecDepth 100000
set_option linter.unusedVariables false
set_option linter.unusedSimpArgs false
set_option maxHeartbeats 4000000 in
theorem RoomMoves_c (r : Room) (w : World) (hr : RoomOk w r) (g : Sl ByteArray) (hG : GOk w g) (z : Stt) (hz : SttOk w z) (m : Move) :
  Calls Tryd.prog 7 #[.agg #[r.pls.v, r.ths.v, r.prs.v, r.wys.v, r.acs.v, r.aus.v, .int .i64 r.ply, r.gl.v], .agg #[z.ths.v, z.prs.v, z.pls.v], .agg #[.int .i64 m.p, .int .i64 m.k, .int .i64 m.n]] w (RetB w (.bool true)) := by
 have zth := hz.ths.ints
 have zpr := hz.prs.ints
 have zpl := hz.pls.ints
 refine enter Tryd.func7 rfl rfl (Nat.le_of_ble_eq_true rfl) ?_
 refine N3 ?_
 refine WS.box rfl rfl (fun _ => rfl) ?_; intro b3 hb3
 refine WS.box rfl rfl (fun _ => rfl) ?_; intro b4 hb4
 refine WS.box rfl rfl (fun _ => rfl) ?_; intro b5 hb5
 refine WS.det rfl rfl rfl (det_assign rfl) rfl ?_
 refine N4 ?_
 refine CS.seq ?_
 refine N3 ?_
 refine WS.det rfl rfl rfl ((by first | exact det_loadb0 (j := 2) rfl rfl tk31 | exact det_loadbN (j := 2) rfl rfl (by rfl) tk31 | exact det_loadwN rfl (by assumption) (by rfl) tk31 | exact det_loadbK (n := 8) (j := 2) rfl rfl rfl rfl tk31)) rfl ?_
 refine WS.det rfl rfl rfl (det_callB rfl rfl ent12 (fun u hu => Far_c r u (hr.st hu))) rfl ?_
 refine WS.det rfl rfl rfl (det_move rfl) rfl ?_
 refine WS.guardF rfl rfl rfl rfl (fun hg => (by first | exact det_loadb0 (j := 1) rfl rfl tk37 | exact det_loadbN (j := 1) rfl rfl (by rfl) tk37 | exact det_loadwN rfl (by assumption) (by rfl) tk37 | exact det_loadbK (n := 3) (j := 1) rfl rfl rfl rfl tk37)) rfl ?_
 refine WS.guardF rfl rfl rfl rfl (fun hg => det_callB rfl (evs_cons (ev_cond hg rfl) evs_nil) ent21 (fun u hu => Away_c z u (hz.st hu))) rfl ?_
 refine WS.det rfl rfl rfl (det_pick_or rfl rfl rfl) rfl ?_
 refine WS.det rfl rfl rfl (det_move rfl) rfl ?_
 refine WS.guardF rfl rfl rfl rfl (fun hg => (by first | exact det_loadb0 (j := 2) rfl rfl tk31 | exact det_loadbN (j := 2) rfl rfl (by rfl) tk31 | exact det_loadwN rfl (by assumption) (by rfl) tk31 | exact det_loadbK (n := 8) (j := 2) rfl rfl rfl rfl tk31)) rfl ?_
 refine WS.guardF rfl rfl rfl rfl (fun hg => (by first | exact det_loadb0 (j := 1) rfl rfl tk37 | exact det_loadbN (j := 1) rfl rfl (by rfl) tk37 | exact det_loadwN rfl (by assumption) (by rfl) tk37 | exact det_loadbK (n := 3) (j := 1) rfl rfl rfl rfl tk37)) rfl ?_
 refine WS.guardF rfl rfl rfl rfl (fun hg => det_callB rfl (evs_cons (ev_cond hg rfl) (evs_cons (ev_cond hg rfl) evs_nil)) ent30 (fun u hu => RCheckState_c r u (hr.st hu) (clB_iff.1 (by cases hq : clB (Near r) <;> simp_all)) z (hz.st hu))) rfl ?_
 refine WS.guardF rfl rfl rfl rfl (fun hg => det_ne (ev_cond hg rfl) rfl) rfl ?_
 refine WS.det rfl rfl rfl (det_pick_or rfl rfl rfl) rfl ?_
 refine N4 ?_
 refine CS.cond rfl (fun hc1 => ?_) (fun hc1 => ?_) <;> (try simp only [bq] at hc1)
 ·
  refine N3 ?_
  refine WS.det rfl rfl rfl (det_callB rfl rfl ent13 (fun u hu => works_c u g (hG.st hu))) rfl ?_
  refine WS.det rfl rfl rfl (det_assign rfl) rfl ?_
  refine N4 ?_
  refine CS.ret ?_
  refine QS.then_ret ?_
  exact out1 rfl rfl retB
 ·
  have hn : Near r := clB_iff.1 hc1.1.1
  have hsm : z.ths.l.length ≤ 1000000 ∧ z.prs.l.length ≤ 1000000 ∧ z.pls.l.length ≤ 1000000 := by have := hc1.1.2; omega
  have hS : stL r z.x = 0 := hc1.2
  obtain ⟨hC, hI⟩ := stL_in.1 hS
  have hR := ready_of hC
  have hlen := hR.lens
  have hply := hR.ply
  have hLg : LegalV r z.x = (0, legalL r z.x) := if_pos hS
  have hlll : (legalL r z.x).length ≤ 384 := by
     have := List.length_filter_le (legalB r z.x) (candL r.ply.toNat)
     rw [candL_len] at this
     unfold legalL
     omega
  refine CS.skip ?_
  refine QS.then_code ?_
  refine N3 ?_
  refine WS.det rfl rfl rfl ((by first | exact det_loadb0 (j := 2) rfl rfl tk31 | exact det_loadbN (j := 2) rfl rfl (by rfl) tk31 | exact det_loadwN rfl (by assumption) (by rfl) tk31 | exact det_loadbK (n := 8) (j := 2) rfl rfl rfl rfl tk31)) rfl ?_
  refine WS.callF rfl rfl ent14 (fun u hu => Copy_c r u (hr.st hu) hn) (fun _ => rfl) ?_; rintro c ⟨hce, uc, hcok⟩
  have hA := alike hce
  have hnc := near_e hce hn
  have o1 := Sl.one hcok.pls
  have o2 := Sl.one hcok.ths
  have o3 := Sl.one hcok.prs
  have o4 := Sl.one hcok.wys
  have o5 := Sl.one hcok.acs
  have o6 := Sl.one hcok.aus
  have o7 := Sl.one hcok.gl
  refine WS.alloc zv31 (fun _ => rfl) ?_; intro b7 hb7
  first | refine WS.storeW (j := 0) rfl rfl rfl rfl (by first | (simp [Value.oneCell']; done) | ((repeat (refine List.forall_mem_cons.2 ⟨by first | rfl | assumption, ?_⟩)); exact fun _ h => absurd h List.not_mem_nil) | exact Cel.one _ w _ (by first | assumption | exact trivial)) tk31 rfl rfl ?_
  refine N4 ?_
  refine CS.seq ?_
  refine CS.drawnAll (k := 9) mixed rfl rfl ?_
  refine AS.take 0 rfl (by kernel_rfl) (by kernel_rfl) (by kernel_rfl) rfl rfl ((by first | exact det_loadb0 (j := 0) rfl rfl tk31 | exact det_loadbN (j := 0) rfl rfl (by rfl) tk31 | exact det_loadwN rfl (by assumption) (by rfl) tk31 | exact det_loadbK (n := 8) (j := 0) rfl rfl rfl rfl tk31)) rfl rfl ?_
  refine AS.take 1 rfl (by kernel_rfl) (by kernel_rfl) (by kernel_rfl) rfl rfl ((by first | exact det_loadb0 (j := 3) rfl rfl tk37 | exact det_loadbN (j := 3) rfl rfl (by rfl) tk37 | exact det_loadwN rfl (by assumption) (by rfl) tk37 | exact det_loadbK (n := 3) (j := 3) rfl rfl rfl rfl tk37)) rfl rfl ?_
  refine AS.one (i := 2) (by kernel_rfl) rfl (by first | exact fun _ h => h | exact fun _ h => h.sub (by repeat first | exact List.Sublist.refl _ | apply List.Sublist.cons_cons | apply List.Sublist.cons)) rfl ?_
  refine WS.callF rfl rfl ent23 (fun u hu => CopyStateR_c z u (hz.st hu) hsm) (fun _ => rfl) ?_; rintro y ⟨hyx, uy, hyok⟩
  obtain ⟨hya, hyb, hyc⟩ := hyok.ones
  refine WS.done ?_
  refine QS.then_AS ?_
  refine AS.one (i := 3) (by kernel_rfl) rfl (by first | exact fun _ h => h | exact fun _ h => h.sub (by repeat first | exact List.Sublist.refl _ | apply List.Sublist.cons_cons | apply List.Sublist.cons)) rfl ?_
  refine WS.callF rfl rfl ent22 (fun u hu => (by have q := ILegal_c c u (hu.ro (j := 2) rfl) g (hG.st hu) hnc y (hu.ro (j := 0) rfl); rw [hA.LegalV, hyx, hLg] at q; exact q)) (fun _ => rfl) ?_; rintro l ⟨ul, hl⟩
  refine WS.done ?_
  refine QS.then_AS ?_
  refine AS.take 4 rfl (by kernel_rfl) (by kernel_rfl) (by kernel_rfl) rfl rfl (det_move rfl) rfl rfl ?_
  refine AS.take 5 rfl (by kernel_rfl) (by kernel_rfl) (by kernel_rfl) rfl rfl (det_extract rfl rfl) rfl rfl ?_
  refine AS.take 6 rfl (by kernel_rfl) (by kernel_rfl) (by kernel_rfl) rfl rfl (det_extract rfl rfl) rfl rfl ?_
  refine AS.take 7 rfl (by kernel_rfl) (by kernel_rfl) (by kernel_rfl) rfl rfl (det_assign rfl) rfl rfl ?_
  refine AS.take 8 rfl (by kernel_rfl) (by kernel_rfl) (by kernel_rfl) rfl rfl (det_assign rfl) rfl rfl ?_
  refine AS.done (by kernel_rfl) (by first | exact fun _ h => h | exact fun _ h => h.sub (by repeat first | exact List.Sublist.refl _ | apply List.Sublist.cons_cons | apply List.Sublist.cons)) ?_
  refine QS.then_code ?_
  refine CS.cut (σ := Nat × Stt) [42, 43, 44, 45, 46, 47, 48, 49] (fun s => [(10, .pointer (some ⟨s.1, 0, none⟩)), (11, .int .i64 (StepV r z.x m).1)]) (fun s => [blk s.1 [s.2.ths.v, s.2.prs.v, s.2.pls.v] 37, roS fun u => SttOk u s.2, roT cMove ⟨l, legalL r z.x⟩, blk b7 [c.pls.v, c.ths.v, c.prs.v, c.wys.v, c.acs.v, c.aus.v, .int .i64 c.ply, c.gl.v] 31, roS fun u => RoomOk u c, blk b5 [.int .i64 m.p, .int .i64 m.k, .int .i64 m.n] 52, blk b4 [z.ths.v, z.prs.v, z.pls.v] 37, blk b3 [r.pls.v, r.ths.v, r.prs.v, r.wys.v, r.acs.v, r.aus.v, .int .i64 r.ply, r.gl.v] 31]) (fun s => s.2.x = (StepV r z.x m).2 ∧ ∃ u0, SttOk u0 s.2) (fun _ _ => rfl) ?_ ?_
  ·
   refine CS.drawnAll (k := 11) mixed rfl rfl ?_
   refine AS.take 0 rfl (by kernel_rfl) (by kernel_rfl) (by kernel_rfl) rfl rfl ((by first | exact det_loadb0 (j := 2) rfl rfl tk31 | exact det_loadbN (j := 2) rfl rfl (by rfl) tk31 | exact det_loadwN rfl (by assumption) (by rfl) tk31 | exact det_loadbK (n := 8) (j := 2) rfl rfl rfl rfl tk31)) rfl rfl ?_
   refine AS.take 1 rfl (by kernel_rfl) (by kernel_rfl) (by kernel_rfl) rfl rfl ((by first | exact det_loadb0 (j := 5) rfl rfl tk37 | exact det_loadbN (j := 5) rfl rfl (by rfl) tk37 | exact det_loadwN rfl (by assumption) (by rfl) tk37 | exact det_loadbK (n := 3) (j := 5) rfl rfl rfl rfl tk37)) rfl rfl ?_
   refine AS.take 3 rfl (by kernel_rfl) (by kernel_rfl) (by kernel_rfl) rfl rfl ((by first | exact det_loadb0 (j := 4) rfl rfl tk52 | exact det_loadbN (j := 4) rfl rfl (by rfl) tk52 | exact det_loadwN rfl (by assumption) (by rfl) tk52 | exact det_loadbK (n := 3) (j := 4) rfl rfl rfl rfl tk52)) rfl rfl ?_
   refine AS.two (i := 2) (j := 8) (by kernel_rfl) rfl rfl (by first | exact fun _ h => h | exact fun _ h => h.sub (by repeat first | exact List.Sublist.refl _ | apply List.Sublist.cons_cons | apply List.Sublist.cons)) rfl rfl ?_ ?_
   ·
    refine WS.callF rfl rfl ent23 (fun u hu => CopyStateR_c z u (hz.st hu) hsm) (fun _ => rfl) ?_; rintro y ⟨hyx, uy, hyok⟩
    obtain ⟨hya, hyb, hyc⟩ := hyok.ones
    refine WS.done ?_
    refine QS.then_AS ?_
    refine AS.two (i := 4) (j := 8) (by kernel_rfl) rfl rfl (by first | exact fun _ h => h | exact fun _ h => h.sub (by repeat first | exact List.Sublist.refl _ | apply List.Sublist.cons_cons | apply List.Sublist.cons)) rfl rfl ?_ ?_
    ·
     refine WS.callF rfl rfl ent26 (fun u hu => (by have q := IStep_c c u (hu.ro (j := 4) rfl) g (hG.st hu) hnc y (hu.ro (j := 0) rfl) m; rw [hA.StepV, hyx] at q; exact q)) (fun _ => rfl) ?_; rintro x ⟨hxx, ux, hxok⟩
     obtain ⟨hxa, hxb, hxc⟩ := hxok.ones
     refine WS.done ?_
     refine QS.then_AS ?_
     refine AS.take 5 rfl (by kernel_rfl) (by kernel_rfl) (by kernel_rfl) rfl rfl (det_move rfl) rfl rfl ?_
     refine AS.take 6 rfl (by kernel_rfl) (by kernel_rfl) (by kernel_rfl) rfl rfl (det_extract rfl rfl) rfl rfl ?_
     refine AS.take 7 rfl (by kernel_rfl) (by kernel_rfl) (by kernel_rfl) rfl rfl (det_extract rfl rfl) rfl rfl ?_
     refine AS.one (i := 8) (by kernel_rfl) rfl (by first | exact fun _ h => h | exact fun _ h => h.sub (by repeat first | exact List.Sublist.refl _ | apply List.Sublist.cons_cons | apply List.Sublist.cons)) rfl ?_
     refine WS.alloc zv37 (fun _ => rfl) ?_; intro b10 hb10
     refine WS.done ?_
     refine QS.then_AS ?_
     refine AS.one (i := 9) (by kernel_rfl) rfl (by first | exact fun _ h => h | exact fun _ h => h.sub (by repeat first | exact List.Sublist.refl _ | apply List.Sublist.cons_cons | apply List.Sublist.cons)) rfl ?_
     first | refine WS.storeW (j := 0) rfl rfl rfl rfl (by first | (simp [Value.oneCell']; done) | ((repeat (refine List.forall_mem_cons.2 ⟨by first | rfl | assumption, ?_⟩)); exact fun _ h => absurd h List.not_mem_nil) | exact Cel.one _ w _ (by first | assumption | exact trivial)) tk37 rfl rfl ?_
     refine WS.done ?_
     refine QS.then_AS ?_
     refine AS.take 10 rfl (by kernel_rfl) (by kernel_rfl) (by kernel_rfl) rfl rfl (det_assign rfl) rfl rfl ?_
     refine AS.done (by kernel_rfl) (by first | exact fun _ h => h | exact fun _ h => h.sub (by repeat first | exact List.Sublist.refl _ | apply List.Sublist.cons_cons | apply List.Sublist.cons)) ?_
     refine QS.sel [0, 0, 1, 2, 2, 2, 2, 2] rfl ?_
     exact QS.head ((b10, x)) rfl rfl ⟨hxx, ux, hxok⟩
    ·
     refine WS.alloc zv37 (fun _ => rfl) ?_; intro b10 hb10
     refine WS.done ?_
     refine QS.then_AS ?_
     refine AS.one (i := 4) (by kernel_rfl) rfl (by first | exact fun _ h => h | exact fun _ h => h.sub (by repeat first | exact List.Sublist.refl _ | apply List.Sublist.cons_cons | apply List.Sublist.cons)) rfl ?_
     refine WS.callF rfl rfl ent26 (fun u hu => (by have q := IStep_c c u (hu.ro (j := 5) rfl) g (hG.st hu) hnc y (hu.ro (j := 1) rfl) m; rw [hA.StepV, hyx] at q; exact q)) (fun _ => rfl) ?_; rintro x ⟨hxx, ux, hxok⟩
     obtain ⟨hxa, hxb, hxc⟩ := hxok.ones
     refine WS.done ?_
     refine QS.then_AS ?_
     refine AS.take 5 rfl (by kernel_rfl) (by kernel_rfl) (by kernel_rfl) rfl rfl (det_move rfl) rfl rfl ?_
     refine AS.take 6 rfl (by kernel_rfl) (by kernel_rfl) (by kernel_rfl) rfl rfl (det_extract rfl rfl) rfl rfl ?_
     refine AS.take 7 rfl (by kernel_rfl) (by kernel_rfl) (by kernel_rfl) rfl rfl (det_extract rfl rfl) rfl rfl ?_
     refine AS.one (i := 9) (by kernel_rfl) rfl (by first | exact fun _ h => h | exact fun _ h => h.sub (by repeat first | exact List.Sublist.refl _ | apply List.Sublist.cons_cons | apply List.Sublist.cons)) rfl ?_
     first | refine WS.storeW (j := 1) rfl rfl rfl rfl (by first | (simp [Value.oneCell']; done) | ((repeat (refine List.forall_mem_cons.2 ⟨by first | rfl | assumption, ?_⟩)); exact fun _ h => absurd h List.not_mem_nil) | exact Cel.one _ w _ (by first | assumption | exact trivial)) tk37 rfl rfl ?_
     refine WS.done ?_
     refine QS.then_AS ?_
     refine AS.take 10 rfl (by kernel_rfl) (by kernel_rfl) (by kernel_rfl) rfl rfl (det_assign rfl) rfl rfl ?_
     refine AS.done (by kernel_rfl) (by first | exact fun _ h => h | exact fun _ h => h.sub (by repeat first | exact List.Sublist.refl _ | apply List.Sublist.cons_cons | apply List.Sublist.cons)) ?_
     refine QS.sel [1, 0, 1, 2, 2, 2, 2, 2] rfl ?_
     exact QS.head ((b10, x)) rfl rfl ⟨hxx, ux, hxok⟩
   ·
    refine WS.alloc zv37 (fun _ => rfl) ?_; intro b10 hb10
    refine WS.done ?_
    refine QS.then_AS ?_
    refine AS.one (i := 2) (by kernel_rfl) rfl (by first | exact fun _ h => h | exact fun _ h => h.sub (by repeat first | exact List.Sublist.refl _ | apply List.Sublist.cons_cons | apply List.Sublist.cons)) rfl ?_
    refine WS.callF rfl rfl ent23 (fun u hu => CopyStateR_c z u (hz.st hu) hsm) (fun _ => rfl) ?_; rintro y ⟨hyx, uy, hyok⟩
    obtain ⟨hya, hyb, hyc⟩ := hyok.ones
    refine WS.done ?_
    refine QS.then_AS ?_
    refine AS.one (i := 4) (by kernel_rfl) rfl (by first | exact fun _ h => h | exact fun _ h => h.sub (by repeat first | exact List.Sublist.refl _ | apply List.Sublist.cons_cons | apply List.Sublist.cons)) rfl ?_
    refine WS.callF rfl rfl ent26 (fun u hu => (by have q := IStep_c c u (hu.ro (j := 5) rfl) g (hG.st hu) hnc y (hu.ro (j := 0) rfl) m; rw [hA.StepV, hyx] at q; exact q)) (fun _ => rfl) ?_; rintro x ⟨hxx, ux, hxok⟩
    obtain ⟨hxa, hxb, hxc⟩ := hxok.ones
    refine WS.done ?_
    refine QS.then_AS ?_
    refine AS.take 5 rfl (by kernel_rfl) (by kernel_rfl) (by kernel_rfl) rfl rfl (det_move rfl) rfl rfl ?_
    refine AS.take 6 rfl (by kernel_rfl) (by kernel_rfl) (by kernel_rfl) rfl rfl (det_extract rfl rfl) rfl rfl ?_
    refine AS.take 7 rfl (by kernel_rfl) (by kernel_rfl) (by kernel_rfl) rfl rfl (det_extract rfl rfl) rfl rfl ?_
    refine AS.one (i := 9) (by kernel_rfl) rfl (by first | exact fun _ h => h | exact fun _ h => h.sub (by repeat first | exact List.Sublist.refl _ | apply List.Sublist.cons_cons | apply List.Sublist.cons)) rfl ?_
    first | refine WS.storeW (j := 2) rfl rfl rfl rfl (by first | (simp [Value.oneCell']; done) | ((repeat (refine List.forall_mem_cons.2 ⟨by first | rfl | assumption, ?_⟩)); exact fun _ h => absurd h List.not_mem_nil) | exact Cel.one _ w _ (by first | assumption | exact trivial)) tk37 rfl rfl ?_
    refine WS.done ?_
    refine QS.then_AS ?_
    refine AS.take 10 rfl (by kernel_rfl) (by kernel_rfl) (by kernel_rfl) rfl rfl (det_assign rfl) rfl rfl ?_
    refine AS.done (by kernel_rfl) (by first | exact fun _ h => h | exact fun _ h => h.sub (by repeat first | exact List.Sublist.refl _ | apply List.Sublist.cons_cons | apply List.Sublist.cons)) ?_
    refine QS.sel [2, 0, 1, 2, 2, 2, 2, 2] rfl ?_
    exact QS.head ((b10, x)) rfl rfl ⟨hxx, ux, hxok⟩
  ·
   intro s t hs
   obtain ⟨b10, x⟩ := s
   obtain ⟨hxx, ux, hxok⟩ := hs
   obtain ⟨hxa, hxb, hxc⟩ := hxok.ones
   refine CS.seq ?_
   refine N3 ?_
   refine WS.det rfl rfl rfl (det_move rfl) rfl ?_
   refine WS.det rfl rfl rfl (det_ne rfl rfl) rfl ?_
   refine N4 ?_
   refine CS.cond rfl (fun hc2 => ?_) (fun hc2 => ?_) <;> (try simp only [bq] at hc2)
   ·
    exact absurd (by trivial) hc2
   ·
    refine CS.skip ?_
    refine QS.then_code ?_
    refine N3 ?_
    refine WS.det rfl rfl rfl (det_assign rfl) rfl ?_
    refine N4 ?_
    refine CS.seq ?_
    refine N3 ?_
    refine WS.det rfl rfl rfl (det_assign rfl) rfl ?_
    refine N4 ?_
    refine CS.block ?_
    refine CS.loopM (σ := Int × Bool) [52, 53, 54, 55, 56, 57, 58, 59, 60, 61, 62, 63, 64, 65, 66] (fun s => [(13, .int .i64 s.1), (12, .bool s.2)]) (fun _ => _) (fun s => 0 ≤ s.1 ∧ s.1 ≤ (legalL r z.x).length ∧ s.2 = ((legalL r z.x).take s.1.toNat).any fun y => decide (y = m)) (fun s => ((legalL r z.x).length - s.1).toNat) (0, false) (fun _ _ => rfl) rfl rfl ⟨by simp, by simp, by simp⟩ ?_
    intro s t hs
    obtain ⟨hs1, hs2, hs3⟩ := hs
    refine CS.seq ?_
    refine N3 ?_
    refine WS.det rfl rfl rfl (det_move rfl) rfl ?_
    refine WS.det rfl rfl rfl (det_move rfl) rfl ?_
    refine WS.det rfl rfl rfl (det_lenU sl45 rfl (by assumption)) rfl ?_
    refine WS.det rfl rfl rfl (det_lt rfl rfl) rfl ?_
    refine N4 ?_
    refine CS.cond rfl (fun hc3 => ?_) (fun hc3 => ?_) <;> (try simp only [bq] at hc3)
    ·
     refine CS.skip ?_
     refine QS.then_code ?_
     refine CS.seq ?_
     refine CS.block ?_
     refine CS.draw mixed (by kernel_rfl) (by kernel_rfl) ?_
     refine DS.det rfl rfl (det_move rfl) rfl ?_
     refine DS.det rfl rfl (det_move rfl) rfl ?_
     refine DS.guardF rfl rfl rfl (fun hg => det_move rfl) rfl ?_
     refine DS.guardF rfl rfl rfl (fun hg => det_move rfl) rfl ?_
     refine DS.guardF rfl rfl rfl (fun hg => det_idxU sl45 (ev_cond hg rfl) (ev_cond hg rfl) (by assumption) rfl (by (try simp only [bq] at hg); omega) (by (try simp only [bq] at hg); omega)) rfl ?_
     refine DS.guardF rfl rfl rfl (fun hg => (by first | exact det_ldU (ev_cond hg rfl) (by assumption) rfl ⟨(by (try simp only [bq] at hg); omega), (by (try simp only [bq] at hg); omega)⟩ rfl tk52 | exact det_ldRN (jj := 1) rfl (ev_cond hg rfl) rfl ⟨(by (try simp only [bq] at hg); omega), (by (try simp only [bq] at hg); omega)⟩ rfl tk52 | exact det_ldRN (jj := 2) rfl (ev_cond hg rfl) rfl ⟨(by (try simp only [bq] at hg); omega), (by (try simp only [bq] at hg); omega)⟩ rfl tk52 | exact det_ldRN (jj := 4) rfl (ev_cond hg rfl) rfl ⟨(by (try simp only [bq] at hg); omega), (by (try simp only [bq] at hg); omega)⟩ rfl tk52)) rfl ?_
     refine DS.guardF rfl rfl rfl (fun hg => (by first | exact det_loadb0 (j := 5) rfl rfl tk52 | exact det_loadbN (j := 5) rfl rfl (by rfl) tk52 | exact det_loadwN rfl (by assumption) (by rfl) tk52 | exact det_loadbK (n := 3) (j := 5) rfl rfl rfl rfl tk52)) rfl ?_
     refine DS.guardF rfl rfl rfl (fun hg => det_eqAgg agMove (ev_cond hg rfl) (ev_cond hg rfl) (cmp_move _ _)) rfl ?_
     refine DS.det rfl rfl (det_pick_or rfl rfl rfl) rfl ?_
     refine DS.det rfl rfl (det_assign rfl) rfl ?_
     refine DS.done ?_
     refine QS.block_normal ?_
     refine QS.then_code ?_
     refine CS.region ?_
     refine WS.det rfl rfl rfl (det_move rfl) rfl ?_
     refine WS.det rfl rfl rfl (det_add rfl rfl (by omega)) rfl ?_
     refine WS.det rfl rfl rfl (det_assign rfl) rfl ?_
     refine WS.done ?_
     exact QS.head ((s.1 + 1, s.2 || decide (nth (legalL r z.x) s.1 = m))) rfl rfl ⟨⟨by simp; omega, by simp; omega, by simp only; rw [hs3, any_snoc hs1 (by omega)]⟩, by simp; omega⟩
    ·
     refine CS.leave ?_
     iterate 2 refine QS.then_exit ?_
     refine QS.block_exit ?_
     refine QS.then_code ?_
     refine CS.seq ?_
     refine N3 ?_
     refine WS.det rfl rfl rfl (det_move rfl) rfl ?_
     refine WS.det rfl rfl rfl (det_move rfl) rfl ?_
     refine WS.det rfl rfl rfl (det_eq rfl rfl) rfl ?_
     refine WS.det rfl rfl rfl (det_eqb rfl rfl Tryd.underlying4) rfl ?_
     refine N4 ?_
     refine CS.cond rfl (fun hc4 => ?_) (fun hc4 => ?_) <;> (try simp only [bq] at hc4)
     ·
      exfalso
      rw [step_29 hS] at hc4
      have ht : (legalL r z.x).take s.1.toNat = legalL r z.x := List.take_of_length_le (by omega)
      rw [hs3, ht, legal_any hR hI m] at hc4
      cases hb : legalB r z.x m <;> simp [hb] at hc4
     ·
      refine CS.skip ?_
      refine QS.then_code ?_
      refine CS.seq ?_
      refine N3 ?_
      refine WS.det rfl rfl rfl (det_move rfl) rfl ?_
      refine WS.det rfl rfl rfl (det_ne rfl rfl) rfl ?_
      refine N4 ?_
      refine CS.cond rfl (fun hc5 => ?_) (fun hc5 => ?_) <;> (try simp only [bq] at hc5)
      ·
       refine N3 ?_
       refine WS.det rfl rfl rfl (det_move rfl) rfl ?_
       refine WS.det rfl rfl rfl (det_eq rfl rfl) rfl ?_
       refine WS.det rfl rfl rfl (det_move rfl) rfl ?_
       refine WS.guardF rfl rfl rfl rfl (fun hg => det_move rfl) rfl ?_
       refine WS.guardF rfl rfl rfl rfl (fun hg => det_eq (ev_cond hg rfl) rfl) rfl ?_
       refine WS.det rfl rfl rfl (det_pick_or rfl rfl rfl) rfl ?_
       refine WS.det rfl rfl rfl (det_move rfl) rfl ?_
       refine WS.guardT rfl rfl rfl rfl (fun hg => det_callB rfl rfl ent13 (fun u hu => works_c u g (hG.st hu))) rfl ?_
       refine WS.det rfl rfl rfl (det_pick_and rfl rfl rfl) rfl ?_
       refine WS.det rfl rfl rfl (det_assign rfl) rfl ?_
       refine N4 ?_
       refine CS.ret ?_
       refine QS.then_ret ?_
       exact out1 rfl rfl (retBe (by rcases step_err hS hc5 with h | h <;> rw [h] <;> simp))
      ·
       obtain ⟨hL, hSt⟩ := step_ok hS hc5
       have hI2 := settleV_stay hR (move_stay hR hI hL) hSt
       have hsmx : x.ths.l.length ≤ 1000000 ∧ x.prs.l.length ≤ 1000000 ∧ x.pls.l.length ≤ 1000000 := by
          have := hI2.small hR
          rw [← hxx] at this
          exact this
       have hSet := SettleV_still hC (move_stay hR hI hL) hSt
       have hSx : stL r (StepV r z.x m).2 = 0 := stL_in.2 ⟨hC, hI2⟩
       have hpx : x.prs.l = (moveX r z.x m).2.1 := by
          have := congrArg (fun p : List Int × List Int => p.1) (settleV_done hSt).2
          have h2 := congrArg (fun p : P3 => p.2.1) hxx
          simp only at h2
          exact h2.trans (congrArg (fun q : List Int × List Int => q.1) (settleV_done hSt).2)
       have hlx : x.prs.l.length = z.prs.l.length := by rw [hpx]; exact moveX_len.2.1
       have hxpr := hxok.prs.ints
       refine CS.skip ?_
       refine QS.then_code ?_
       refine CS.cut (σ := Nat × Stt) [82, 83, 84, 85, 86, 87, 88] (fun s => [(14, .pointer (some ⟨s.1, 0, none⟩)), (15, .int .i64 0)]) (fun s => [blk s.1 [s.2.ths.v, s.2.prs.v, s.2.pls.v] 37, roS fun u => SttOk u s.2, blk b10 [x.ths.v, x.prs.v, x.pls.v] 37, roS fun u => SttOk u x, blk b7 [c.pls.v, c.ths.v, c.prs.v, c.wys.v, c.acs.v, c.aus.v, .int .i64 c.ply, c.gl.v] 31, roS fun u => RoomOk u c, blk b5 [.int .i64 m.p, .int .i64 m.k, .int .i64 m.n] 52, blk b4 [z.ths.v, z.prs.v, z.pls.v] 37, blk b3 [r.pls.v, r.ths.v, r.prs.v, r.wys.v, r.acs.v, r.aus.v, .int .i64 r.ply, r.gl.v] 31]) (fun s => s.2.x = (StepV r z.x m).2 ∧ ∃ u0, SttOk u0 s.2) (fun _ _ => rfl) ?_ ?_
       ·
        refine CS.drawnAll (k := 10) mixed rfl rfl ?_
        refine AS.take 0 rfl (by kernel_rfl) (by kernel_rfl) (by kernel_rfl) rfl rfl ((by first | exact det_loadb0 (j := 3) rfl rfl tk31 | exact det_loadbN (j := 3) rfl rfl (by rfl) tk31 | exact det_loadwN rfl (by assumption) (by rfl) tk31 | exact det_loadbK (n := 8) (j := 3) rfl rfl rfl rfl tk31)) rfl rfl ?_
        refine AS.take 1 rfl (by kernel_rfl) (by kernel_rfl) (by kernel_rfl) rfl rfl ((by first | exact det_loadb0 (j := 0) rfl rfl tk37 | exact det_loadb0 (j := 1) rfl rfl tk37 | exact det_loadb0 (j := 2) rfl rfl tk37 | exact det_loadb0 (j := 3) rfl rfl tk37 | exact det_loadb0 (j := 4) rfl rfl tk37 | exact det_loadb0 (j := 5) rfl rfl tk37 | exact det_loadb0 (j := 6) rfl rfl tk37 | exact det_loadb0 (j := 7) rfl rfl tk37 | exact det_loadb0 (j := 8) rfl rfl tk37 | exact det_loadb0 (j := 9) rfl rfl tk37 | exact det_loadb0 (j := 10) rfl rfl tk37 | exact det_loadb0 (j := 11) rfl rfl tk37 | exact det_loadb0 (j := 12) rfl rfl tk37 | exact det_loadb0 (j := 13) rfl rfl tk37 | exact det_loadbN (j := 0) rfl rfl (by rfl) tk37 | exact det_loadbN (j := 1) rfl rfl (by rfl) tk37 | exact det_loadbN (j := 2) rfl rfl (by rfl) tk37 | exact det_loadbN (j := 3) rfl rfl (by rfl) tk37 | exact det_loadbN (j := 4) rfl rfl (by rfl) tk37 | exact det_loadbN (j := 5) rfl rfl (by rfl) tk37 | exact det_loadbN (j := 6) rfl rfl (by rfl) tk37 | exact det_loadbN (j := 7) rfl rfl (by rfl) tk37 | exact det_loadbN (j := 8) rfl rfl (by rfl) tk37 | exact det_loadbN (j := 9) rfl rfl (by rfl) tk37 | exact det_loadbN (j := 10) rfl rfl (by rfl) tk37 | exact det_loadbN (j := 11) rfl rfl (by rfl) tk37 | exact det_loadbN (j := 12) rfl rfl (by rfl) tk37 | exact det_loadbN (j := 13) rfl rfl (by rfl) tk37 | exact det_loadwN rfl (by assumption) (by rfl) tk37 | exact det_loadbK (n := 3) (j := 0) rfl rfl rfl rfl tk37 | exact det_loadbK (n := 3) (j := 1) rfl rfl rfl rfl tk37 | exact det_loadbK (n := 3) (j := 2) rfl rfl rfl rfl tk37 | exact det_loadbK (n := 3) (j := 3) rfl rfl rfl rfl tk37 | exact det_loadbK (n := 3) (j := 4) rfl rfl rfl rfl tk37 | exact det_loadbK (n := 3) (j := 5) rfl rfl rfl rfl tk37 | exact det_loadbK (n := 3) (j := 6) rfl rfl rfl rfl tk37 | exact det_loadbK (n := 3) (j := 7) rfl rfl rfl rfl tk37 | exact det_loadbK (n := 3) (j := 8) rfl rfl rfl rfl tk37 | exact det_loadbK (n := 3) (j := 9) rfl rfl rfl rfl tk37 | exact det_loadbK (n := 3) (j := 10) rfl rfl rfl rfl tk37 | exact det_loadbK (n := 3) (j := 11) rfl rfl rfl rfl tk37 | exact det_loadbK (n := 3) (j := 12) rfl rfl rfl rfl tk37 | exact det_loadbK (n := 3) (j := 13) rfl rfl rfl rfl tk37)) rfl rfl ?_
        refine AS.two (i := 2) (j := 7) (by kernel_rfl) rfl rfl (by first | exact fun _ h => h | exact fun _ h => h.sub (by repeat first | exact List.Sublist.refl _ | apply List.Sublist.cons_cons | apply List.Sublist.cons)) rfl rfl ?_ ?_
        ·
         refine WS.callF rfl rfl ent23 (fun u hu => CopyStateR_c x u (hu.ro (j := 1) rfl) hsmx) (fun _ => rfl) ?_; rintro y3 ⟨hy3x, uy3, hy3ok⟩
         obtain ⟨hy3a, hy3b, hy3c⟩ := hy3ok.ones
         refine WS.done ?_
         refine QS.then_AS ?_
         refine AS.two (i := 3) (j := 7) (by kernel_rfl) rfl rfl (by first | exact fun _ h => h | exact fun _ h => h.sub (by repeat first | exact List.Sublist.refl _ | apply List.Sublist.cons_cons | apply List.Sublist.cons)) rfl rfl ?_ ?_
         ·
          refine WS.callF rfl rfl ent28 (fun u hu => (by have q := ISettle_c c u (hu.ro (j := 5) rfl) g (hG.st hu) hnc y3 (hu.ro (j := 0) rfl); rw [hA.SettleV, hy3x, hxx, hSet] at q; exact q)) (fun _ => rfl) ?_; rintro x4 ⟨hx4x, ux4, hx4ok⟩
          obtain ⟨hx4a, hx4b, hx4c⟩ := hx4ok.ones
          refine WS.done ?_
          refine QS.then_AS ?_
          refine AS.take 4 rfl (by kernel_rfl) (by kernel_rfl) (by kernel_rfl) rfl rfl (det_move rfl) rfl rfl ?_
          refine AS.take 5 rfl (by kernel_rfl) (by kernel_rfl) (by kernel_rfl) rfl rfl (det_extract rfl rfl) rfl rfl ?_
          refine AS.take 6 rfl (by kernel_rfl) (by kernel_rfl) (by kernel_rfl) rfl rfl (det_extract rfl rfl) rfl rfl ?_
          refine AS.one (i := 7) (by kernel_rfl) rfl (by first | exact fun _ h => h | exact fun _ h => h.sub (by repeat first | exact List.Sublist.refl _ | apply List.Sublist.cons_cons | apply List.Sublist.cons)) rfl ?_
          refine WS.alloc zv37 (fun _ => rfl) ?_; intro b14 hb14
          refine WS.done ?_
          refine QS.then_AS ?_
          refine AS.one (i := 8) (by kernel_rfl) rfl (by first | exact fun _ h => h | exact fun _ h => h.sub (by repeat first | exact List.Sublist.refl _ | apply List.Sublist.cons_cons | apply List.Sublist.cons)) rfl ?_
          first | refine WS.storeW (j := 0) rfl rfl rfl rfl (by first | (simp [Value.oneCell']; done) | ((repeat (refine List.forall_mem_cons.2 ⟨by first | rfl | assumption, ?_⟩)); exact fun _ h => absurd h List.not_mem_nil) | exact Cel.one _ w _ (by first | assumption | exact trivial)) tk37 rfl rfl ?_
          refine WS.done ?_
          refine QS.then_AS ?_
          refine AS.take 9 rfl (by kernel_rfl) (by kernel_rfl) (by kernel_rfl) rfl rfl (det_assign rfl) rfl rfl ?_
          refine AS.done (by kernel_rfl) (by first | exact fun _ h => h | exact fun _ h => h.sub (by repeat first | exact List.Sublist.refl _ | apply List.Sublist.cons_cons | apply List.Sublist.cons)) ?_
          refine QS.sel [0, 0, 1, 1, 2, 2, 2, 2, 2] rfl ?_
          exact QS.head ((b14, x4)) rfl rfl ⟨hx4x, ux4, hx4ok⟩
         ·
          refine WS.alloc zv37 (fun _ => rfl) ?_; intro b14 hb14
          refine WS.done ?_
          refine QS.then_AS ?_
          refine AS.one (i := 3) (by kernel_rfl) rfl (by first | exact fun _ h => h | exact fun _ h => h.sub (by repeat first | exact List.Sublist.refl _ | apply List.Sublist.cons_cons | apply List.Sublist.cons)) rfl ?_
          refine WS.callF rfl rfl ent28 (fun u hu => (by have q := ISettle_c c u (hu.ro (j := 6) rfl) g (hG.st hu) hnc y3 (hu.ro (j := 1) rfl); rw [hA.SettleV, hy3x, hxx, hSet] at q; exact q)) (fun _ => rfl) ?_; rintro x4 ⟨hx4x, ux4, hx4ok⟩
          obtain ⟨hx4a, hx4b, hx4c⟩ := hx4ok.ones
          refine WS.done ?_
          refine QS.then_AS ?_
          refine AS.take 4 rfl (by kernel_rfl) (by kernel_rfl) (by kernel_rfl) rfl rfl (det_move rfl) rfl rfl ?_
          refine AS.take 5 rfl (by kernel_rfl) (by kernel_rfl) (by kernel_rfl) rfl rfl (det_extract rfl rfl) rfl rfl ?_
          refine AS.take 6 rfl (by kernel_rfl) (by kernel_rfl) (by kernel_rfl) rfl rfl (det_extract rfl rfl) rfl rfl ?_
          refine AS.one (i := 8) (by kernel_rfl) rfl (by first | exact fun _ h => h | exact fun _ h => h.sub (by repeat first | exact List.Sublist.refl _ | apply List.Sublist.cons_cons | apply List.Sublist.cons)) rfl ?_
          first | refine WS.storeW (j := 1) rfl rfl rfl rfl (by first | (simp [Value.oneCell']; done) | ((repeat (refine List.forall_mem_cons.2 ⟨by first | rfl | assumption, ?_⟩)); exact fun _ h => absurd h List.not_mem_nil) | exact Cel.one _ w _ (by first | assumption | exact trivial)) tk37 rfl rfl ?_
          refine WS.done ?_
          refine QS.then_AS ?_
          refine AS.take 9 rfl (by kernel_rfl) (by kernel_rfl) (by kernel_rfl) rfl rfl (det_assign rfl) rfl rfl ?_
          refine AS.done (by kernel_rfl) (by first | exact fun _ h => h | exact fun _ h => h.sub (by repeat first | exact List.Sublist.refl _ | apply List.Sublist.cons_cons | apply List.Sublist.cons)) ?_
          refine QS.sel [1, 0, 1, 1, 2, 2, 2, 2, 2] rfl ?_
          exact QS.head ((b14, x4)) rfl rfl ⟨hx4x, ux4, hx4ok⟩
        ·
         refine WS.alloc zv37 (fun _ => rfl) ?_; intro b14 hb14
         refine WS.done ?_
         refine QS.then_AS ?_
         refine AS.one (i := 2) (by kernel_rfl) rfl (by first | exact fun _ h => h | exact fun _ h => h.sub (by repeat first | exact List.Sublist.refl _ | apply List.Sublist.cons_cons | apply List.Sublist.cons)) rfl ?_
         refine WS.callF rfl rfl ent23 (fun u hu => CopyStateR_c x u (hu.ro (j := 2) rfl) hsmx) (fun _ => rfl) ?_; rintro y3 ⟨hy3x, uy3, hy3ok⟩
         obtain ⟨hy3a, hy3b, hy3c⟩ := hy3ok.ones
         refine WS.done ?_
         refine QS.then_AS ?_
         refine AS.one (i := 3) (by kernel_rfl) rfl (by first | exact fun _ h => h | exact fun _ h => h.sub (by repeat first | exact List.Sublist.refl _ | apply List.Sublist.cons_cons | apply List.Sublist.cons)) rfl ?_
         refine WS.callF rfl rfl ent28 (fun u hu => (by have q := ISettle_c c u (hu.ro (j := 6) rfl) g (hG.st hu) hnc y3 (hu.ro (j := 0) rfl); rw [hA.SettleV, hy3x, hxx, hSet] at q; exact q)) (fun _ => rfl) ?_; rintro x4 ⟨hx4x, ux4, hx4ok⟩
         obtain ⟨hx4a, hx4b, hx4c⟩ := hx4ok.ones
         refine WS.done ?_
         refine QS.then_AS ?_
         refine AS.take 4 rfl (by kernel_rfl) (by kernel_rfl) (by kernel_rfl) rfl rfl (det_move rfl) rfl rfl ?_
         refine AS.take 5 rfl (by kernel_rfl) (by kernel_rfl) (by kernel_rfl) rfl rfl (det_extract rfl rfl) rfl rfl ?_
         refine AS.take 6 rfl (by kernel_rfl) (by kernel_rfl) (by kernel_rfl) rfl rfl (det_extract rfl rfl) rfl rfl ?_
         refine AS.one (i := 8) (by kernel_rfl) rfl (by first | exact fun _ h => h | exact fun _ h => h.sub (by repeat first | exact List.Sublist.refl _ | apply List.Sublist.cons_cons | apply List.Sublist.cons)) rfl ?_
         first | refine WS.storeW (j := 2) rfl rfl rfl rfl (by first | (simp [Value.oneCell']; done) | ((repeat (refine List.forall_mem_cons.2 ⟨by first | rfl | assumption, ?_⟩)); exact fun _ h => absurd h List.not_mem_nil) | exact Cel.one _ w _ (by first | assumption | exact trivial)) tk37 rfl rfl ?_
         refine WS.done ?_
         refine QS.then_AS ?_
         refine AS.take 9 rfl (by kernel_rfl) (by kernel_rfl) (by kernel_rfl) rfl rfl (det_assign rfl) rfl rfl ?_
         refine AS.done (by kernel_rfl) (by first | exact fun _ h => h | exact fun _ h => h.sub (by repeat first | exact List.Sublist.refl _ | apply List.Sublist.cons_cons | apply List.Sublist.cons)) ?_
         refine QS.sel [2, 0, 1, 1, 2, 2, 2, 2, 2] rfl ?_
         exact QS.head ((b14, x4)) rfl rfl ⟨hx4x, ux4, hx4ok⟩
       ·
        intro s t hs
        obtain ⟨b14, x4⟩ := s
        obtain ⟨hx4x, ux4, hx4ok⟩ := hs
        obtain ⟨hx4a, hx4b, hx4c⟩ := hx4ok.ones
        refine CS.seq ?_
        refine CS.seq ?_
        refine CS.drawnAll (k := 21) mixed rfl rfl ?_
        refine AS.take 0 rfl (by kernel_rfl) (by kernel_rfl) (by kernel_rfl) rfl rfl (det_move rfl) rfl rfl ?_
        refine AS.take 1 rfl (by kernel_rfl) (by kernel_rfl) (by kernel_rfl) rfl rfl (det_ne rfl rfl) rfl rfl ?_
        refine AS.take 2 rfl (by kernel_rfl) (by kernel_rfl) (by kernel_rfl) rfl rfl (det_move (v := .bool false) rfl) rfl rfl ?_
        refine AS.takeF 3 rfl (by kernel_rfl) (by kernel_rfl) (by kernel_rfl) rfl rfl rfl (fun hg => (by first | exact det_loadb0 (j := 0) rfl rfl tk37 | exact det_loadb0 (j := 1) rfl rfl tk37 | exact det_loadb0 (j := 2) rfl rfl tk37 | exact det_loadb0 (j := 3) rfl rfl tk37 | exact det_loadb0 (j := 4) rfl rfl tk37 | exact det_loadb0 (j := 5) rfl rfl tk37 | exact det_loadb0 (j := 6) rfl rfl tk37 | exact det_loadb0 (j := 7) rfl rfl tk37 | exact det_loadb0 (j := 8) rfl rfl tk37 | exact det_loadb0 (j := 9) rfl rfl tk37 | exact det_loadb0 (j := 10) rfl rfl tk37 | exact det_loadb0 (j := 11) rfl rfl tk37 | exact det_loadb0 (j := 12) rfl rfl tk37 | exact det_loadb0 (j := 13) rfl rfl tk37 | exact det_loadbN (j := 0) rfl rfl (by rfl) tk37 | exact det_loadbN (j := 1) rfl rfl (by rfl) tk37 | exact det_loadbN (j := 2) rfl rfl (by rfl) tk37 | exact det_loadbN (j := 3) rfl rfl (by rfl) tk37 | exact det_loadbN (j := 4) rfl rfl (by rfl) tk37 | exact det_loadbN (j := 5) rfl rfl (by rfl) tk37 | exact det_loadbN (j := 6) rfl rfl (by rfl) tk37 | exact det_loadbN (j := 7) rfl rfl (by rfl) tk37 | exact det_loadbN (j := 8) rfl rfl (by rfl) tk37 | exact det_loadbN (j := 9) rfl rfl (by rfl) tk37 | exact det_loadbN (j := 10) rfl rfl (by rfl) tk37 | exact det_loadbN (j := 11) rfl rfl (by rfl) tk37 | exact det_loadbN (j := 12) rfl rfl (by rfl) tk37 | exact det_loadbN (j := 13) rfl rfl (by rfl) tk37 | exact det_loadwN rfl (by assumption) (by rfl) tk37 | exact det_loadbK (n := 3) (j := 0) rfl rfl rfl rfl tk37 | exact det_loadbK (n := 3) (j := 1) rfl rfl rfl rfl tk37 | exact det_loadbK (n := 3) (j := 2) rfl rfl rfl rfl tk37 | exact det_loadbK (n := 3) (j := 3) rfl rfl rfl rfl tk37 | exact det_loadbK (n := 3) (j := 4) rfl rfl rfl rfl tk37 | exact det_loadbK (n := 3) (j := 5) rfl rfl rfl rfl tk37 | exact det_loadbK (n := 3) (j := 6) rfl rfl rfl rfl tk37 | exact det_loadbK (n := 3) (j := 7) rfl rfl rfl rfl tk37 | exact det_loadbK (n := 3) (j := 8) rfl rfl rfl rfl tk37 | exact det_loadbK (n := 3) (j := 9) rfl rfl rfl rfl tk37 | exact det_loadbK (n := 3) (j := 10) rfl rfl rfl rfl tk37 | exact det_loadbK (n := 3) (j := 11) rfl rfl rfl rfl tk37 | exact det_loadbK (n := 3) (j := 12) rfl rfl rfl rfl tk37 | exact det_loadbK (n := 3) (j := 13) rfl rfl rfl rfl tk37)) rfl rfl ?_
        refine AS.takeF 4 rfl (by kernel_rfl) (by kernel_rfl) (by kernel_rfl) rfl rfl rfl (fun hg => (by first | exact det_loadb0 (j := 0) rfl rfl tk37 | exact det_loadb0 (j := 1) rfl rfl tk37 | exact det_loadb0 (j := 2) rfl rfl tk37 | exact det_loadb0 (j := 3) rfl rfl tk37 | exact det_loadb0 (j := 4) rfl rfl tk37 | exact det_loadb0 (j := 5) rfl rfl tk37 | exact det_loadb0 (j := 6) rfl rfl tk37 | exact det_loadb0 (j := 7) rfl rfl tk37 | exact det_loadb0 (j := 8) rfl rfl tk37 | exact det_loadb0 (j := 9) rfl rfl tk37 | exact det_loadb0 (j := 10) rfl rfl tk37 | exact det_loadb0 (j := 11) rfl rfl tk37 | exact det_loadb0 (j := 12) rfl rfl tk37 | exact det_loadb0 (j := 13) rfl rfl tk37 | exact det_loadbN (j := 0) rfl rfl (by rfl) tk37 | exact det_loadbN (j := 1) rfl rfl (by rfl) tk37 | exact det_loadbN (j := 2) rfl rfl (by rfl) tk37 | exact det_loadbN (j := 3) rfl rfl (by rfl) tk37 | exact det_loadbN (j := 4) rfl rfl (by rfl) tk37 | exact det_loadbN (j := 5) rfl rfl (by rfl) tk37 | exact det_loadbN (j := 6) rfl rfl (by rfl) tk37 | exact det_loadbN (j := 7) rfl rfl (by rfl) tk37 | exact det_loadbN (j := 8) rfl rfl (by rfl) tk37 | exact det_loadbN (j := 9) rfl rfl (by rfl) tk37 | exact det_loadbN (j := 10) rfl rfl (by rfl) tk37 | exact det_loadbN (j := 11) rfl rfl (by rfl) tk37 | exact det_loadbN (j := 12) rfl rfl (by rfl) tk37 | exact det_loadbN (j := 13) rfl rfl (by rfl) tk37 | exact det_loadwN rfl (by assumption) (by rfl) tk37 | exact det_loadbK (n := 3) (j := 0) rfl rfl rfl rfl tk37 | exact det_loadbK (n := 3) (j := 1) rfl rfl rfl rfl tk37 | exact det_loadbK (n := 3) (j := 2) rfl rfl rfl rfl tk37 | exact det_loadbK (n := 3) (j := 3) rfl rfl rfl rfl tk37 | exact det_loadbK (n := 3) (j := 4) rfl rfl rfl rfl tk37 | exact det_loadbK (n := 3) (j := 5) rfl rfl rfl rfl tk37 | exact det_loadbK (n := 3) (j := 6) rfl rfl rfl rfl tk37 | exact det_loadbK (n := 3) (j := 7) rfl rfl rfl rfl tk37 | exact det_loadbK (n := 3) (j := 8) rfl rfl rfl rfl tk37 | exact det_loadbK (n := 3) (j := 9) rfl rfl rfl rfl tk37 | exact det_loadbK (n := 3) (j := 10) rfl rfl rfl rfl tk37 | exact det_loadbK (n := 3) (j := 11) rfl rfl rfl rfl tk37 | exact det_loadbK (n := 3) (j := 12) rfl rfl rfl rfl tk37 | exact det_loadbK (n := 3) (j := 13) rfl rfl rfl rfl tk37)) rfl rfl ?_
        refine AS.takeF 5 rfl (by kernel_rfl) (by kernel_rfl) (by kernel_rfl) rfl rfl rfl (fun hg => det_callB rfl (evs_cons (ev_cond hg rfl) (evs_cons (ev_cond hg rfl) evs_nil)) ent19 (fun u hu => SameT_c x x4 u (hu.ro (j := 3) rfl) (hu.ro (j := 1) rfl) (hxx.trans hx4x.symm))) rfl rfl ?_
        refine AS.takeF 6 rfl (by kernel_rfl) (by kernel_rfl) (by kernel_rfl) rfl rfl rfl (fun hg => det_not (ev_cond hg rfl)) rfl rfl ?_
        refine AS.take 7 rfl (by kernel_rfl) (by kernel_rfl) (by kernel_rfl) rfl rfl (det_pick_or rfl rfl rfl) rfl rfl ?_
        refine AS.take 8 rfl (by kernel_rfl) (by kernel_rfl) (by kernel_rfl) rfl rfl (det_move (v := .bool false) rfl) rfl rfl ?_
        refine AS.takeF 9 rfl (by kernel_rfl) (by kernel_rfl) (by kernel_rfl) rfl rfl rfl (fun hg => (by first | exact det_loadb0 (j := 4) rfl rfl tk31 | exact det_loadbN (j := 4) rfl rfl (by rfl) tk31 | exact det_loadwN rfl (by assumption) (by rfl) tk31 | exact det_loadbK (n := 8) (j := 4) rfl rfl rfl rfl tk31)) rfl rfl ?_
        refine AS.takeF 10 rfl (by kernel_rfl) (by kernel_rfl) (by kernel_rfl) rfl rfl rfl (fun hg => (by first | exact det_loadb0 (j := 0) rfl rfl tk37 | exact det_loadb0 (j := 1) rfl rfl tk37 | exact det_loadb0 (j := 2) rfl rfl tk37 | exact det_loadb0 (j := 3) rfl rfl tk37 | exact det_loadb0 (j := 4) rfl rfl tk37 | exact det_loadb0 (j := 5) rfl rfl tk37 | exact det_loadb0 (j := 6) rfl rfl tk37 | exact det_loadb0 (j := 7) rfl rfl tk37 | exact det_loadb0 (j := 8) rfl rfl tk37 | exact det_loadb0 (j := 9) rfl rfl tk37 | exact det_loadb0 (j := 10) rfl rfl tk37 | exact det_loadb0 (j := 11) rfl rfl tk37 | exact det_loadb0 (j := 12) rfl rfl tk37 | exact det_loadb0 (j := 13) rfl rfl tk37 | exact det_loadbN (j := 0) rfl rfl (by rfl) tk37 | exact det_loadbN (j := 1) rfl rfl (by rfl) tk37 | exact det_loadbN (j := 2) rfl rfl (by rfl) tk37 | exact det_loadbN (j := 3) rfl rfl (by rfl) tk37 | exact det_loadbN (j := 4) rfl rfl (by rfl) tk37 | exact det_loadbN (j := 5) rfl rfl (by rfl) tk37 | exact det_loadbN (j := 6) rfl rfl (by rfl) tk37 | exact det_loadbN (j := 7) rfl rfl (by rfl) tk37 | exact det_loadbN (j := 8) rfl rfl (by rfl) tk37 | exact det_loadbN (j := 9) rfl rfl (by rfl) tk37 | exact det_loadbN (j := 10) rfl rfl (by rfl) tk37 | exact det_loadbN (j := 11) rfl rfl (by rfl) tk37 | exact det_loadbN (j := 12) rfl rfl (by rfl) tk37 | exact det_loadbN (j := 13) rfl rfl (by rfl) tk37 | exact det_loadwN rfl (by assumption) (by rfl) tk37 | exact det_loadbK (n := 3) (j := 0) rfl rfl rfl rfl tk37 | exact det_loadbK (n := 3) (j := 1) rfl rfl rfl rfl tk37 | exact det_loadbK (n := 3) (j := 2) rfl rfl rfl rfl tk37 | exact det_loadbK (n := 3) (j := 3) rfl rfl rfl rfl tk37 | exact det_loadbK (n := 3) (j := 4) rfl rfl rfl rfl tk37 | exact det_loadbK (n := 3) (j := 5) rfl rfl rfl rfl tk37 | exact det_loadbK (n := 3) (j := 6) rfl rfl rfl rfl tk37 | exact det_loadbK (n := 3) (j := 7) rfl rfl rfl rfl tk37 | exact det_loadbK (n := 3) (j := 8) rfl rfl rfl rfl tk37 | exact det_loadbK (n := 3) (j := 9) rfl rfl rfl rfl tk37 | exact det_loadbK (n := 3) (j := 10) rfl rfl rfl rfl tk37 | exact det_loadbK (n := 3) (j := 11) rfl rfl rfl rfl tk37 | exact det_loadbK (n := 3) (j := 12) rfl rfl rfl rfl tk37 | exact det_loadbK (n := 3) (j := 13) rfl rfl rfl rfl tk37)) rfl rfl ?_
        refine AS.one (i := 11) (by kernel_rfl) rfl (by first | exact fun _ h => h | exact fun _ h => h.sub (by repeat first | exact List.Sublist.refl _ | apply List.Sublist.cons_cons | apply List.Sublist.cons)) rfl ?_
        refine WS.callFg rfl rfl rfl ent23 (fun u hu => CopyStateR_c x u (hu.ro (j := 3) rfl) hsmx) (fun _ => rfl) ?_; rintro y5 ⟨hy5x, uy5, hy5ok⟩
        obtain ⟨hy5a, hy5b, hy5c⟩ := hy5ok.ones
        refine WS.done ?_
        refine QS.then_AS ?_
        refine AS.one (i := 12) (by kernel_rfl) rfl (by first | exact fun _ h => h | exact fun _ h => h.sub (by repeat first | exact List.Sublist.refl _ | apply List.Sublist.cons_cons | apply List.Sublist.cons)) rfl ?_
        refine WS.guardF rfl rfl rfl rfl (fun hg => det_callB rfl (evs_cons (ev_cond hg rfl) (evs_cons rfl evs_nil)) ent31 (fun u hu => (by have q := ICheckState_c c u (hu.ro (j := 6) rfl) g (hG.st hu) hnc y5 (hu.ro (j := 0) rfl); rw [show stateE c y5 = stL c y5.x from rfl, hA.stL, hy5x, hxx, hSx] at q; exact q))) rfl ?_
        refine WS.done ?_
        refine QS.then_AS ?_
        refine AS.takeF 13 rfl (by kernel_rfl) (by kernel_rfl) (by kernel_rfl) rfl rfl rfl (fun hg => det_ne (ev_cond hg rfl) rfl) rfl rfl ?_
        refine AS.take 14 rfl (by kernel_rfl) (by kernel_rfl) (by kernel_rfl) rfl rfl (det_pick_or rfl rfl rfl) rfl rfl ?_
        refine AS.take 15 rfl (by kernel_rfl) (by kernel_rfl) (by kernel_rfl) rfl rfl (det_move (v := .bool false) rfl) rfl rfl ?_
        refine AS.takeF 16 rfl (by kernel_rfl) (by kernel_rfl) (by kernel_rfl) rfl rfl rfl (fun hg => (by first | exact det_loadb0 (j := 8) rfl rfl tk31 | exact det_loadbN (j := 8) rfl rfl (by rfl) tk31 | exact det_loadwN rfl (by assumption) (by rfl) tk31 | exact det_loadbK (n := 8) (j := 8) rfl rfl rfl rfl tk31)) rfl rfl ?_
        refine AS.takeF 17 rfl (by kernel_rfl) (by kernel_rfl) (by kernel_rfl) rfl rfl rfl (fun hg => (by first | exact det_loadb0 (j := 0) rfl rfl tk37 | exact det_loadb0 (j := 1) rfl rfl tk37 | exact det_loadb0 (j := 2) rfl rfl tk37 | exact det_loadb0 (j := 3) rfl rfl tk37 | exact det_loadb0 (j := 4) rfl rfl tk37 | exact det_loadb0 (j := 5) rfl rfl tk37 | exact det_loadb0 (j := 6) rfl rfl tk37 | exact det_loadb0 (j := 7) rfl rfl tk37 | exact det_loadb0 (j := 8) rfl rfl tk37 | exact det_loadb0 (j := 9) rfl rfl tk37 | exact det_loadb0 (j := 10) rfl rfl tk37 | exact det_loadb0 (j := 11) rfl rfl tk37 | exact det_loadb0 (j := 12) rfl rfl tk37 | exact det_loadb0 (j := 13) rfl rfl tk37 | exact det_loadbN (j := 0) rfl rfl (by rfl) tk37 | exact det_loadbN (j := 1) rfl rfl (by rfl) tk37 | exact det_loadbN (j := 2) rfl rfl (by rfl) tk37 | exact det_loadbN (j := 3) rfl rfl (by rfl) tk37 | exact det_loadbN (j := 4) rfl rfl (by rfl) tk37 | exact det_loadbN (j := 5) rfl rfl (by rfl) tk37 | exact det_loadbN (j := 6) rfl rfl (by rfl) tk37 | exact det_loadbN (j := 7) rfl rfl (by rfl) tk37 | exact det_loadbN (j := 8) rfl rfl (by rfl) tk37 | exact det_loadbN (j := 9) rfl rfl (by rfl) tk37 | exact det_loadbN (j := 10) rfl rfl (by rfl) tk37 | exact det_loadbN (j := 11) rfl rfl (by rfl) tk37 | exact det_loadbN (j := 12) rfl rfl (by rfl) tk37 | exact det_loadbN (j := 13) rfl rfl (by rfl) tk37 | exact det_loadwN rfl (by assumption) (by rfl) tk37 | exact det_loadbK (n := 3) (j := 0) rfl rfl rfl rfl tk37 | exact det_loadbK (n := 3) (j := 1) rfl rfl rfl rfl tk37 | exact det_loadbK (n := 3) (j := 2) rfl rfl rfl rfl tk37 | exact det_loadbK (n := 3) (j := 3) rfl rfl rfl rfl tk37 | exact det_loadbK (n := 3) (j := 4) rfl rfl rfl rfl tk37 | exact det_loadbK (n := 3) (j := 5) rfl rfl rfl rfl tk37 | exact det_loadbK (n := 3) (j := 6) rfl rfl rfl rfl tk37 | exact det_loadbK (n := 3) (j := 7) rfl rfl rfl rfl tk37 | exact det_loadbK (n := 3) (j := 8) rfl rfl rfl rfl tk37 | exact det_loadbK (n := 3) (j := 9) rfl rfl rfl rfl tk37 | exact det_loadbK (n := 3) (j := 10) rfl rfl rfl rfl tk37 | exact det_loadbK (n := 3) (j := 11) rfl rfl rfl rfl tk37 | exact det_loadbK (n := 3) (j := 12) rfl rfl rfl rfl tk37 | exact det_loadbK (n := 3) (j := 13) rfl rfl rfl rfl tk37)) rfl rfl ?_
        refine AS.takeF 18 rfl (by kernel_rfl) (by kernel_rfl) (by kernel_rfl) rfl rfl rfl (fun hg => det_callB rfl (evs_cons (ev_cond hg rfl) (evs_cons (ev_cond hg rfl) evs_nil)) ent30 (fun u hu => (by have q := RCheckState_c r u (hr.st hu) hn x (hu.ro (j := 3) rfl); rw [show stateE r x = stL r x.x from rfl, hxx, hSx] at q; exact q))) rfl rfl ?_
        refine AS.takeF 19 rfl (by kernel_rfl) (by kernel_rfl) (by kernel_rfl) rfl rfl rfl (fun hg => det_ne (ev_cond hg rfl) rfl) rfl rfl ?_
        refine AS.take 20 rfl (by kernel_rfl) (by kernel_rfl) (by kernel_rfl) rfl rfl (det_pick_or rfl rfl rfl) rfl rfl ?_
        refine AS.done (by kernel_rfl) (by first | exact fun _ h => h | exact fun _ h => h.sub (by repeat first | exact List.Sublist.refl _ | apply List.Sublist.cons_cons | apply List.Sublist.cons)) ?_
        refine QS.then_code ?_
        refine CS.cond rfl (fun hc6 => ?_) (fun hc6 => ?_) <;> (try simp only [bq] at hc6)
        ·
         exact absurd hc6 (by simp)
        ·
         refine CS.skip ?_
         refine QS.then_code ?_
         refine CS.seq ?_
         refine N3 ?_
         refine WS.det rfl rfl rfl (det_assign rfl) rfl ?_
         refine N4 ?_
         refine CS.block ?_
         refine CS.loopM (σ := Int) [6, 17, 18, 19, 110, 111, 112, 113, 114, 115, 116, 117, 118, 119, 120, 121, 122, 123, 124, 125, 126, 127, 128, 129, 130, 131, 132, 133, 134, 135, 136, 137, 138, 139, 140, 141, 142, 143, 144, 145, 146, 147, 148, 149, 150, 151, 152, 153, 154, 155, 156, 157, 158, 159, 160, 161, 162, 163, 164, 165, 166, 167, 168, 169, 170, 171, 172, 173, 174, 175, 176, 177, 178] (fun s => [(16, .int .i64 s)]) (fun _ => _) (fun s => 0 ≤ s ∧ s ≤ z.prs.l.length) (fun s => (z.prs.l.length - s).toNat) 0 (fun _ _ => rfl) rfl rfl ⟨by omega, by omega⟩ ?_
         intro i t hs
         obtain ⟨hi1, hi2⟩ := hs
         refine CS.seq ?_
         refine N3 ?_
         refine WS.det rfl rfl rfl (det_move rfl) rfl ?_
         refine WS.det rfl rfl rfl ((by first | exact det_fieldAddr rfl fo37_1 | exact det_fieldAddrS rfl fo37_1)) rfl ?_
         refine WS.det rfl rfl rfl ((by first | exact det_loadb (j := 8) rfl rfl rfl tk35 | exact det_loadw rfl (by assumption) rfl tk35)) rfl ?_
         refine WS.det rfl rfl rfl ((by first | exact det_lenS sl35 rfl (by assumption) | exact det_lenS sl35 rfl (by first | exact SlL.sp (by assumption) | exact ClS.sp (by assumption)) | exact det_lenO sl35 rfl | exact det_lenV sl35 rfl ⟨_, _, rfl⟩)) rfl ?_
         refine WS.det rfl rfl rfl (det_lt rfl rfl) rfl ?_
         refine N4 ?_
         refine CS.cond rfl (fun hc7 => ?_) (fun hc7 => ?_) <;> (try simp only [bq] at hc7)
         ·
          have hpp := move_props hR hI hL (i := i) hi1 (show i < z.x.2.1.length from hc7)
          rw [← hpx] at hpp
          refine CS.skip ?_
          refine QS.then_code ?_
          refine CS.seq ?_
          refine CS.block ?_
          refine CS.seq ?_
          refine CS.draw mixed (by kernel_rfl) (by kernel_rfl) ?_
          refine DS.det rfl rfl ((by first | exact det_fieldAddr rfl fo37_1 | exact det_fieldAddrS rfl fo37_1)) rfl ?_
          refine DS.det rfl rfl ((by first | exact det_ldL rfl (by assumption) (by omega) tk35 | exact det_ldLR (j := 0) rfl rfl (by assumption) (by omega) tk35 | exact det_ldLR (j := 2) rfl rfl (by assumption) (by omega) tk35 | exact det_ldLR (j := 4) rfl rfl (by assumption) (by omega) tk35 | exact det_ldLR (j := 6) rfl rfl (by assumption) (by omega) tk35 | exact det_loadb (j := 0) rfl rfl rfl tk35 | exact det_loadb (j := 1) rfl rfl rfl tk35 | exact det_loadb (j := 2) rfl rfl rfl tk35 | exact det_loadb (j := 3) rfl rfl rfl tk35 | exact det_loadb (j := 4) rfl rfl rfl tk35 | exact det_loadb (j := 5) rfl rfl rfl tk35 | exact det_loadb (j := 6) rfl rfl rfl tk35 | exact det_loadb (j := 7) rfl rfl rfl tk35 | exact det_loadb (j := 8) rfl rfl rfl tk35 | exact det_loadb (j := 9) rfl rfl rfl tk35 | exact det_loadb (j := 10) rfl rfl rfl tk35 | exact det_loadb (j := 11) rfl rfl rfl tk35 | exact det_loadb (j := 12) rfl rfl rfl tk35 | exact det_loadb (j := 13) rfl rfl rfl tk35 | exact det_loadw rfl (by assumption) rfl tk35)) rfl ?_
          refine DS.det rfl rfl (det_move rfl) rfl ?_
          refine DS.det rfl rfl (det_idxI sl35 rfl rfl hxpr (by omega) (show i < ((x.prs.l.length : Nat) : Int) by omega)) rfl ?_
          refine DS.det rfl rfl (det_ldP (j := 4) rfl (fun u (h : SttOk u x) => h.prs.ints) rfl (by omega) tk3) rfl ?_
          refine DS.det rfl rfl ((by first | exact det_fieldAddr rfl fo37_1 | exact det_fieldAddrS rfl fo37_1)) rfl ?_
          refine DS.det rfl rfl ((by first | exact det_loadb (j := 8) rfl rfl rfl tk35 | exact det_loadw rfl (by assumption) rfl tk35)) rfl ?_
          refine DS.det rfl rfl (det_move rfl) rfl ?_
          refine DS.det rfl rfl ((by first | exact det_idxI sl35 rfl rfl (by assumption) (by omega) (by omega) | exact det_idxO sl35 rfl rfl (by omega) (by omega))) rfl ?_
          refine DS.det rfl rfl ((by first | exact det_ldI rfl (by assumption) (by omega) tk3 | exact det_loadb (j := 0) rfl rfl rfl tk3 | exact det_loadb (j := 1) rfl rfl rfl tk3 | exact det_loadb (j := 2) rfl rfl rfl tk3 | exact det_loadb (j := 3) rfl rfl rfl tk3 | exact det_loadb (j := 4) rfl rfl rfl tk3 | exact det_loadb (j := 5) rfl rfl rfl tk3 | exact det_loadb (j := 6) rfl rfl rfl tk3 | exact det_loadb (j := 7) rfl rfl rfl tk3 | exact det_loadb (j := 8) rfl rfl rfl tk3 | exact det_loadb (j := 9) rfl rfl rfl tk3 | exact det_loadb (j := 10) rfl rfl rfl tk3 | exact det_loadb (j := 11) rfl rfl rfl tk3 | exact det_loadb (j := 12) rfl rfl rfl tk3 | exact det_loadb (j := 13) rfl rfl rfl tk3 | exact det_loadw rfl (by assumption) rfl tk3 | exact det_ldLI (j := 0) rfl rfl (by omega) (by omega) tk3 | exact det_ldLI (j := 2) rfl rfl (by omega) (by omega) tk3 | exact det_ldLI (j := 4) rfl rfl (by omega) (by omega) tk3 | exact det_ldLI (j := 6) rfl rfl (by omega) (by omega) tk3 | exact det_ldIR (j := 0) rfl rfl (by omega) tk3 | exact det_ldIR (j := 2) rfl rfl (by omega) tk3 | exact det_ldIR (j := 4) rfl rfl (by omega) tk3 | exact det_ldIR (j := 6) rfl rfl (by omega) tk3)) rfl ?_
          refine DS.det rfl rfl (det_eq rfl rfl) rfl ?_
          refine DS.det rfl rfl (det_move rfl) rfl ?_
          refine DS.guardF rfl rfl rfl (fun hg => (by first | exact det_fieldAddr rfl fo52_1 | exact det_fieldAddrS rfl fo52_1)) rfl ?_
          refine DS.guardF rfl rfl rfl (fun hg => (by first | exact det_loadb (j := 7) (ev_cond hg rfl) rfl rfl tk3 | exact det_loadw (ev_cond hg rfl) (by assumption) rfl tk3)) rfl ?_
          refine DS.guardF rfl rfl rfl (fun hg => det_ne (ev_cond hg rfl) rfl) rfl ?_
          refine DS.guardF rfl rfl rfl (fun hg => det_move (ev_cond hg rfl)) rfl ?_
          refine DS.guardN rfl rfl rfl rfl (fun hg => (by first | exact det_fieldAddr rfl fo52_2 | exact det_fieldAddrS rfl fo52_2)) rfl ?_
          refine DS.guardN rfl rfl rfl rfl (fun hg => (by first | exact det_loadb (j := 7) (ev_cond hg rfl) rfl rfl tk3 | exact det_loadw (ev_cond hg rfl) (by assumption) rfl tk3)) rfl ?_
          refine DS.guardN rfl rfl rfl rfl (fun hg => det_ge (ev_cond hg rfl) rfl) rfl ?_
          refine DS.guardF rfl rfl rfl (fun hg => det_pick_and (ev_cond hg rfl) (ev_nestT hg rfl) rfl) rfl ?_
          refine DS.det rfl rfl (det_pick_or rfl rfl rfl) rfl ?_
          refine DS.det rfl rfl (det_assign rfl) rfl ?_
          refine DS.done ?_
          refine QS.then_code ?_
          refine N3 ?_
          refine WS.det rfl rfl rfl ((by first | exact det_fieldAddr rfl fo37_1 | exact det_fieldAddrS rfl fo37_1)) rfl ?_
          refine WS.det rfl rfl rfl ((by first | exact det_ldL rfl (by assumption) (by omega) tk35 | exact det_ldLR (j := 0) rfl rfl (by assumption) (by omega) tk35 | exact det_ldLR (j := 2) rfl rfl (by assumption) (by omega) tk35 | exact det_ldLR (j := 4) rfl rfl (by assumption) (by omega) tk35 | exact det_ldLR (j := 6) rfl rfl (by assumption) (by omega) tk35 | exact det_loadb (j := 0) rfl rfl rfl tk35 | exact det_loadb (j := 1) rfl rfl rfl tk35 | exact det_loadb (j := 2) rfl rfl rfl tk35 | exact det_loadb (j := 3) rfl rfl rfl tk35 | exact det_loadb (j := 4) rfl rfl rfl tk35 | exact det_loadb (j := 5) rfl rfl rfl tk35 | exact det_loadb (j := 6) rfl rfl rfl tk35 | exact det_loadb (j := 7) rfl rfl rfl tk35 | exact det_loadb (j := 8) rfl rfl rfl tk35 | exact det_loadb (j := 9) rfl rfl rfl tk35 | exact det_loadb (j := 10) rfl rfl rfl tk35 | exact det_loadb (j := 11) rfl rfl rfl tk35 | exact det_loadb (j := 12) rfl rfl rfl tk35 | exact det_loadb (j := 13) rfl rfl rfl tk35 | exact det_loadw rfl (by assumption) rfl tk35)) rfl ?_
          refine WS.det rfl rfl rfl (det_move rfl) rfl ?_
          refine WS.det rfl rfl rfl (det_idxI sl35 rfl rfl hxpr (by omega) (show i < ((x.prs.l.length : Nat) : Int) by omega)) rfl ?_
          refine WS.det rfl rfl rfl (det_ldP (j := 4) rfl (fun u (h : SttOk u x) => h.prs.ints) rfl (by omega) tk3) rfl ?_
          refine WS.det rfl rfl rfl (det_eq rfl rfl) rfl ?_
          refine WS.det rfl rfl rfl (det_move rfl) rfl ?_
          refine WS.guardT rfl rfl rfl rfl (fun hg => (by first | exact det_fieldAddr rfl fo37_1 | exact det_fieldAddrS rfl fo37_1)) rfl ?_
          refine WS.guardT rfl rfl rfl rfl (fun hg => (by first | exact det_loadb (j := 8) (ev_cond hg rfl) rfl rfl tk35 | exact det_loadw (ev_cond hg rfl) (by assumption) rfl tk35)) rfl ?_
          refine WS.guardT rfl rfl rfl rfl (fun hg => det_move rfl) rfl ?_
          refine WS.guardT rfl rfl rfl rfl (fun hg => (by first | exact det_idxI sl35 (ev_cond hg rfl) (ev_cond hg rfl) (by assumption) (by (try simp only [bq] at hg); omega) (by (try simp only [bq] at hg); omega) | exact det_idxO sl35 (ev_cond hg rfl) (ev_cond hg rfl) (by (try simp only [bq] at hg); omega) (by (try simp only [bq] at hg); omega))) rfl ?_
          refine WS.guardT rfl rfl rfl rfl (fun hg => (by first | exact det_ldI (ev_cond hg rfl) (by assumption) (by (try simp only [bq] at hg); omega) tk3 | exact det_loadb (j := 0) (ev_cond hg rfl) rfl rfl tk3 | exact det_loadb (j := 1) (ev_cond hg rfl) rfl rfl tk3 | exact det_loadb (j := 2) (ev_cond hg rfl) rfl rfl tk3 | exact det_loadb (j := 3) (ev_cond hg rfl) rfl rfl tk3 | exact det_loadb (j := 4) (ev_cond hg rfl) rfl rfl tk3 | exact det_loadb (j := 5) (ev_cond hg rfl) rfl rfl tk3 | exact det_loadb (j := 6) (ev_cond hg rfl) rfl rfl tk3 | exact det_loadb (j := 7) (ev_cond hg rfl) rfl rfl tk3 | exact det_loadb (j := 8) (ev_cond hg rfl) rfl rfl tk3 | exact det_loadb (j := 9) (ev_cond hg rfl) rfl rfl tk3 | exact det_loadb (j := 10) (ev_cond hg rfl) rfl rfl tk3 | exact det_loadb (j := 11) (ev_cond hg rfl) rfl rfl tk3 | exact det_loadb (j := 12) (ev_cond hg rfl) rfl rfl tk3 | exact det_loadb (j := 13) (ev_cond hg rfl) rfl rfl tk3 | exact det_loadw (ev_cond hg rfl) (by assumption) rfl tk3 | exact det_ldLI (j := 0) (ev_cond hg rfl) rfl (by (try simp only [bq] at hg); omega) (by (try simp only [bq] at hg); omega) tk3 | exact det_ldLI (j := 2) (ev_cond hg rfl) rfl (by (try simp only [bq] at hg); omega) (by (try simp only [bq] at hg); omega) tk3 | exact det_ldLI (j := 4) (ev_cond hg rfl) rfl (by (try simp only [bq] at hg); omega) (by (try simp only [bq] at hg); omega) tk3 | exact det_ldLI (j := 6) (ev_cond hg rfl) rfl (by (try simp only [bq] at hg); omega) (by (try simp only [bq] at hg); omega) tk3 | exact det_ldIR (j := 0) (ev_cond hg rfl) rfl (by (try simp only [bq] at hg); omega) tk3 | exact det_ldIR (j := 2) (ev_cond hg rfl) rfl (by (try simp only [bq] at hg); omega) tk3 | exact det_ldIR (j := 4) (ev_cond hg rfl) rfl (by (try simp only [bq] at hg); omega) tk3 | exact det_ldIR (j := 6) (ev_cond hg rfl) rfl (by (try simp only [bq] at hg); omega) tk3)) rfl ?_
          refine WS.guardT rfl rfl rfl rfl (fun hg => det_ne (ev_cond hg rfl) rfl) rfl ?_
          refine WS.det rfl rfl rfl (det_pick_and rfl rfl rfl) rfl ?_
          refine WS.det rfl rfl rfl (det_assign rfl) rfl ?_
          refine N1 ?_
          refine WS.det rfl rfl rfl ((by first | exact det_fieldAddr rfl fo37_1 | exact det_fieldAddrS rfl fo37_1)) rfl ?_
          refine WS.det rfl rfl rfl ((by first | exact det_ldL rfl (by assumption) (by omega) tk35 | exact det_ldLR (j := 0) rfl rfl (by assumption) (by omega) tk35 | exact det_ldLR (j := 2) rfl rfl (by assumption) (by omega) tk35 | exact det_ldLR (j := 4) rfl rfl (by assumption) (by omega) tk35 | exact det_ldLR (j := 6) rfl rfl (by assumption) (by omega) tk35 | exact det_loadb (j := 0) rfl rfl rfl tk35 | exact det_loadb (j := 1) rfl rfl rfl tk35 | exact det_loadb (j := 2) rfl rfl rfl tk35 | exact det_loadb (j := 3) rfl rfl rfl tk35 | exact det_loadb (j := 4) rfl rfl rfl tk35 | exact det_loadb (j := 5) rfl rfl rfl tk35 | exact det_loadb (j := 6) rfl rfl rfl tk35 | exact det_loadb (j := 7) rfl rfl rfl tk35 | exact det_loadb (j := 8) rfl rfl rfl tk35 | exact det_loadb (j := 9) rfl rfl rfl tk35 | exact det_loadb (j := 10) rfl rfl rfl tk35 | exact det_loadb (j := 11) rfl rfl rfl tk35 | exact det_loadb (j := 12) rfl rfl rfl tk35 | exact det_loadb (j := 13) rfl rfl rfl tk35 | exact det_loadw rfl (by assumption) rfl tk35)) rfl ?_
          refine WS.det rfl rfl rfl (det_move rfl) rfl ?_
          refine WS.det rfl rfl rfl (det_idxI sl35 rfl rfl hxpr (by omega) (show i < ((x.prs.l.length : Nat) : Int) by omega)) rfl ?_
          refine WS.det rfl rfl rfl (det_ldP (j := 4) rfl (fun u (h : SttOk u x) => h.prs.ints) rfl (by omega) tk3) rfl ?_
          refine WS.det rfl rfl rfl (det_ne rfl rfl) rfl ?_
          refine WS.det rfl rfl rfl (det_move rfl) rfl ?_
          refine WS.guardT rfl rfl rfl rfl (fun hg => (by first | exact det_fieldAddr rfl fo37_1 | exact det_fieldAddrS rfl fo37_1)) rfl ?_
          refine WS.guardT rfl rfl rfl rfl (fun hg => (by first | exact det_loadb (j := 8) (ev_cond hg rfl) rfl rfl tk35 | exact det_loadw (ev_cond hg rfl) (by assumption) rfl tk35)) rfl ?_
          refine WS.guardT rfl rfl rfl rfl (fun hg => det_move rfl) rfl ?_
          refine WS.guardT rfl rfl rfl rfl (fun hg => (by first | exact det_idxI sl35 (ev_cond hg rfl) (ev_cond hg rfl) (by assumption) (by (try simp only [bq] at hg); omega) (by (try simp only [bq] at hg); omega) | exact det_idxO sl35 (ev_cond hg rfl) (ev_cond hg rfl) (by (try simp only [bq] at hg); omega) (by (try simp only [bq] at hg); omega))) rfl ?_
          refine WS.guardT rfl rfl rfl rfl (fun hg => (by first | exact det_ldI (ev_cond hg rfl) (by assumption) (by (try simp only [bq] at hg); omega) tk3 | exact det_loadb (j := 0) (ev_cond hg rfl) rfl rfl tk3 | exact det_loadb (j := 1) (ev_cond hg rfl) rfl rfl tk3 | exact det_loadb (j := 2) (ev_cond hg rfl) rfl rfl tk3 | exact det_loadb (j := 3) (ev_cond hg rfl) rfl rfl tk3 | exact det_loadb (j := 4) (ev_cond hg rfl) rfl rfl tk3 | exact det_loadb (j := 5) (ev_cond hg rfl) rfl rfl tk3 | exact det_loadb (j := 6) (ev_cond hg rfl) rfl rfl tk3 | exact det_loadb (j := 7) (ev_cond hg rfl) rfl rfl tk3 | exact det_loadb (j := 8) (ev_cond hg rfl) rfl rfl tk3 | exact det_loadb (j := 9) (ev_cond hg rfl) rfl rfl tk3 | exact det_loadb (j := 10) (ev_cond hg rfl) rfl rfl tk3 | exact det_loadb (j := 11) (ev_cond hg rfl) rfl rfl tk3 | exact det_loadb (j := 12) (ev_cond hg rfl) rfl rfl tk3 | exact det_loadb (j := 13) (ev_cond hg rfl) rfl rfl tk3 | exact det_loadw (ev_cond hg rfl) (by assumption) rfl tk3 | exact det_ldLI (j := 0) (ev_cond hg rfl) rfl (by (try simp only [bq] at hg); omega) (by (try simp only [bq] at hg); omega) tk3 | exact det_ldLI (j := 2) (ev_cond hg rfl) rfl (by (try simp only [bq] at hg); omega) (by (try simp only [bq] at hg); omega) tk3 | exact det_ldLI (j := 4) (ev_cond hg rfl) rfl (by (try simp only [bq] at hg); omega) (by (try simp only [bq] at hg); omega) tk3 | exact det_ldLI (j := 6) (ev_cond hg rfl) rfl (by (try simp only [bq] at hg); omega) (by (try simp only [bq] at hg); omega) tk3 | exact det_ldIR (j := 0) (ev_cond hg rfl) rfl (by (try simp only [bq] at hg); omega) tk3 | exact det_ldIR (j := 2) (ev_cond hg rfl) rfl (by (try simp only [bq] at hg); omega) tk3 | exact det_ldIR (j := 4) (ev_cond hg rfl) rfl (by (try simp only [bq] at hg); omega) tk3 | exact det_ldIR (j := 6) (ev_cond hg rfl) rfl (by (try simp only [bq] at hg); omega) tk3)) rfl ?_
          refine WS.guardT rfl rfl rfl rfl (fun hg => det_eq (ev_cond hg rfl) rfl) rfl ?_
          refine WS.det rfl rfl rfl (det_pick_and rfl rfl rfl) rfl ?_
          refine WS.det rfl rfl rfl (det_assign rfl) rfl ?_
          refine N1 ?_
          refine WS.det rfl rfl rfl (det_move rfl) rfl ?_
          refine WS.det rfl rfl rfl (det_not rfl) rfl ?_
          refine WS.det rfl rfl rfl (det_move rfl) rfl ?_
          refine WS.guardF rfl rfl rfl rfl (fun hg => det_move rfl) rfl ?_
          refine WS.guardF rfl rfl rfl rfl (fun hg => det_move (ev_cond hg rfl)) rfl ?_
          refine WS.guardN rfl rfl rfl rfl rfl (fun hg => det_move rfl) rfl ?_
          refine WS.guardF rfl rfl rfl rfl (fun hg => det_pick_or (ev_cond hg rfl) (ev_nestF hg rfl) rfl) rfl ?_
          refine WS.guardF rfl rfl rfl rfl (fun hg => det_move (ev_cond hg rfl)) rfl ?_
          refine WS.guardN rfl rfl rfl rfl rfl (fun hg => (by first | exact det_fieldAddr rfl fo52_1 | exact det_fieldAddrS rfl fo52_1)) rfl ?_
          refine WS.guardN rfl rfl rfl rfl rfl (fun hg => (by first | exact det_loadb (j := 7) (ev_cond hg rfl) rfl rfl tk3 | exact det_loadw (ev_cond hg rfl) (by assumption) rfl tk3)) rfl ?_
          refine WS.guardN rfl rfl rfl rfl rfl (fun hg => det_ne (ev_cond hg rfl) rfl) rfl ?_
          refine WS.guardF rfl rfl rfl rfl (fun hg => det_pick_and (ev_cond hg rfl) (ev_nestT hg rfl) rfl) rfl ?_
          refine WS.det rfl rfl rfl (det_pick_or rfl rfl rfl) rfl ?_
          refine N4 ?_
          refine CS.cond rfl (fun hc8 => ?_) (fun hc8 => ?_) <;> (try simp only [bq] at hc8)
          ·
           exfalso
           have hpp1 := hpp.1
           have hpp2 := hpp.2
           simp only [Stt.x] at hpp1 hpp2
           generalize nth x.prs.l i = a at *
           generalize nth z.prs.l i = b at *
           first | omega | (simp at hc8; omega)
          ·
           refine CS.skip ?_
           refine QS.block_normal ?_
           refine QS.then_code ?_
           refine CS.region ?_
           refine WS.det rfl rfl rfl (det_move rfl) rfl ?_
           refine WS.det rfl rfl rfl (det_add rfl rfl (by omega)) rfl ?_
           refine WS.det rfl rfl rfl (det_assign rfl) rfl ?_
           refine WS.done ?_
           exact QS.head (i + 1) rfl rfl ⟨⟨by omega, by omega⟩, by omega⟩
         ·
          refine CS.leave ?_
          iterate 2 refine QS.then_exit ?_
          refine QS.block_exit ?_
          refine QS.then_code ?_
          refine N3 ?_
          refine WS.det rfl rfl rfl (det_callB rfl rfl ent13 (fun u hu => works_c u g (hG.st hu))) rfl ?_
          refine WS.det rfl rfl rfl (det_assign rfl) rfl ?_
          refine N4 ?_
          refine CS.ret ?_
          exact out1 rfl rfl retB
end Go.Proofs.YtgbofmnbakfalaaDoor
