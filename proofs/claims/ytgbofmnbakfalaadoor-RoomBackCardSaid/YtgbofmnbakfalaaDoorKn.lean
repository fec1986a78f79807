/- Merged texts of this proof (walks and plain laws), printed by a program of the prover. -/
import Derived.Test.YtgbofmnbakfalaaDoorKb
import Derived.Test.YtgbofmnbakfalaaDoorKl
import Derived.Test.YtgbofmnbakfalaaDoorKj
import Derived.Test.YtgbofmnbakfalaaDoorKk
namespace Go.Proofs.YtgbofmnbakfalaaDoor
set_option linter.unusedVariables false
set_option linter.unusedSimpArgs false
open Go.RowKit
def nil0 {α : Type} : Sl α := ⟨.slice none 0 0, []⟩
def of0 {α : Type} (l : List α) : Sl α := ⟨.slice none 0 0, l⟩
def tHall : ByteArray := ⟨#[104, 97, 108, 108]⟩
def tVault : ByteArray := ⟨#[118, 97, 117, 108, 116]⟩
def tBox : ByteArray := ⟨#[98, 111, 120]⟩
def tDoor : ByteArray := ⟨#[100, 111, 111, 114]⟩
def tKey : ByteArray := ⟨#[107, 101, 121]⟩
def tOpen : ByteArray := ⟨#[111, 112, 101, 110]⟩
def tTurn : ByteArray := ⟨#[116, 117, 114, 110]⟩
def exR : Room := ⟨of0 [tHall, tVault], of0 [⟨tBox, 0, 2, 0⟩, ⟨tDoor, 0, 2, 0⟩], of0 [⟨tKey, 0, of0 [⟨0, 1, false⟩]⟩], of0 [⟨0, 1, of0 [⟨1, 1, false⟩]⟩],
  of0 [⟨tOpen, 0, 0, nil0, nil0, of0 [⟨0, 1⟩], nil0, nil0⟩, ⟨tTurn, 0, -1, of0 [0], nil0, of0 [⟨1, 1⟩], of0 [0], nil0⟩], nil0, 1, nil0⟩
theorem seq_data (a b : ByteArray) : seq a b = (a.data.toList == b.data.toList) := by
  unfold seq
  rw [ByteArray.toList_eq, ByteArray.toList_eq]
theorem exNear : Near exR := by
  refine ⟨by decide, by decide, by decide, by decide, by decide, by decide, by decide, ?_, ?_, ?_, ?_, ?_, ?_⟩ <;> decide
theorem exNamed : namedB tHall = true ∧ namedB tVault = true ∧ namedB tBox = true ∧ namedB tDoor = true ∧ namedB tKey = true ∧ namedB tOpen = true ∧ namedB tTurn = true := by
  simp only [namedB, lettersB, wordL, List.any_cons, List.any_nil, seq_data]
  decide
theorem exCheck : checkE exR = 0 := by
  obtain ⟨h1, h2, h3, h4, h5, h6, h7⟩ := exNamed
  simp only [tHall, tVault, tBox, tDoor, tKey, tOpen, tTurn] at h1 h2 h3 h4 h5 h6 h7
  simp only [checkE, check2, check3, check4, check5, check6, check7, exR, of0, nil0, List.length_cons, List.length_nil, firstE, plO, thO, prO, wyO, acO, auO, actB, act2, newB]
  simp [manyB, nth, h1, h2, h3, h4, h5, h6, h7, seq_data, tHall, tVault, tBox, tDoor, tKey, tOpen, tTurn, thB, placeB, whO, condB, putB, glO, or0, act3, act4, act5, ascB, allI, IntKind.wrap, IntKind.bits, IntKind.signed]
theorem exBegin : BeginV exR = (0, ([0, 0], [0], [0])) := by
  unfold BeginV SettleV stL
  rw [exCheck]
  decide
theorem exStep : StepV exR ([0, 0], [0], [0]) ⟨0, 4, 0⟩ = (0, ([1, 0], [0], [0])) := by
  unfold StepV stL
  rw [exCheck]
  decide
theorem exLegal : LegalV exR ([1, 0], [0], [0]) = (0, [⟨0, 2, 0⟩, ⟨0, 4, 0⟩]) := by
  unfold LegalV stL
  rw [exCheck]
  decide
end Go.Proofs.YtgbofmnbakfalaaDoor
set_option maxHeartbeats 8000000
namespace Go.Proofs.YtgbofmnbakfalaaDoor
open Go.RowKit Go.Proofs
set_option maxRecDepth 100000
set_option linter.unusedVariables false
set_option linter.unusedSimpArgs false
theorem SameT_c (z y : Stt) (w : World) (hz : SttOk w z) (hy : SttOk w y) (h : z.x = y.x) :
  Calls Tryd.prog 19 #[.agg #[z.ths.v, z.prs.v, z.pls.v], .agg #[y.ths.v, y.prs.v, y.pls.v]] w (RetB w (.bool true)) := by
 have q := SameState_c z y w hz hy
 have e1 : z.ths.l = y.ths.l := congrArg (fun p : P3 => p.1) h
 have e2 : z.prs.l = y.prs.l := congrArg (fun p : P3 => p.2.1) h
 have e3 : z.pls.l = y.pls.l := congrArg (fun p : P3 => p.2.2) h
 rw [e1, e2, e3] at q
 simpa using q
theorem Example_c (w : World) : Calls Tryd.prog 42 #[] w (RetRm w exR) := by
 refine enter Tryd.func42 rfl rfl (Nat.le_of_ble_eq_true rfl) ?_
 refine Nz 0 ?_
 refine Wl 0 zv31 (fun _ => rfl) (fun _ => rfl) fun b0 hb0 => ?_
 refine Wd (Qc (Nz 0 ?_))
 refine WS.buildSlice1 sl22 zv9 (vs := [.string tHall, .string tVault]) rfl rfl (by decide) (by simp [Value.oneCell']) (fun _ => rfl) ?_; intro v1; refine WS.oc (j := 0) rfl (fun hv1 => ?_)
 refine Wk 0 (Db plc70 zv70) ?_
 refine Wk 0 (Db plc70 zv70) ?_
 refine WS.buildSliceK sl23 zv70 (rows := [[.string tBox, .int .i64 0, .int .i64 2, .int .i64 0], [.string tDoor, .int .i64 0, .int .i64 2, .int .i64 0]]) rfl rfl (by decide) (by decide) (by simp [Value.oneCell']) (fun _ => rfl) ?_; intro v4; refine WS.oc (j := 0) rfl (fun hv4 => ?_)
 refine Wk 0 (Db plc117 zv117) ?_
 refine WS.buildT1 cLit (a := ⟨0, 1, false⟩) sl29 zv117 rfl (by decide) (fun _ => rfl) ?_; intro v6; refine WS.oc (j := 0) rfl (fun hv6 => ?_)
 refine Wk 0 (Db plc72 zv72) ?_
 refine WS.buildT1 cPro (a := ⟨tKey, 0, ⟨v6, [⟨0, 1, false⟩]⟩⟩) sl24 zv72 rfl (by decide) (fun _ => rfl) ?_; intro v8; refine WS.oc (j := 0) rfl (fun hv8 => ?_)
 refine Wk 0 (Db plc117 zv117) ?_
 refine WS.buildT1 cLit (a := ⟨1, 1, false⟩) sl29 zv117 rfl (by decide) (fun _ => rfl) ?_; intro v10; refine WS.oc (j := 0) rfl (fun hv10 => ?_)
 refine Wk 0 (Db plc74 zv74) ?_
 refine WS.buildT1 cWay (a := ⟨0, 1, ⟨v10, [⟨1, 1, false⟩]⟩⟩) sl25 zv74 rfl (by decide) (fun _ => rfl) ?_; intro v12; refine WS.oc (j := 0) rfl (fun hv12 => ?_)
 refine Wk 0 (Db plc79 zv79) ?_
 refine WS.buildT1 cPut (a := ⟨0, 1⟩) sl75 zv79 rfl (by decide) (fun _ => rfl) ?_; intro v14; refine WS.oc (j := 0) rfl (fun hv14 => ?_)
 refine Wk 0 (Db plc77 zv77) ?_
 refine WS.buildI1 sl35 zv3 rfl (fun _ => rfl) ?_; intro v16; refine WS.oc (j := 0) rfl (fun hv16 => ?_)
 refine Wk 0 (Db plc79 zv79) ?_
 refine WS.buildT1 cPut (a := ⟨1, 1⟩) sl75 zv79 rfl (by decide) (fun _ => rfl) ?_; intro v18; refine WS.oc (j := 0) rfl (fun hv18 => ?_)
 refine WS.buildI1 sl35 zv3 rfl (fun _ => rfl) ?_; intro v19; refine WS.oc (j := 0) rfl (fun hv19 => ?_)
 refine Wk 0 (Db plc77 zv77) ?_
 refine WS.buildSliceK sl26 zv77 (rows := [cAct.cells ⟨tOpen, 0, 0, nil0, nil0, ⟨v14, [⟨0, 1⟩]⟩, nil0, nil0⟩, cAct.cells ⟨tTurn, 0, -1, ⟨v16, [0]⟩, nil0, ⟨v18, [⟨1, 1⟩]⟩, ⟨v19, [0]⟩, nil0⟩]) rfl rfl (by decide) (by decide) (by simp [cAct]) (fun _ => rfl) ?_; intro v21; refine WS.oc (j := 0) rfl (fun hv21 => ?_)
 refine Wk 0 (Db plc31 zv31) ?_
 refine Wv 0 11 ?_
 exact Wd (Qc (Cr (outR (resc rfl (cell_rvN (j := 11) rfl rfl tk31)) (fun u hu => (fun h2 : RetF w _ (roS fun u => RoomOk u ⟨⟨v1, exR.pls.l⟩, ⟨v4, exR.ths.l⟩, ⟨v8, [⟨tKey, 0, ⟨v6, [⟨0, 1, false⟩]⟩⟩]⟩, ⟨v12, [⟨0, 1, ⟨v10, [⟨1, 1, false⟩]⟩⟩]⟩, ⟨v21, [⟨tOpen, 0, 0, nil0, nil0, ⟨v14, [⟨0, 1⟩]⟩, nil0, nil0⟩, ⟨tTurn, 0, -1, ⟨v16, [0]⟩, nil0, ⟨v18, [⟨1, 1⟩]⟩, ⟨v19, [0]⟩, nil0⟩]⟩, nil0, 1, nil0⟩) _ u => (⟨⟨⟨v1, exR.pls.l⟩, ⟨v4, exR.ths.l⟩, ⟨v8, [⟨tKey, 0, ⟨v6, [⟨0, 1, false⟩]⟩⟩]⟩, ⟨v12, [⟨0, 1, ⟨v10, [⟨1, 1, false⟩]⟩⟩]⟩, ⟨v21, [⟨tOpen, 0, 0, nil0, nil0, ⟨v14, [⟨0, 1⟩]⟩, nil0, nil0⟩, ⟨tTurn, 0, -1, ⟨v16, [0]⟩, nil0, ⟨v18, [⟨1, 1⟩]⟩, ⟨v19, [0]⟩, nil0⟩]⟩, nil0, 1, nil0⟩, ⟨rfl, u, h2.now⟩, h2⟩ : RetRm w exR _ u)) (retR (fun S u h => ⟨⟨Star.osl (j := 10) rfl h, fun _ _ => trivial⟩, ⟨Star.osl (j := 9) rfl h, fun _ _ => trivial⟩, ⟨Star.osl (j := 7) rfl h, List.forall_mem_cons.2 ⟨⟨Star.osl (j := 8) rfl h, fun _ _ => trivial⟩, fun _ h => absurd h List.not_mem_nil⟩⟩, ⟨Star.osl (j := 5) rfl h, List.forall_mem_cons.2 ⟨⟨Star.osl (j := 6) rfl h, fun _ _ => trivial⟩, fun _ h => absurd h List.not_mem_nil⟩⟩, ⟨Star.osl (j := 0) rfl h, List.forall_mem_cons.2 ⟨⟨SlT.nil _ _, SlT.nil _ _, ⟨Star.osl (j := 4) rfl h, fun _ _ => trivial⟩, SlT.nil _ _, SlT.nil _ _⟩, List.forall_mem_cons.2 ⟨⟨SlI.tree (Star.oints (j := 3) rfl h), SlT.nil _ _, ⟨Star.osl (j := 2) rfl h, fun _ _ => trivial⟩, SlI.tree (Star.oints (j := 1) rfl h), SlT.nil _ _⟩, fun _ h => absurd h List.not_mem_nil⟩⟩⟩, SlT.nil _ _, SlT.nil _ _⟩) u hu)))))
theorem works_c (w : World) (g : Sl ByteArray) (hG : GOk w g) : Calls Tryd.prog 13 #[] w (RetB w (.bool true)) := by
 refine enter Tryd.func13 rfl rfl (Nat.le_of_ble_eq_true rfl) ?_
 refine Nz 1 ?_
 refine Wd (Qc (Nz 0 ?_))
 refine Wc rfl rfl ent42 (fun u hu => Example_c u) (fun _ => rfl) ?_; rintro c ⟨hce, uc, hcok⟩
 have hA := alike hce
 have hnc := near_e hce exNear
 have o1 := Sl.one hcok.pls
 have o2 := Sl.one hcok.ths
 have o3 := Sl.one hcok.prs
 have o4 := Sl.one hcok.wys
 have o5 := Sl.one hcok.acs
 have o6 := Sl.one hcok.aus
 have o7 := Sl.one hcok.gl
 refine Wl 0 zv31 (fun _ => rfl) (fun _ => rfl) fun b1 hb1 => ?_
 refine Wv 0 0 ?_
 refine Wd (Qc (Nz 0 ?_))
 refine Wk 0 (Bb 0) ?_
 refine Wc rfl rfl ent15 (fun u hu => (by have q := IBegin_c c u (hu.ro (j := 1) rfl) g (hG.st hu) hnc; rw [hA.BeginV, exBegin] at q; exact q)) (fun _ => rfl) ?_; rintro y ⟨hyx, uy, hyok⟩
 obtain ⟨hya, hyb, hyc⟩ := hyok.ones
 refine Wz 3 ?_
 refine Wl 0 zv37 (fun _ => rfl) (fun _ => rfl) fun b2 hb2 => ?_
 refine Wv 1 0 ?_
 refine Wd (Qc (Nz 0 ?_))
 refine Wk 0 (Bb 2) ?_
 refine Wk 0 (Bb 0) ?_
 refine Wk 0 (Db plc52 zv52) ?_
 refine Wc rfl rfl ent26 (fun u hu => (by have q := IStep_c c u (hu.ro (j := 3) rfl) g (hG.st hu) hnc y (hu.ro (j := 1) rfl) ⟨0, 4, 0⟩; rw [hA.StepV, hyx, exStep] at q; exact q)) (fun _ => rfl) ?_; rintro x ⟨hxx, ux, hxok⟩
 obtain ⟨hxa, hxb, hxc⟩ := hxok.ones
 refine Wz 3 ?_
 refine Wl 0 zv37 (fun _ => rfl) (fun _ => rfl) fun b4 hb4 => ?_
 refine Wv 1 0 ?_
 refine Wd (Qc (Nz 0 ?_))
 refine Wk 0 (Bb 4) ?_
 refine Wk 0 (Bb 0) ?_
 refine Wc rfl rfl ent22 (fun u hu => (by have q := ILegal_c c u (hu.ro (j := 5) rfl) g (hG.st hu) hnc x (hu.ro (j := 1) rfl); rw [hA.LegalV, hxx, exLegal] at q; exact q)) (fun _ => rfl) ?_; rintro l ⟨ul, hl⟩
 refine Wz 5 ?_
 refine Wd (Qc (Nz 3 ?_))
 refine Wt 0 rfl rfl (fun hg => Fm) ?_
 refine Wt 0 rfl rfl (fun hg => Fq) ?_
 refine Wk 1 Pa ?_
 refine Wt 0 rfl rfl (fun hg => Fm) ?_
 refine Wt 0 rfl rfl (fun hg => Fq) ?_
 refine Wk 1 Pa ?_
 refine Wt 0 rfl rfl (fun hg => Fm) ?_
 refine Wt 0 rfl rfl (fun hg => Nc (eg_ hg rfl)) ?_
 refine Wt 0 rfl rfl (fun hg => Fq) ?_
 refine Wk 1 Pa ?_
 refine Wt 0 rfl rfl (fun hg => Fm) ?_
 refine Wt 0 rfl rfl (fun hg => det_idxU (s := (⟨l, [(⟨0, 2, 0⟩ : Move), ⟨0, 4, 0⟩]⟩ : Sl Move)) sl45 (eg_ hg rfl) rfl hl rfl (by decide) (by simp)) ?_
 refine Wt 0 rfl rfl (fun hg => Ff) ?_
 refine Wt 0 rfl rfl (fun hg => det_ldRU (C := cMove) (s := (⟨l, [(⟨0, 2, 0⟩ : Move), ⟨0, 4, 0⟩]⟩ : Sl Move)) (i := 0) (jj := 0) 3 1 rfl (eg_ hg rfl) rfl ⟨by decide, by simp⟩ (by decide) rfl tk3) ?_
 refine Wt 0 rfl rfl (fun hg => Fq) ?_
 refine Wk 1 Pa ?_
 exact Wd (Qc (Cr (out1 rfl rfl (retBe (by simp; rfl)))))
end Go.Proofs.YtgbofmnbakfalaaDoor
