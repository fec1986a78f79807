/- Contracts of functions, printed by a program of the prover (gen.py). -/
import Derived.Test.YtgbofmnbakfalaaDoorKn
import Derived.Test.YtgbofmnbakfalaaDoorKo
set_option maxHeartbeats 8000000
namespace Go.Proofs.YtgbofmnbakfalaaDoor
open Go.RowKit Go.Proofs
set_option maxRecDepth 100000
set_option linter.unusedVariables false
set_option linter.unusedSimpArgs false
theorem RoomBack_c (r : Room) (w : World) (hr : RoomOk w r) (g : Sl ByteArray) (hG : GOk w g) (z : Stt) (hz : SttOk w z) (ms : Sl Move) (hk : SlT cMove w ms) :
  Calls Tryd.prog 10 #[.agg #[r.pls.v, r.ths.v, r.prs.v, r.wys.v, r.acs.v, r.aus.v, .int .i64 r.ply, r.gl.v], .agg #[z.ths.v, z.prs.v, z.pls.v], ms.v] w (RetB w (.bool true)) := by
 have lms := hk.le
 have e9 : (ms.cut cMove.k (ms.l.length / 2) ms.l.length).l = ms.l.drop (ms.l.length / 2) := by
    have h9 := List.take_of_length_le (l := ms.l.drop (ms.l.length / 2)) (i := ms.l.length - ms.l.length / 2) (by simp)
    simpa [Sl.cut] using h9
 refine enter Tryd.func10 rfl rfl (Nat.le_of_ble_eq_true rfl) ?_
 refine Nz 0 ?_
 refine Wb 0 rfl rfl (fun _ => rfl) (fun _ => rfl) fun b3 hb3 => ?_
 refine Wb 1 rfl rfl (fun _ => rfl) (fun _ => rfl) fun b4 hb4 => ?_
 refine Wd (Qc (Cs (Nz 0 ?_)))
 refine Wk 0 (Bb 1) ?_
 refine Wk 1 (Cb rfl rfl ent12 (fun u hu => Far_c r u (hr.st hu))) ?_
 refine Wf 0 rfl rfl (fun hg => Bb 0) ?_
 refine Wf 0 rfl rfl (fun hg => Cb rfl (ec_ (eg_ hg rfl) en_) ent21 (fun u hu => Away_c z u (hz.st hu))) ?_
 refine Wk 1 Po ?_
 refine Wf 0 rfl rfl (fun hg => Fm) ?_
 refine Wf 0 rfl rfl (fun hg => Nc (eg_ hg rfl)) ?_
 refine Wf 0 rfl rfl (fun hg => Fg) ?_
 refine Wk 1 Po ?_
 refine Wf 0 rfl rfl (fun hg => Bb 1) ?_
 refine Wf 0 rfl rfl (fun hg => Bb 0) ?_
 refine Wf 0 rfl rfl (fun hg => Cb rfl (ec_ (eg_ hg rfl) (ec_ (eg_ hg rfl) en_)) ent30 (fun u hu => RCheckState_c r u (hr.st hu) (clB_iff.1 (by cases hq : clB (Near r) <;> simp_all)) z (hz.st hu))) ?_
 refine Wf 0 rfl rfl (fun hg => Fr) ?_
 refine Wk 0 Po ?_
 refine Wd (Qc (CS.cond rfl ?_ ?_))<;>intro hc1<;>try simp only [bq] at hc1
 ·
  refine Nz 0 ?_
  refine Wk 1 (Cb rfl rfl ent13 (fun u hu => works_c u g (hG.st hu))) ?_
  exact Wd (Qc (Cr (Qr (out1 rfl rfl retB))))
 ·
  have hn : Near r := clB_iff.1 hc1.1.1.1
  have hsm : z.ths.l.length ≤ 1000000 ∧ z.prs.l.length ≤ 1000000 ∧ z.pls.l.length ≤ 1000000 := by have := hc1.1.1.2; omega
  have hS : stL r z.x = 0 := hc1.2
  obtain ⟨hC, hI⟩ := stL_in.1 hS
  have hR := ready_of hC
  have hlen := hR.lens
  have hply := hR.ply
  have hml : ms.l.length ≤ 40 := by omega
  refine Ck (Qc (Nz 0 ?_))
  refine Wk 0 (Bb 1) ?_
  refine Wc rfl rfl ent14 (fun u hu => Copy_c r u (hr.st hu) hn) (fun _ => rfl) ?_; rintro c ⟨hce, uc, hcok⟩
  have hA := alike hce
  have hnc := near_e hce hn
  have o1 := Sl.one hcok.pls
  have o2 := Sl.one hcok.ths
  have o3 := Sl.one hcok.prs
  have o4 := Sl.one hcok.wys
  have o5 := Sl.one hcok.acs
  have o6 := Sl.one hcok.aus
  have o7 := Sl.one hcok.gl
  refine Wl 0 zv31 (fun _ => rfl) (fun _ => rfl) fun b7 hb7 => ?_
  refine Wv 0 0 ?_
  refine Wd (Qc ?_)
  refine CS.cut (σ := Nat × Stt) [47, 48, 49, 50, 51, 52, 53] (fun s => [(8, .pointer (some ⟨s.1, 0, none⟩)), (9, .int .i64 (SettleV r z.x).1)]) (fun s => [blk s.1 [s.2.ths.v, s.2.prs.v, s.2.pls.v] 37, roS fun u => SttOk u s.2, blk b7 [c.pls.v, c.ths.v, c.prs.v, c.wys.v, c.acs.v, c.aus.v, .int .i64 c.ply, c.gl.v] 31, roS fun u => RoomOk u c, blk b4 [z.ths.v, z.prs.v, z.pls.v] 37, blk b3 [r.pls.v, r.ths.v, r.prs.v, r.wys.v, r.acs.v, r.aus.v, .int .i64 r.ply, r.gl.v] 31]) (fun s => s.2.x = (SettleV r z.x).2 ∧ ∃ u0, SttOk u0 s.2) (fun _ _ => rfl) ?_ ?_
  ·
   refine CS.drawnAll (k := 10) mixed rfl rfl ?_
   refine Ak 0 [] rfl (Bb 0) ?_
   refine Ak 1 [] rfl (Bb 2) ?_
   refine AS.two (i := 2) (j := 7) (by kernel_rfl) rfl rfl (by first | exact fun _ h => h | exact fun _ h => h.sub (by repeat first | exact List.Sublist.refl _ | apply List.Sublist.cons_cons | apply List.Sublist.cons)) rfl rfl ?_ ?_
   ·
    refine Wc rfl rfl ent23 (fun u hu => CopyStateR_c z u (hz.st hu) hsm) (fun _ => rfl) ?_; rintro y ⟨hyx, uy, hyok⟩
    obtain ⟨hya, hyb, hyc⟩ := hyok.ones
    refine Wd (Qa ?_)
    refine AS.two (i := 3) (j := 7) (by kernel_rfl) rfl rfl (by first | exact fun _ h => h | exact fun _ h => h.sub (by repeat first | exact List.Sublist.refl _ | apply List.Sublist.cons_cons | apply List.Sublist.cons)) rfl rfl ?_ ?_
    ·
     refine Wc rfl rfl ent28 (fun u hu => (by have q := ISettle_c c u (hu.ro (j := 2) rfl) g (hG.st hu) hnc y (hu.ro (j := 0) rfl); rw [hA.SettleV, hyx] at q; exact q)) (fun _ => rfl) ?_; rintro x ⟨hxx, ux, hxok⟩
     obtain ⟨hxa, hxb, hxc⟩ := hxok.ones
     refine Wd (Qa ?_)
     refine Ar [4,5,6] ?_
     refine Ao 7 rfl ?_
     refine Wl 0 zv37 (fun _ => rfl) (fun _ => rfl) fun b8 hb8 => ?_
     refine Wd (Qa ?_)
     refine Ao 8 rfl ?_
     refine Wv 0 0 ?_
     refine Wd (Qa ?_)
     refine Ar [9] ?_
     refine Ae ?_
     refine QS.sel [0, 0, 1, 1, 1, 1] rfl ?_
     exact QS.head ((b8, x)) rfl rfl ⟨hxx, ux, hxok⟩
    ·
     refine Wl 0 zv37 (fun _ => rfl) (fun _ => rfl) fun b8 hb8 => ?_
     refine Wd (Qa ?_)
     refine Ao 3 rfl ?_
     refine Wc rfl rfl ent28 (fun u hu => (by have q := ISettle_c c u (hu.ro (j := 3) rfl) g (hG.st hu) hnc y (hu.ro (j := 1) rfl); rw [hA.SettleV, hyx] at q; exact q)) (fun _ => rfl) ?_; rintro x ⟨hxx, ux, hxok⟩
     obtain ⟨hxa, hxb, hxc⟩ := hxok.ones
     refine Wd (Qa ?_)
     refine Ar [4,5,6] ?_
     refine Ao 8 rfl ?_
     refine Wv 0 1 ?_
     refine Wd (Qa ?_)
     refine Ar [9] ?_
     refine Ae ?_
     refine QS.sel [1, 0, 1, 1, 1, 1] rfl ?_
     exact QS.head ((b8, x)) rfl rfl ⟨hxx, ux, hxok⟩
   ·
    refine Wl 0 zv37 (fun _ => rfl) (fun _ => rfl) fun b8 hb8 => ?_
    refine Wd (Qa ?_)
    refine Ao 2 rfl ?_
    refine Wc rfl rfl ent23 (fun u hu => CopyStateR_c z u (hz.st hu) hsm) (fun _ => rfl) ?_; rintro y ⟨hyx, uy, hyok⟩
    obtain ⟨hya, hyb, hyc⟩ := hyok.ones
    refine Wd (Qa ?_)
    refine Ao 3 rfl ?_
    refine Wc rfl rfl ent28 (fun u hu => (by have q := ISettle_c c u (hu.ro (j := 3) rfl) g (hG.st hu) hnc y (hu.ro (j := 0) rfl); rw [hA.SettleV, hyx] at q; exact q)) (fun _ => rfl) ?_; rintro x ⟨hxx, ux, hxok⟩
    obtain ⟨hxa, hxb, hxc⟩ := hxok.ones
    refine Wd (Qa ?_)
    refine Ar [4,5,6] ?_
    refine Ao 8 rfl ?_
    refine Wv 0 2 ?_
    refine Wd (Qa ?_)
    refine Ar [9] ?_
    refine Ae ?_
    refine QS.sel [2, 0, 1, 1, 1, 1] rfl ?_
    exact QS.head ((b8, x)) rfl rfl ⟨hxx, ux, hxok⟩
  ·
   intro s t hs
   obtain ⟨b8, x⟩ := s
   obtain ⟨hxx, ux, hxok⟩ := hs
   obtain ⟨hxa, hxb, hxc⟩ := hxok.ones
   refine Cs (Nz 2 ?_)
   refine Wd (Qc (CS.cond rfl ?_ ?_))<;>intro hc2<;>try simp only [bq] at hc2
   ·
    refine Nz 0 ?_
    refine Wk 1 (Cb rfl rfl ent13 (fun u hu => works_c u g (hG.st hu))) ?_
    exact Wd (Qc (Cr (Qr (out1 rfl rfl retB))))
   ·
    obtain ⟨Y, hY⟩ : ∃ Y, Y = (SettleV r z.x).2 := ⟨_, rfl⟩
    have hSt : settleV r z.x = some Y := by
       have h := hc2
       rw [hY]
       unfold SettleV at h ⊢
       rw [if_pos hS] at h ⊢
       cases hq : settleV r z.x with
       | none => rw [hq] at h; cases h
       | some y => rfl
    rw [← hY] at hxx
    have hI2 := settleV_stay hR hI hSt
    have hau := (settleV_done hSt).1
    have hSY : stL r Y = 0 := stL_in.2 ⟨hC, hI2⟩
    have hlll : (legalL r Y).length ≤ 384 := by
       have := List.length_filter_le (legalB r Y) (candL r.ply.toNat)
       rw [candL_len] at this
       unfold legalL
       omega
    have hLg : LegalV r Y = (0, legalL r Y) := if_pos hSY
    have hsmx : x.ths.l.length ≤ 1000000 ∧ x.prs.l.length ≤ 1000000 ∧ x.pls.l.length ≤ 1000000 := by
       have := hI2.small hR
       rw [← hxx] at this
       exact this
    refine Ck (Qc (Cs ?_))
    refine CS.drawnAll (k := 9) mixed rfl rfl ?_
    refine Ak 0 [] rfl (Bb 2) ?_
    refine Ak 1 [] rfl (Bb 0) ?_
    refine Ao 2 rfl ?_
    refine Wc rfl rfl ent23 (fun u hu => CopyStateR_c x u (hu.ro (j := 1) rfl) hsmx) (fun _ => rfl) ?_; rintro y2 ⟨hy2x, uy2, hy2ok⟩
    obtain ⟨hy2a, hy2b, hy2c⟩ := hy2ok.ones
    refine Wd (Qa ?_)
    refine Ao 3 rfl ?_
    refine Wc rfl rfl ent22 (fun u hu => (by have q := ILegal_c c u (hu.ro (j := 4) rfl) g (hG.st hu) hnc y2 (hu.ro (j := 0) rfl); rw [hA.LegalV, hy2x, hxx, hLg] at q; exact q)) (fun _ => rfl) ?_; rintro l ⟨ul, hl⟩
    refine Wd (Qa ?_)
    refine Ar [4,5,6,7,8] ?_
    refine Ae ?_
    refine Qc (Cs (Nz 2 ?_))
    refine Wd (Qc (CS.cond rfl ?_ ?_))<;>intro hc3<;>try simp only [bq] at hc3
    ·
     exact absurd (by trivial) hc3
    ·
     refine Ck (Qc (Cs (Nz 1 ?_)))
     refine Wd (Qc (Ce ?_))
     refine CS.sel [2, 2, 0, 1, 1, 1, 1] rfl ?_
     refine CS.loopM (σ := Int) [6, 13, 14, 15, 16, 17, 66, 67, 68, 69, 70, 71, 72, 73, 74, 75, 76, 77, 78, 79, 80, 81, 82, 83, 84, 85, 86, 87, 88, 89, 90, 91, 92, 93, 94, 95, 96, 97, 98, 99, 100, 101, 102, 103, 104, 105, 106, 107, 108, 109, 110, 111, 112, 113, 114] (fun s => [(12, .int .i64 s)]) (fun s => [blk b8 [x.ths.v, x.prs.v, x.pls.v] 37, roS fun u => SttOk u x, roT cMove ⟨l, legalL r Y⟩, blk b7 [c.pls.v, c.ths.v, c.prs.v, c.wys.v, c.acs.v, c.aus.v, .int .i64 c.ply, c.gl.v] 31, roS fun u => RoomOk u c, blk b4 [z.ths.v, z.prs.v, z.pls.v] 37, blk b3 [r.pls.v, r.ths.v, r.prs.v, r.wys.v, r.acs.v, r.aus.v, .int .i64 r.ply, r.gl.v] 31]) (fun s => 0 ≤ s ∧ s ≤ (legalL r Y).length) (fun s => ((legalL r Y).length - s).toNat) 0 (fun _ _ => rfl) rfl rfl ⟨by omega, by omega⟩ ?_
     intro i t hs
     obtain ⟨hs1, hs2⟩ := hs
     refine Cs (Nz 2 ?_)
     refine Wk 1 (Nc (s := ⟨l, legalL r Y⟩)) ?_
     refine Wd (Qc (CS.cond rfl ?_ ?_))<;>intro hc4<;>try simp only [bq] at hc4
     ·
      have hLm : legalB r Y (nth (legalL r Y) i) = true := by have := List.mem_filter.1 (nth_mem (xs := legalL r Y) hs1 (by omega)); exact this.2
      refine Ck (Qc (Cs (Ce ?_)))
      refine CS.cut (σ := Nat × Nat) [72, 73, 74, 75, 76, 77, 78, 79] (fun s => [(13, .pointer (some ⟨s.1, 0, none⟩)), (14, .pointer (some ⟨s.2, 0, none⟩))]) (fun s => [blk s.1 (cMove.cells (nth (legalL r Y) i)) 52, blk s.2 (cMove.cells (nth (legalL r Y) i)) 52, blk b8 [x.ths.v, x.prs.v, x.pls.v] 37, roS fun u => SttOk u x, roT cMove ⟨l, legalL r Y⟩, blk b7 [c.pls.v, c.ths.v, c.prs.v, c.wys.v, c.acs.v, c.aus.v, .int .i64 c.ply, c.gl.v] 31, roS fun u => RoomOk u c, blk b4 [z.ths.v, z.prs.v, z.pls.v] 37, blk b3 [r.pls.v, r.ths.v, r.prs.v, r.wys.v, r.acs.v, r.aus.v, .int .i64 r.ply, r.gl.v] 31]) (fun s => True) (fun _ _ => rfl) ?_ ?_
      ·
       refine CS.drawnAll (k := 12) mixed rfl rfl ?_
       refine Ar [0,1] ?_
       refine Ak 2 [] rfl (Xc (s := ⟨l, legalL r Y⟩)) ?_
       refine Ak 3 [4,5] rfl (det_ldRN (jj := 2) (s := ⟨l, legalL r Y⟩) rfl rfl rfl ⟨(by omega), (by omega)⟩ rfl tk52) ?_
       refine Ak 6 [] rfl (Xc (s := ⟨l, legalL r Y⟩)) ?_
       refine Ak 7 [] rfl (det_ldRN (jj := 2) (s := ⟨l, legalL r Y⟩) rfl rfl rfl ⟨(by omega), (by omega)⟩ rfl tk52) ?_
       refine AS.two (i := 8) (j := 9) (by kernel_rfl) rfl rfl (by first | exact fun _ h => h | exact fun _ h => h.sub (by repeat first | exact List.Sublist.refl _ | apply List.Sublist.cons_cons | apply List.Sublist.cons)) rfl rfl ?_ ?_
       ·
        refine Wl 0 zv52 (fun _ => rfl) (fun _ => rfl) fun b13 hb13 => ?_
        refine Wd (Qa ?_)
        refine Ao 9 rfl ?_
        refine Wl 0 zv52 (fun _ => rfl) (fun _ => rfl) fun b14 hb14 => ?_
        refine Wd (Qa ?_)
        refine Ao 10 rfl ?_
        refine Wv 0 1 ?_
        refine Wd (Qa ?_)
        refine Ao 11 rfl ?_
        refine Wv 0 0 ?_
        refine Wd (Qa ?_)
        refine Ae ?_
        refine QS.sel [1, 0, 0, 0, 0, 0, 0, 0, 0] rfl ?_
        exact QS.head ((b13, b14)) rfl rfl trivial
       ·
        refine Wl 0 zv52 (fun _ => rfl) (fun _ => rfl) fun b14 hb14 => ?_
        refine Wd (Qa ?_)
        refine Ao 8 rfl ?_
        refine Wl 0 zv52 (fun _ => rfl) (fun _ => rfl) fun b13 hb13 => ?_
        refine Wd (Qa ?_)
        refine Ao 10 rfl ?_
        refine Wv 0 0 ?_
        refine Wd (Qa ?_)
        refine Ao 11 rfl ?_
        refine Wv 0 1 ?_
        refine Wd (Qa ?_)
        refine Ae ?_
        exact QS.head ((b13, b14)) rfl rfl trivial
      ·
       intro s t hs
       obtain ⟨b13, b14⟩ := s
       refine Cs (Nz 1 ?_)
       refine Wk 1 (Ba 0) ?_
       refine Wd (Qc (CS.cond rfl ?_ ?_))<;>intro hc5<;>try simp only [bq] at hc5
       ·
        have hbk : backM (nth (legalL r Y) i) = ⟨(nth (legalL r Y) i).p, 3, (nth (legalL r Y) i).n⟩ := if_pos hc5
        refine Ny 1 ?_
        refine Ws 0 1 ?_
        refine Wd (Qc (Cs (Nz 1 ?_)))
        refine Wk 2 (Ba 0) ?_
        refine Wt 0 rfl rfl (fun hg => Ff) ?_
        refine Wt 0 rfl rfl (fun hg => Ba 0) ?_
        refine Wt 0 rfl rfl (fun hg => Fr) ?_
        refine Wk 0 Pa ?_
        refine Wd (Qc (CS.cond rfl ?_ ?_))<;>intro hc6<;>try simp only [bq] at hc6
        ·
         refine Cv (Qe (Qx (Qc (Ny 1 ?_))))
         refine Wk 1 Za ?_
         refine Wd ?_
         refine QS.sel [2, 2, 2, 2, 2, 2, 2] rfl ?_
         exact QS.head (i + 1) rfl rfl ⟨⟨by omega, by omega⟩, by omega⟩
        ·
         have hkk : (nth (legalL r Y) i).k = 1 ∨ (nth (legalL r Y) i).k = 2 := by omega
         have hRn := there_back hC hI2 hau hLm hkk
         refine Ck (Qc ?_)
         refine CS.cut (σ := Nat × Stt) [92, 93, 94, 95, 96, 97, 98, 99, 100, 101, 102] (fun s => [(15, .pointer (some ⟨s.1, 0, none⟩)), (16, .int .i64 0), (17, .int .i64 0)]) (fun s => [blk s.1 [s.2.ths.v, s.2.prs.v, s.2.pls.v] 37, roS fun u => SttOk u s.2, blk b8 [x.ths.v, x.prs.v, x.pls.v] 37, roS fun u => SttOk u x, roT cMove ⟨l, legalL r Y⟩, blk b7 [c.pls.v, c.ths.v, c.prs.v, c.wys.v, c.acs.v, c.aus.v, .int .i64 c.ply, c.gl.v] 31, roS fun u => RoomOk u c, blk b4 [z.ths.v, z.prs.v, z.pls.v] 37, blk b3 [r.pls.v, r.ths.v, r.prs.v, r.wys.v, r.acs.v, r.aus.v, .int .i64 r.ply, r.gl.v] 31]) (fun s => s.2.x = Y ∧ ∃ u0, SttOk u0 s.2) (fun _ _ => rfl) ?_ ?_
         ·
          refine CS.drawnAll (k := 15) mixed rfl rfl ?_
          refine Ak 0 [] rfl (Bb 5) ?_
          refine Ak 1 [] rfl (Bb 2) ?_
          refine Ak 3 [] rfl (Bb 0) ?_
          refine Ak 4 [] rfl (Bb 1) ?_
          refine AS.three (i := 2) (j := 5) (k := 11) (by kernel_rfl) rfl rfl rfl (by first | exact fun _ h => h | exact fun _ h => h.sub (by repeat first | exact List.Sublist.refl _ | apply List.Sublist.cons_cons | apply List.Sublist.cons)) rfl rfl rfl ?_ ?_ ?_
          ·
           refine Wc rfl rfl ent23 (fun u hu => CopyStateR_c x u (hu.ro (j := 3) rfl) hsmx) (fun _ => rfl) ?_; rintro y6 ⟨hy6x, uy6, hy6ok⟩
           obtain ⟨hy6a, hy6b, hy6c⟩ := hy6ok.ones
           refine Wd (Qa ?_)
           refine AS.two (i := 5) (j := 11) (by kernel_rfl) rfl rfl (by first | exact fun _ h => h | exact fun _ h => h.sub (by repeat first | exact List.Sublist.refl _ | apply List.Sublist.cons_cons | apply List.Sublist.cons)) rfl rfl ?_ ?_
           ·
            refine WS.buildSliceK sl45 zv52 (rows := [cMove.cells (nth (legalL r Y) i), cMove.cells (backM (nth (legalL r Y) i))]) (by rw [hbk]; rfl) rfl (by decide) (by decide) (by simp [cMove]) (fun _ => rfl) ?_; intro v98
            refine Wd (Qa ?_)
            refine AS.two (i := 6) (j := 11) (by kernel_rfl) rfl rfl (by first | exact fun _ h => h | exact fun _ h => h.sub (by repeat first | exact List.Sublist.refl _ | apply List.Sublist.cons_cons | apply List.Sublist.cons)) rfl rfl ?_ ?_
            ·
             refine Wc rfl rfl ent36 (fun u hu => (by have q := IRun_c c u (hu.ro (j := 8) rfl) g (hG.st hu) hnc y6 (hu.ro (j := 1) rfl) ⟨v98, [(nth (legalL r Y) i), backM (nth (legalL r Y) i)]⟩ ⟨osl_SlC hu (j := 0) rfl, fun _ _ ↦ trivial⟩; rw [hA.RunV, hy6x, hxx, hRn] at q; exact q)) (fun _ => rfl) ?_; rintro x6 ⟨hx6x, ux6, hx6ok⟩
             obtain ⟨hx6a, hx6b, hx6c⟩ := hx6ok.ones
             refine Wd (Qa ?_)
             refine Ar [7,8,9,10] ?_
             refine Ao 11 rfl ?_
             refine Wl 0 zv37 (fun _ => rfl) (fun _ => rfl) fun b15 hb15 => ?_
             refine Wd (Qa ?_)
             refine Ao 12 rfl ?_
             refine Wv 0 0 ?_
             refine Wd (Qa ?_)
             refine Ar [13,14] ?_
             refine Ae ?_
             refine QS.sel [0, 0, 4, 4, 4, 4, 4, 4, 4] rfl ?_
             exact QS.head ((b15, x6)) rfl rfl ⟨hx6x, ux6, hx6ok⟩
            ·
             refine Wl 0 zv37 (fun _ => rfl) (fun _ => rfl) fun b15 hb15 => ?_
             refine Wd (Qa ?_)
             refine Ao 6 rfl ?_
             refine Wc rfl rfl ent36 (fun u hu => (by have q := IRun_c c u (hu.ro (j := 9) rfl) g (hG.st hu) hnc y6 (hu.ro (j := 2) rfl) ⟨v98, [(nth (legalL r Y) i), backM (nth (legalL r Y) i)]⟩ ⟨osl_SlC hu (j := 1) rfl, fun _ _ ↦ trivial⟩; rw [hA.RunV, hy6x, hxx, hRn] at q; exact q)) (fun _ => rfl) ?_; rintro x6 ⟨hx6x, ux6, hx6ok⟩
             obtain ⟨hx6a, hx6b, hx6c⟩ := hx6ok.ones
             refine Wd (Qa ?_)
             refine Ar [7,8,9,10] ?_
             refine Ao 12 rfl ?_
             refine Wv 0 1 ?_
             refine Wd (Qa ?_)
             refine Ar [13,14] ?_
             refine Ae ?_
             refine QS.sel [1, 0, 4, 4, 4, 4, 4, 4, 4] rfl ?_
             exact QS.head ((b15, x6)) rfl rfl ⟨hx6x, ux6, hx6ok⟩
           ·
            refine Wl 0 zv37 (fun _ => rfl) (fun _ => rfl) fun b15 hb15 => ?_
            refine Wd (Qa ?_)
            refine Ao 5 rfl ?_
            refine WS.buildSliceK sl45 zv52 (rows := [cMove.cells (nth (legalL r Y) i), cMove.cells (backM (nth (legalL r Y) i))]) (by rw [hbk]; rfl) rfl (by decide) (by decide) (by simp [cMove]) (fun _ => rfl) ?_; intro v98
            refine Wd (Qa ?_)
            refine Ao 6 rfl ?_
            refine Wc rfl rfl ent36 (fun u hu => (by have q := IRun_c c u (hu.ro (j := 9) rfl) g (hG.st hu) hnc y6 (hu.ro (j := 2) rfl) ⟨v98, [(nth (legalL r Y) i), backM (nth (legalL r Y) i)]⟩ ⟨osl_SlC hu (j := 0) rfl, fun _ _ ↦ trivial⟩; rw [hA.RunV, hy6x, hxx, hRn] at q; exact q)) (fun _ => rfl) ?_; rintro x6 ⟨hx6x, ux6, hx6ok⟩
            obtain ⟨hx6a, hx6b, hx6c⟩ := hx6ok.ones
            refine Wd (Qa ?_)
            refine Ar [7,8,9,10] ?_
            refine Ao 12 rfl ?_
            refine Wv 0 2 ?_
            refine Wd (Qa ?_)
            refine Ar [13,14] ?_
            refine Ae ?_
            refine QS.sel [2, 0, 4, 4, 4, 4, 4, 4, 4] rfl ?_
            exact QS.head ((b15, x6)) rfl rfl ⟨hx6x, ux6, hx6ok⟩
          ·
           refine WS.buildSliceK sl45 zv52 (rows := [cMove.cells (nth (legalL r Y) i), cMove.cells (backM (nth (legalL r Y) i))]) (by rw [hbk]; rfl) rfl (by decide) (by decide) (by simp [cMove]) (fun _ => rfl) ?_; intro v98
           refine Wd (Qa ?_)
           refine AS.two (i := 2) (j := 11) (by kernel_rfl) rfl rfl (by first | exact fun _ h => h | exact fun _ h => h.sub (by repeat first | exact List.Sublist.refl _ | apply List.Sublist.cons_cons | apply List.Sublist.cons)) rfl rfl ?_ ?_
           ·
            refine Wc rfl rfl ent23 (fun u hu => CopyStateR_c x u (hu.ro (j := 4) rfl) hsmx) (fun _ => rfl) ?_; rintro y6 ⟨hy6x, uy6, hy6ok⟩
            obtain ⟨hy6a, hy6b, hy6c⟩ := hy6ok.ones
            refine Wd (Qa ?_)
            refine AS.two (i := 6) (j := 11) (by kernel_rfl) rfl rfl (by first | exact fun _ h => h | exact fun _ h => h.sub (by repeat first | exact List.Sublist.refl _ | apply List.Sublist.cons_cons | apply List.Sublist.cons)) rfl rfl ?_ ?_
            ·
             refine Wc rfl rfl ent36 (fun u hu => (by have q := IRun_c c u (hu.ro (j := 8) rfl) g (hG.st hu) hnc y6 (hu.ro (j := 0) rfl) ⟨v98, [(nth (legalL r Y) i), backM (nth (legalL r Y) i)]⟩ ⟨osl_SlC hu (j := 1) rfl, fun _ _ ↦ trivial⟩; rw [hA.RunV, hy6x, hxx, hRn] at q; exact q)) (fun _ => rfl) ?_; rintro x6 ⟨hx6x, ux6, hx6ok⟩
             obtain ⟨hx6a, hx6b, hx6c⟩ := hx6ok.ones
             refine Wd (Qa ?_)
             refine Ar [7,8,9,10] ?_
             refine Ao 11 rfl ?_
             refine Wl 0 zv37 (fun _ => rfl) (fun _ => rfl) fun b15 hb15 => ?_
             refine Wd (Qa ?_)
             refine Ao 12 rfl ?_
             refine Wv 0 0 ?_
             refine Wd (Qa ?_)
             refine Ar [13,14] ?_
             refine Ae ?_
             refine QS.sel [0, 0, 4, 4, 4, 4, 4, 4, 4] rfl ?_
             exact QS.head ((b15, x6)) rfl rfl ⟨hx6x, ux6, hx6ok⟩
            ·
             refine Wl 0 zv37 (fun _ => rfl) (fun _ => rfl) fun b15 hb15 => ?_
             refine Wd (Qa ?_)
             refine Ao 6 rfl ?_
             refine Wc rfl rfl ent36 (fun u hu => (by have q := IRun_c c u (hu.ro (j := 9) rfl) g (hG.st hu) hnc y6 (hu.ro (j := 1) rfl) ⟨v98, [(nth (legalL r Y) i), backM (nth (legalL r Y) i)]⟩ ⟨osl_SlC hu (j := 2) rfl, fun _ _ ↦ trivial⟩; rw [hA.RunV, hy6x, hxx, hRn] at q; exact q)) (fun _ => rfl) ?_; rintro x6 ⟨hx6x, ux6, hx6ok⟩
             obtain ⟨hx6a, hx6b, hx6c⟩ := hx6ok.ones
             refine Wd (Qa ?_)
             refine Ar [7,8,9,10] ?_
             refine Ao 12 rfl ?_
             refine Wv 0 1 ?_
             refine Wd (Qa ?_)
             refine Ar [13,14] ?_
             refine Ae ?_
             refine QS.sel [1, 0, 4, 4, 4, 4, 4, 4, 4] rfl ?_
             exact QS.head ((b15, x6)) rfl rfl ⟨hx6x, ux6, hx6ok⟩
           ·
            refine Wl 0 zv37 (fun _ => rfl) (fun _ => rfl) fun b15 hb15 => ?_
            refine Wd (Qa ?_)
            refine Ao 2 rfl ?_
            refine Wc rfl rfl ent23 (fun u hu => CopyStateR_c x u (hu.ro (j := 5) rfl) hsmx) (fun _ => rfl) ?_; rintro y6 ⟨hy6x, uy6, hy6ok⟩
            obtain ⟨hy6a, hy6b, hy6c⟩ := hy6ok.ones
            refine Wd (Qa ?_)
            refine Ao 6 rfl ?_
            refine Wc rfl rfl ent36 (fun u hu => (by have q := IRun_c c u (hu.ro (j := 9) rfl) g (hG.st hu) hnc y6 (hu.ro (j := 0) rfl) ⟨v98, [(nth (legalL r Y) i), backM (nth (legalL r Y) i)]⟩ ⟨osl_SlC hu (j := 2) rfl, fun _ _ ↦ trivial⟩; rw [hA.RunV, hy6x, hxx, hRn] at q; exact q)) (fun _ => rfl) ?_; rintro x6 ⟨hx6x, ux6, hx6ok⟩
            obtain ⟨hx6a, hx6b, hx6c⟩ := hx6ok.ones
            refine Wd (Qa ?_)
            refine Ar [7,8,9,10] ?_
            refine Ao 12 rfl ?_
            refine Wv 0 2 ?_
            refine Wd (Qa ?_)
            refine Ar [13,14] ?_
            refine Ae ?_
            refine QS.sel [2, 0, 4, 4, 4, 4, 4, 4, 4] rfl ?_
            exact QS.head ((b15, x6)) rfl rfl ⟨hx6x, ux6, hx6ok⟩
          ·
           refine Wl 0 zv37 (fun _ => rfl) (fun _ => rfl) fun b15 hb15 => ?_
           refine Wd (Qa ?_)
           refine AS.two (i := 2) (j := 5) (by kernel_rfl) rfl rfl (by first | exact fun _ h => h | exact fun _ h => h.sub (by repeat first | exact List.Sublist.refl _ | apply List.Sublist.cons_cons | apply List.Sublist.cons)) rfl rfl ?_ ?_
           ·
            refine Wc rfl rfl ent23 (fun u hu => CopyStateR_c x u (hu.ro (j := 4) rfl) hsmx) (fun _ => rfl) ?_; rintro y6 ⟨hy6x, uy6, hy6ok⟩
            obtain ⟨hy6a, hy6b, hy6c⟩ := hy6ok.ones
            refine Wd (Qa ?_)
            refine Ao 5 rfl ?_
            refine WS.buildSliceK sl45 zv52 (rows := [cMove.cells (nth (legalL r Y) i), cMove.cells (backM (nth (legalL r Y) i))]) (by rw [hbk]; rfl) rfl (by decide) (by decide) (by simp [cMove]) (fun _ => rfl) ?_; intro v98
            refine Wd (Qa ?_)
            refine Ao 6 rfl ?_
            refine Wc rfl rfl ent36 (fun u hu => (by have q := IRun_c c u (hu.ro (j := 9) rfl) g (hG.st hu) hnc y6 (hu.ro (j := 1) rfl) ⟨v98, [(nth (legalL r Y) i), backM (nth (legalL r Y) i)]⟩ ⟨osl_SlC hu (j := 0) rfl, fun _ _ ↦ trivial⟩; rw [hA.RunV, hy6x, hxx, hRn] at q; exact q)) (fun _ => rfl) ?_; rintro x6 ⟨hx6x, ux6, hx6ok⟩
            obtain ⟨hx6a, hx6b, hx6c⟩ := hx6ok.ones
            refine Wd (Qa ?_)
            refine Ar [7,8,9,10] ?_
            refine Ao 12 rfl ?_
            refine Wv 0 3 ?_
            refine Wd (Qa ?_)
            refine Ar [13,14] ?_
            refine Ae ?_
            refine QS.sel [3, 0, 4, 4, 4, 4, 4, 4, 4] rfl ?_
            exact QS.head ((b15, x6)) rfl rfl ⟨hx6x, ux6, hx6ok⟩
           ·
            refine WS.buildSliceK sl45 zv52 (rows := [cMove.cells (nth (legalL r Y) i), cMove.cells (backM (nth (legalL r Y) i))]) (by rw [hbk]; rfl) rfl (by decide) (by decide) (by simp [cMove]) (fun _ => rfl) ?_; intro v98
            refine Wd (Qa ?_)
            refine Ao 2 rfl ?_
            refine Wc rfl rfl ent23 (fun u hu => CopyStateR_c x u (hu.ro (j := 5) rfl) hsmx) (fun _ => rfl) ?_; rintro y6 ⟨hy6x, uy6, hy6ok⟩
            obtain ⟨hy6a, hy6b, hy6c⟩ := hy6ok.ones
            refine Wd (Qa ?_)
            refine Ao 6 rfl ?_
            refine Wc rfl rfl ent36 (fun u hu => (by have q := IRun_c c u (hu.ro (j := 9) rfl) g (hG.st hu) hnc y6 (hu.ro (j := 0) rfl) ⟨v98, [(nth (legalL r Y) i), backM (nth (legalL r Y) i)]⟩ ⟨osl_SlC hu (j := 1) rfl, fun _ _ ↦ trivial⟩; rw [hA.RunV, hy6x, hxx, hRn] at q; exact q)) (fun _ => rfl) ?_; rintro x6 ⟨hx6x, ux6, hx6ok⟩
            obtain ⟨hx6a, hx6b, hx6c⟩ := hx6ok.ones
            refine Wd (Qa ?_)
            refine Ar [7,8,9,10] ?_
            refine Ao 12 rfl ?_
            refine Wv 0 3 ?_
            refine Wd (Qa ?_)
            refine Ar [13,14] ?_
            refine Ae ?_
            refine QS.sel [3, 0, 4, 4, 4, 4, 4, 4, 4] rfl ?_
            exact QS.head ((b15, x6)) rfl rfl ⟨hx6x, ux6, hx6ok⟩
         ·
          intro s t hs
          obtain ⟨b15, x6⟩ := s
          obtain ⟨hx6x, ux6, hx6ok⟩ := hs
          obtain ⟨hx6a, hx6b, hx6c⟩ := hx6ok.ones
          refine Nz 2 ?_
          refine Wk 0 (det_move (v := .bool false) rfl) ?_
          refine Wf 0 rfl rfl (fun hg => Fm) ?_
          refine Wf 0 rfl rfl (fun hg => Fr) ?_
          refine Wk 0 Po ?_
          refine Wk 0 (det_move (v := .bool false) rfl) ?_
          refine Wf 0 rfl rfl (fun hg => Bb 0) ?_
          refine Wf 0 rfl rfl (fun hg => Bb 2) ?_
          refine Wf 0 rfl rfl (fun hg => Cb rfl (ec_ (eg_ hg rfl) (ec_ (eg_ hg rfl) en_)) ent19 (fun u hu => SameT_c x6 x u (hu.ro (j := 1) rfl) (hu.ro (j := 3) rfl) (hx6x.trans hxx.symm))) ?_
          refine Wf 0 rfl rfl (fun hg => Fn) ?_
          refine Wk 0 Po ?_
          refine Wd (Qc (CS.cond rfl ?_ ?_))<;>intro hc7<;>try simp only [bq] at hc7
          ·
           exact absurd hc7 (by simp)
          ·
           refine Ck (Qb (Qc (Ny 1 ?_)))
           refine Wk 1 Za ?_
           refine Wd ?_
           refine QS.sel [2, 2, 2, 2, 2, 2, 2] rfl ?_
           exact QS.head (i + 1) rfl rfl ⟨⟨by omega, by omega⟩, by omega⟩
       ·
        have hbk : backM (nth (legalL r Y) i) = (nth (legalL r Y) i) := if_neg hc5
        refine Ck (Qc (Cs (Nz 1 ?_)))
        refine Wk 2 (Ba 0) ?_
        refine Wt 0 rfl rfl (fun hg => Ff) ?_
        refine Wt 0 rfl rfl (fun hg => Ba 0) ?_
        refine Wt 0 rfl rfl (fun hg => Fr) ?_
        refine Wk 0 Pa ?_
        refine Wd (Qc (CS.cond rfl ?_ ?_))<;>intro hc6<;>try simp only [bq] at hc6
        ·
         refine Cv (Qe (Qx (Qc (Ny 1 ?_))))
         refine Wk 1 Za ?_
         refine Wd ?_
         refine QS.sel [2, 2, 2, 2, 2, 2, 2] rfl ?_
         exact QS.head (i + 1) rfl rfl ⟨⟨by omega, by omega⟩, by omega⟩
        ·
         have hkk : (nth (legalL r Y) i).k = 1 ∨ (nth (legalL r Y) i).k = 2 := by omega
         have hRn := there_back hC hI2 hau hLm hkk
         refine Ck (Qc (Cs ?_))
         refine CS.drawnAll (k := 15) mixed rfl rfl ?_
         refine Ak 0 [] rfl (Bb 5) ?_
         refine Ak 1 [] rfl (Bb 2) ?_
         refine Ak 3 [] rfl (Bb 0) ?_
         refine Ak 4 [] rfl (Bb 1) ?_
         refine AS.three (i := 2) (j := 5) (k := 11) (by kernel_rfl) rfl rfl rfl (by first | exact fun _ h => h | exact fun _ h => h.sub (by repeat first | exact List.Sublist.refl _ | apply List.Sublist.cons_cons | apply List.Sublist.cons)) rfl rfl rfl ?_ ?_ ?_
         ·
          refine Wc rfl rfl ent23 (fun u hu => CopyStateR_c x u (hu.ro (j := 3) rfl) hsmx) (fun _ => rfl) ?_; rintro y6 ⟨hy6x, uy6, hy6ok⟩
          obtain ⟨hy6a, hy6b, hy6c⟩ := hy6ok.ones
          refine Wd (Qa ?_)
          refine AS.two (i := 5) (j := 11) (by kernel_rfl) rfl rfl (by first | exact fun _ h => h | exact fun _ h => h.sub (by repeat first | exact List.Sublist.refl _ | apply List.Sublist.cons_cons | apply List.Sublist.cons)) rfl rfl ?_ ?_
          ·
           refine WS.buildSliceK sl45 zv52 (rows := [cMove.cells (nth (legalL r Y) i), cMove.cells (backM (nth (legalL r Y) i))]) (by rw [hbk]; rfl) rfl (by decide) (by decide) (by simp [cMove]) (fun _ => rfl) ?_; intro v98
           refine Wd (Qa ?_)
           refine AS.two (i := 6) (j := 11) (by kernel_rfl) rfl rfl (by first | exact fun _ h => h | exact fun _ h => h.sub (by repeat first | exact List.Sublist.refl _ | apply List.Sublist.cons_cons | apply List.Sublist.cons)) rfl rfl ?_ ?_
           ·
            refine Wc rfl rfl ent36 (fun u hu => (by have q := IRun_c c u (hu.ro (j := 8) rfl) g (hG.st hu) hnc y6 (hu.ro (j := 1) rfl) ⟨v98, [(nth (legalL r Y) i), backM (nth (legalL r Y) i)]⟩ ⟨osl_SlC hu (j := 0) rfl, fun _ _ ↦ trivial⟩; rw [hA.RunV, hy6x, hxx, hRn] at q; exact q)) (fun _ => rfl) ?_; rintro x6 ⟨hx6x, ux6, hx6ok⟩
            obtain ⟨hx6a, hx6b, hx6c⟩ := hx6ok.ones
            refine Wd (Qa ?_)
            refine Ar [7,8,9,10] ?_
            refine Ao 11 rfl ?_
            refine Wl 0 zv37 (fun _ => rfl) (fun _ => rfl) fun b15 hb15 => ?_
            refine Wd (Qa ?_)
            refine Ao 12 rfl ?_
            refine Wv 0 0 ?_
            refine Wd (Qa ?_)
            refine Ar [13,14] ?_
            refine Ae ?_
            refine Qc (Nz 2 ?_)
            refine Wk 0 (det_move (v := .bool false) rfl) ?_
            refine Wf 0 rfl rfl (fun hg => Fm) ?_
            refine Wf 0 rfl rfl (fun hg => Fr) ?_
            refine Wk 0 Po ?_
            refine Wk 0 (det_move (v := .bool false) rfl) ?_
            refine Wf 0 rfl rfl (fun hg => Bb 0) ?_
            refine Wf 0 rfl rfl (fun hg => Bb 6) ?_
            refine Wf 0 rfl rfl (fun hg => Cb rfl (ec_ (eg_ hg rfl) (ec_ (eg_ hg rfl) en_)) ent19 (fun u hu => SameT_c x6 x u (hu.ro (j := 1) rfl) (hu.ro (j := 7) rfl) (hx6x.trans hxx.symm))) ?_
            refine Wf 0 rfl rfl (fun hg => Fn) ?_
            refine Wk 0 Po ?_
            refine Wd (Qc (CS.cond rfl ?_ ?_))<;>intro hc7<;>try simp only [bq] at hc7
            ·
             exact absurd hc7 (by simp)
            ·
             refine Ck (Qb (Qc (Ny 1 ?_)))
             refine Wk 1 Za ?_
             refine Wd ?_
             refine QS.sel [6, 6, 6, 6, 6, 6, 6] rfl ?_
             exact QS.head (i + 1) rfl rfl ⟨⟨by omega, by omega⟩, by omega⟩
           ·
            refine Wl 0 zv37 (fun _ => rfl) (fun _ => rfl) fun b15 hb15 => ?_
            refine Wd (Qa ?_)
            refine Ao 6 rfl ?_
            refine Wc rfl rfl ent36 (fun u hu => (by have q := IRun_c c u (hu.ro (j := 9) rfl) g (hG.st hu) hnc y6 (hu.ro (j := 2) rfl) ⟨v98, [(nth (legalL r Y) i), backM (nth (legalL r Y) i)]⟩ ⟨osl_SlC hu (j := 1) rfl, fun _ _ ↦ trivial⟩; rw [hA.RunV, hy6x, hxx, hRn] at q; exact q)) (fun _ => rfl) ?_; rintro x6 ⟨hx6x, ux6, hx6ok⟩
            obtain ⟨hx6a, hx6b, hx6c⟩ := hx6ok.ones
            refine Wd (Qa ?_)
            refine Ar [7,8,9,10] ?_
            refine Ao 12 rfl ?_
            refine Wv 0 1 ?_
            refine Wd (Qa ?_)
            refine Ar [13,14] ?_
            refine Ae ?_
            refine Qc (Nz 2 ?_)
            refine Wk 0 (det_move (v := .bool false) rfl) ?_
            refine Wf 0 rfl rfl (fun hg => Fm) ?_
            refine Wf 0 rfl rfl (fun hg => Fr) ?_
            refine Wk 0 Po ?_
            refine Wk 0 (det_move (v := .bool false) rfl) ?_
            refine Wf 0 rfl rfl (fun hg => Bb 1) ?_
            refine Wf 0 rfl rfl (fun hg => Bb 6) ?_
            refine Wf 0 rfl rfl (fun hg => Cb rfl (ec_ (eg_ hg rfl) (ec_ (eg_ hg rfl) en_)) ent19 (fun u hu => SameT_c x6 x u (hu.ro (j := 0) rfl) (hu.ro (j := 7) rfl) (hx6x.trans hxx.symm))) ?_
            refine Wf 0 rfl rfl (fun hg => Fn) ?_
            refine Wk 0 Po ?_
            refine Wd (Qc (CS.cond rfl ?_ ?_))<;>intro hc7<;>try simp only [bq] at hc7
            ·
             exact absurd hc7 (by simp)
            ·
             refine Ck (Qb (Qc (Ny 1 ?_)))
             refine Wk 1 Za ?_
             refine Wd ?_
             refine QS.sel [6, 6, 6, 6, 6, 6, 6] rfl ?_
             exact QS.head (i + 1) rfl rfl ⟨⟨by omega, by omega⟩, by omega⟩
          ·
           refine Wl 0 zv37 (fun _ => rfl) (fun _ => rfl) fun b15 hb15 => ?_
           refine Wd (Qa ?_)
           refine Ao 5 rfl ?_
           refine WS.buildSliceK sl45 zv52 (rows := [cMove.cells (nth (legalL r Y) i), cMove.cells (backM (nth (legalL r Y) i))]) (by rw [hbk]; rfl) rfl (by decide) (by decide) (by simp [cMove]) (fun _ => rfl) ?_; intro v98
           refine Wd (Qa ?_)
           refine Ao 6 rfl ?_
           refine Wc rfl rfl ent36 (fun u hu => (by have q := IRun_c c u (hu.ro (j := 9) rfl) g (hG.st hu) hnc y6 (hu.ro (j := 2) rfl) ⟨v98, [(nth (legalL r Y) i), backM (nth (legalL r Y) i)]⟩ ⟨osl_SlC hu (j := 0) rfl, fun _ _ ↦ trivial⟩; rw [hA.RunV, hy6x, hxx, hRn] at q; exact q)) (fun _ => rfl) ?_; rintro x6 ⟨hx6x, ux6, hx6ok⟩
           obtain ⟨hx6a, hx6b, hx6c⟩ := hx6ok.ones
           refine Wd (Qa ?_)
           refine Ar [7,8,9,10] ?_
           refine Ao 12 rfl ?_
           refine Wv 0 2 ?_
           refine Wd (Qa ?_)
           refine Ar [13,14] ?_
           refine Ae ?_
           refine Qc (Nz 2 ?_)
           refine Wk 0 (det_move (v := .bool false) rfl) ?_
           refine Wf 0 rfl rfl (fun hg => Fm) ?_
           refine Wf 0 rfl rfl (fun hg => Fr) ?_
           refine Wk 0 Po ?_
           refine Wk 0 (det_move (v := .bool false) rfl) ?_
           refine Wf 0 rfl rfl (fun hg => Bb 2) ?_
           refine Wf 0 rfl rfl (fun hg => Bb 6) ?_
           refine Wf 0 rfl rfl (fun hg => Cb rfl (ec_ (eg_ hg rfl) (ec_ (eg_ hg rfl) en_)) ent19 (fun u hu => SameT_c x6 x u (hu.ro (j := 0) rfl) (hu.ro (j := 7) rfl) (hx6x.trans hxx.symm))) ?_
           refine Wf 0 rfl rfl (fun hg => Fn) ?_
           refine Wk 0 Po ?_
           refine Wd (Qc (CS.cond rfl ?_ ?_))<;>intro hc7<;>try simp only [bq] at hc7
           ·
            exact absurd hc7 (by simp)
           ·
            refine Ck (Qb (Qc (Ny 1 ?_)))
            refine Wk 1 Za ?_
            refine Wd ?_
            refine QS.sel [6, 6, 6, 6, 6, 6, 6] rfl ?_
            exact QS.head (i + 1) rfl rfl ⟨⟨by omega, by omega⟩, by omega⟩
         ·
          refine WS.buildSliceK sl45 zv52 (rows := [cMove.cells (nth (legalL r Y) i), cMove.cells (backM (nth (legalL r Y) i))]) (by rw [hbk]; rfl) rfl (by decide) (by decide) (by simp [cMove]) (fun _ => rfl) ?_; intro v98
          refine Wd (Qa ?_)
          refine AS.two (i := 2) (j := 11) (by kernel_rfl) rfl rfl (by first | exact fun _ h => h | exact fun _ h => h.sub (by repeat first | exact List.Sublist.refl _ | apply List.Sublist.cons_cons | apply List.Sublist.cons)) rfl rfl ?_ ?_
          ·
           refine Wc rfl rfl ent23 (fun u hu => CopyStateR_c x u (hu.ro (j := 4) rfl) hsmx) (fun _ => rfl) ?_; rintro y6 ⟨hy6x, uy6, hy6ok⟩
           obtain ⟨hy6a, hy6b, hy6c⟩ := hy6ok.ones
           refine Wd (Qa ?_)
           refine AS.two (i := 6) (j := 11) (by kernel_rfl) rfl rfl (by first | exact fun _ h => h | exact fun _ h => h.sub (by repeat first | exact List.Sublist.refl _ | apply List.Sublist.cons_cons | apply List.Sublist.cons)) rfl rfl ?_ ?_
           ·
            refine Wc rfl rfl ent36 (fun u hu => (by have q := IRun_c c u (hu.ro (j := 8) rfl) g (hG.st hu) hnc y6 (hu.ro (j := 0) rfl) ⟨v98, [(nth (legalL r Y) i), backM (nth (legalL r Y) i)]⟩ ⟨osl_SlC hu (j := 1) rfl, fun _ _ ↦ trivial⟩; rw [hA.RunV, hy6x, hxx, hRn] at q; exact q)) (fun _ => rfl) ?_; rintro x6 ⟨hx6x, ux6, hx6ok⟩
            obtain ⟨hx6a, hx6b, hx6c⟩ := hx6ok.ones
            refine Wd (Qa ?_)
            refine Ar [7,8,9,10] ?_
            refine Ao 11 rfl ?_
            refine Wl 0 zv37 (fun _ => rfl) (fun _ => rfl) fun b15 hb15 => ?_
            refine Wd (Qa ?_)
            refine Ao 12 rfl ?_
            refine Wv 0 0 ?_
            refine Wd (Qa ?_)
            refine Ar [13,14] ?_
            refine Ae ?_
            refine Qc (Nz 2 ?_)
            refine Wk 0 (det_move (v := .bool false) rfl) ?_
            refine Wf 0 rfl rfl (fun hg => Fm) ?_
            refine Wf 0 rfl rfl (fun hg => Fr) ?_
            refine Wk 0 Po ?_
            refine Wk 0 (det_move (v := .bool false) rfl) ?_
            refine Wf 0 rfl rfl (fun hg => Bb 0) ?_
            refine Wf 0 rfl rfl (fun hg => Bb 6) ?_
            refine Wf 0 rfl rfl (fun hg => Cb rfl (ec_ (eg_ hg rfl) (ec_ (eg_ hg rfl) en_)) ent19 (fun u hu => SameT_c x6 x u (hu.ro (j := 1) rfl) (hu.ro (j := 7) rfl) (hx6x.trans hxx.symm))) ?_
            refine Wf 0 rfl rfl (fun hg => Fn) ?_
            refine Wk 0 Po ?_
            refine Wd (Qc (CS.cond rfl ?_ ?_))<;>intro hc7<;>try simp only [bq] at hc7
            ·
             exact absurd hc7 (by simp)
            ·
             refine Ck (Qb (Qc (Ny 1 ?_)))
             refine Wk 1 Za ?_
             refine Wd ?_
             refine QS.sel [6, 6, 6, 6, 6, 6, 6] rfl ?_
             exact QS.head (i + 1) rfl rfl ⟨⟨by omega, by omega⟩, by omega⟩
           ·
            refine Wl 0 zv37 (fun _ => rfl) (fun _ => rfl) fun b15 hb15 => ?_
            refine Wd (Qa ?_)
            refine Ao 6 rfl ?_
            refine Wc rfl rfl ent36 (fun u hu => (by have q := IRun_c c u (hu.ro (j := 9) rfl) g (hG.st hu) hnc y6 (hu.ro (j := 1) rfl) ⟨v98, [(nth (legalL r Y) i), backM (nth (legalL r Y) i)]⟩ ⟨osl_SlC hu (j := 2) rfl, fun _ _ ↦ trivial⟩; rw [hA.RunV, hy6x, hxx, hRn] at q; exact q)) (fun _ => rfl) ?_; rintro x6 ⟨hx6x, ux6, hx6ok⟩
            obtain ⟨hx6a, hx6b, hx6c⟩ := hx6ok.ones
            refine Wd (Qa ?_)
            refine Ar [7,8,9,10] ?_
            refine Ao 12 rfl ?_
            refine Wv 0 1 ?_
            refine Wd (Qa ?_)
            refine Ar [13,14] ?_
            refine Ae ?_
            refine Qc (Nz 2 ?_)
            refine Wk 0 (det_move (v := .bool false) rfl) ?_
            refine Wf 0 rfl rfl (fun hg => Fm) ?_
            refine Wf 0 rfl rfl (fun hg => Fr) ?_
            refine Wk 0 Po ?_
            refine Wk 0 (det_move (v := .bool false) rfl) ?_
            refine Wf 0 rfl rfl (fun hg => Bb 1) ?_
            refine Wf 0 rfl rfl (fun hg => Bb 6) ?_
            refine Wf 0 rfl rfl (fun hg => Cb rfl (ec_ (eg_ hg rfl) (ec_ (eg_ hg rfl) en_)) ent19 (fun u hu => SameT_c x6 x u (hu.ro (j := 0) rfl) (hu.ro (j := 7) rfl) (hx6x.trans hxx.symm))) ?_
            refine Wf 0 rfl rfl (fun hg => Fn) ?_
            refine Wk 0 Po ?_
            refine Wd (Qc (CS.cond rfl ?_ ?_))<;>intro hc7<;>try simp only [bq] at hc7
            ·
             exact absurd hc7 (by simp)
            ·
             refine Ck (Qb (Qc (Ny 1 ?_)))
             refine Wk 1 Za ?_
             refine Wd ?_
             refine QS.sel [6, 6, 6, 6, 6, 6, 6] rfl ?_
             exact QS.head (i + 1) rfl rfl ⟨⟨by omega, by omega⟩, by omega⟩
          ·
           refine Wl 0 zv37 (fun _ => rfl) (fun _ => rfl) fun b15 hb15 => ?_
           refine Wd (Qa ?_)
           refine Ao 2 rfl ?_
           refine Wc rfl rfl ent23 (fun u hu => CopyStateR_c x u (hu.ro (j := 5) rfl) hsmx) (fun _ => rfl) ?_; rintro y6 ⟨hy6x, uy6, hy6ok⟩
           obtain ⟨hy6a, hy6b, hy6c⟩ := hy6ok.ones
           refine Wd (Qa ?_)
           refine Ao 6 rfl ?_
           refine Wc rfl rfl ent36 (fun u hu => (by have q := IRun_c c u (hu.ro (j := 9) rfl) g (hG.st hu) hnc y6 (hu.ro (j := 0) rfl) ⟨v98, [(nth (legalL r Y) i), backM (nth (legalL r Y) i)]⟩ ⟨osl_SlC hu (j := 2) rfl, fun _ _ ↦ trivial⟩; rw [hA.RunV, hy6x, hxx, hRn] at q; exact q)) (fun _ => rfl) ?_; rintro x6 ⟨hx6x, ux6, hx6ok⟩
           obtain ⟨hx6a, hx6b, hx6c⟩ := hx6ok.ones
           refine Wd (Qa ?_)
           refine Ar [7,8,9,10] ?_
           refine Ao 12 rfl ?_
           refine Wv 0 2 ?_
           refine Wd (Qa ?_)
           refine Ar [13,14] ?_
           refine Ae ?_
           refine Qc (Nz 2 ?_)
           refine Wk 0 (det_move (v := .bool false) rfl) ?_
           refine Wf 0 rfl rfl (fun hg => Fm) ?_
           refine Wf 0 rfl rfl (fun hg => Fr) ?_
           refine Wk 0 Po ?_
           refine Wk 0 (det_move (v := .bool false) rfl) ?_
           refine Wf 0 rfl rfl (fun hg => Bb 2) ?_
           refine Wf 0 rfl rfl (fun hg => Bb 6) ?_
           refine Wf 0 rfl rfl (fun hg => Cb rfl (ec_ (eg_ hg rfl) (ec_ (eg_ hg rfl) en_)) ent19 (fun u hu => SameT_c x6 x u (hu.ro (j := 0) rfl) (hu.ro (j := 7) rfl) (hx6x.trans hxx.symm))) ?_
           refine Wf 0 rfl rfl (fun hg => Fn) ?_
           refine Wk 0 Po ?_
           refine Wd (Qc (CS.cond rfl ?_ ?_))<;>intro hc7<;>try simp only [bq] at hc7
           ·
            exact absurd hc7 (by simp)
           ·
            refine Ck (Qb (Qc (Ny 1 ?_)))
            refine Wk 1 Za ?_
            refine Wd ?_
            refine QS.sel [6, 6, 6, 6, 6, 6, 6] rfl ?_
            exact QS.head (i + 1) rfl rfl ⟨⟨by omega, by omega⟩, by omega⟩
         ·
          refine Wl 0 zv37 (fun _ => rfl) (fun _ => rfl) fun b15 hb15 => ?_
          refine Wd (Qa ?_)
          refine AS.two (i := 2) (j := 5) (by kernel_rfl) rfl rfl (by first | exact fun _ h => h | exact fun _ h => h.sub (by repeat first | exact List.Sublist.refl _ | apply List.Sublist.cons_cons | apply List.Sublist.cons)) rfl rfl ?_ ?_
          ·
           refine Wc rfl rfl ent23 (fun u hu => CopyStateR_c x u (hu.ro (j := 4) rfl) hsmx) (fun _ => rfl) ?_; rintro y6 ⟨hy6x, uy6, hy6ok⟩
           obtain ⟨hy6a, hy6b, hy6c⟩ := hy6ok.ones
           refine Wd (Qa ?_)
           refine Ao 5 rfl ?_
           refine WS.buildSliceK sl45 zv52 (rows := [cMove.cells (nth (legalL r Y) i), cMove.cells (backM (nth (legalL r Y) i))]) (by rw [hbk]; rfl) rfl (by decide) (by decide) (by simp [cMove]) (fun _ => rfl) ?_; intro v98
           refine Wd (Qa ?_)
           refine Ao 6 rfl ?_
           refine Wc rfl rfl ent36 (fun u hu => (by have q := IRun_c c u (hu.ro (j := 9) rfl) g (hG.st hu) hnc y6 (hu.ro (j := 1) rfl) ⟨v98, [(nth (legalL r Y) i), backM (nth (legalL r Y) i)]⟩ ⟨osl_SlC hu (j := 0) rfl, fun _ _ ↦ trivial⟩; rw [hA.RunV, hy6x, hxx, hRn] at q; exact q)) (fun _ => rfl) ?_; rintro x6 ⟨hx6x, ux6, hx6ok⟩
           obtain ⟨hx6a, hx6b, hx6c⟩ := hx6ok.ones
           refine Wd (Qa ?_)
           refine Ar [7,8,9,10] ?_
           refine Ao 12 rfl ?_
           refine Wv 0 3 ?_
           refine Wd (Qa ?_)
           refine Ar [13,14] ?_
           refine Ae ?_
           refine Qc (Nz 2 ?_)
           refine Wk 0 (det_move (v := .bool false) rfl) ?_
           refine Wf 0 rfl rfl (fun hg => Fm) ?_
           refine Wf 0 rfl rfl (fun hg => Fr) ?_
           refine Wk 0 Po ?_
           refine Wk 0 (det_move (v := .bool false) rfl) ?_
           refine Wf 0 rfl rfl (fun hg => Bb 3) ?_
           refine Wf 0 rfl rfl (fun hg => Bb 6) ?_
           refine Wf 0 rfl rfl (fun hg => Cb rfl (ec_ (eg_ hg rfl) (ec_ (eg_ hg rfl) en_)) ent19 (fun u hu => SameT_c x6 x u (hu.ro (j := 0) rfl) (hu.ro (j := 7) rfl) (hx6x.trans hxx.symm))) ?_
           refine Wf 0 rfl rfl (fun hg => Fn) ?_
           refine Wk 0 Po ?_
           refine Wd (Qc (CS.cond rfl ?_ ?_))<;>intro hc7<;>try simp only [bq] at hc7
           ·
            exact absurd hc7 (by simp)
           ·
            refine Ck (Qb (Qc (Ny 1 ?_)))
            refine Wk 1 Za ?_
            refine Wd ?_
            refine QS.sel [6, 6, 6, 6, 6, 6, 6] rfl ?_
            exact QS.head (i + 1) rfl rfl ⟨⟨by omega, by omega⟩, by omega⟩
          ·
           refine WS.buildSliceK sl45 zv52 (rows := [cMove.cells (nth (legalL r Y) i), cMove.cells (backM (nth (legalL r Y) i))]) (by rw [hbk]; rfl) rfl (by decide) (by decide) (by simp [cMove]) (fun _ => rfl) ?_; intro v98
           refine Wd (Qa ?_)
           refine Ao 2 rfl ?_
           refine Wc rfl rfl ent23 (fun u hu => CopyStateR_c x u (hu.ro (j := 5) rfl) hsmx) (fun _ => rfl) ?_; rintro y6 ⟨hy6x, uy6, hy6ok⟩
           obtain ⟨hy6a, hy6b, hy6c⟩ := hy6ok.ones
           refine Wd (Qa ?_)
           refine Ao 6 rfl ?_
           refine Wc rfl rfl ent36 (fun u hu => (by have q := IRun_c c u (hu.ro (j := 9) rfl) g (hG.st hu) hnc y6 (hu.ro (j := 0) rfl) ⟨v98, [(nth (legalL r Y) i), backM (nth (legalL r Y) i)]⟩ ⟨osl_SlC hu (j := 1) rfl, fun _ _ ↦ trivial⟩; rw [hA.RunV, hy6x, hxx, hRn] at q; exact q)) (fun _ => rfl) ?_; rintro x6 ⟨hx6x, ux6, hx6ok⟩
           obtain ⟨hx6a, hx6b, hx6c⟩ := hx6ok.ones
           refine Wd (Qa ?_)
           refine Ar [7,8,9,10] ?_
           refine Ao 12 rfl ?_
           refine Wv 0 3 ?_
           refine Wd (Qa ?_)
           refine Ar [13,14] ?_
           refine Ae ?_
           refine Qc (Nz 2 ?_)
           refine Wk 0 (det_move (v := .bool false) rfl) ?_
           refine Wf 0 rfl rfl (fun hg => Fm) ?_
           refine Wf 0 rfl rfl (fun hg => Fr) ?_
           refine Wk 0 Po ?_
           refine Wk 0 (det_move (v := .bool false) rfl) ?_
           refine Wf 0 rfl rfl (fun hg => Bb 3) ?_
           refine Wf 0 rfl rfl (fun hg => Bb 6) ?_
           refine Wf 0 rfl rfl (fun hg => Cb rfl (ec_ (eg_ hg rfl) (ec_ (eg_ hg rfl) en_)) ent19 (fun u hu => SameT_c x6 x u (hu.ro (j := 0) rfl) (hu.ro (j := 7) rfl) (hx6x.trans hxx.symm))) ?_
           refine Wf 0 rfl rfl (fun hg => Fn) ?_
           refine Wk 0 Po ?_
           refine Wd (Qc (CS.cond rfl ?_ ?_))<;>intro hc7<;>try simp only [bq] at hc7
           ·
            exact absurd hc7 (by simp)
           ·
            refine Ck (Qb (Qc (Ny 1 ?_)))
            refine Wk 1 Za ?_
            refine Wd ?_
            refine QS.sel [6, 6, 6, 6, 6, 6, 6] rfl ?_
            exact QS.head (i + 1) rfl rfl ⟨⟨by omega, by omega⟩, by omega⟩
     ·
      refine Cv (Qe (Qe (Qx (Qc ?_))))
      refine CS.cut (σ := Nat × Stt) [115, 116, 117, 118, 119, 120, 121, 122, 123, 124] (fun s => [(18, .pointer (some ⟨s.1, 0, none⟩)), (19, .int .i64 (RunV r z.x ms.l).2.1), (20, .int .i64 (RunV r z.x ms.l).1)]) (fun s => [blk s.1 [s.2.ths.v, s.2.prs.v, s.2.pls.v] 37, roS fun u => SttOk u s.2, blk b7 [c.pls.v, c.ths.v, c.prs.v, c.wys.v, c.acs.v, c.aus.v, .int .i64 c.ply, c.gl.v] 31, roS fun u => RoomOk u c, blk b4 [z.ths.v, z.prs.v, z.pls.v] 37, blk b3 [r.pls.v, r.ths.v, r.prs.v, r.wys.v, r.acs.v, r.aus.v, .int .i64 r.ply, r.gl.v] 31]) (fun s => s.2.x = (RunV r z.x ms.l).2.2 ∧ ∃ u0, SttOk u0 s.2) (fun _ _ => rfl) ?_ ?_
      ·
       refine CS.drawnAll (k := 14) mixed rfl rfl ?_
       refine Ak 0 [] rfl (Bb 3) ?_
       refine Ak 1 [3] rfl (Bb 5) ?_
       refine AS.two (i := 2) (j := 10) (by kernel_rfl) rfl rfl (by first | exact fun _ h => h | exact fun _ h => h.sub (by repeat first | exact List.Sublist.refl _ | apply List.Sublist.cons_cons | apply List.Sublist.cons)) rfl rfl ?_ ?_
       ·
        refine Wc rfl rfl ent23 (fun u hu => CopyStateR_c z u (hz.st hu) hsm) (fun _ => rfl) ?_; rintro y ⟨hyx, uy, hyok⟩
        obtain ⟨hya, hyb, hyc⟩ := hyok.ones
        refine Wd (Qa ?_)
        refine AS.two (i := 4) (j := 10) (by kernel_rfl) rfl rfl (by first | exact fun _ h => h | exact fun _ h => h.sub (by repeat first | exact List.Sublist.refl _ | apply List.Sublist.cons_cons | apply List.Sublist.cons)) rfl rfl ?_ ?_
        ·
         refine Wc rfl rfl ent37 (fun u hu => movesL_c ms u (hk.st hu) (by omega)) (fun _ => rfl) ?_; rintro l2 ⟨ul2, hl2⟩
         refine Wd (Qa ?_)
         refine AS.two (i := 5) (j := 10) (by kernel_rfl) rfl rfl (by first | exact fun _ h => h | exact fun _ h => h.sub (by repeat first | exact List.Sublist.refl _ | apply List.Sublist.cons_cons | apply List.Sublist.cons)) rfl rfl ?_ ?_
         ·
          refine Wc rfl rfl ent36 (fun u hu => (by have q := IRun_c c u (hu.ro (j := 6) rfl) g (hG.st hu) hnc y (hu.ro (j := 1) rfl) ⟨l2, ms.l⟩ (hu.ro (j := 0) rfl); rw [hA.RunV, hyx] at q; exact q)) (fun _ => rfl) ?_; rintro x7 ⟨hx7x, ux7, hx7ok⟩
          obtain ⟨hx7a, hx7b, hx7c⟩ := hx7ok.ones
          refine Wd (Qa ?_)
          refine Ar [6,7,8,9] ?_
          refine Ao 10 rfl ?_
          refine Wl 0 zv37 (fun _ => rfl) (fun _ => rfl) fun b18 hb18 => ?_
          refine Wd (Qa ?_)
          refine Ao 11 rfl ?_
          refine Wv 0 0 ?_
          refine Wd (Qa ?_)
          refine Ar [12,13] ?_
          refine Ae ?_
          refine QS.sel [0, 0, 5, 5, 5, 5] rfl ?_
          exact QS.head ((b18, x7)) rfl rfl ⟨hx7x, ux7, hx7ok⟩
         ·
          refine Wl 0 zv37 (fun _ => rfl) (fun _ => rfl) fun b18 hb18 => ?_
          refine Wd (Qa ?_)
          refine Ao 5 rfl ?_
          refine Wc rfl rfl ent36 (fun u hu => (by have q := IRun_c c u (hu.ro (j := 7) rfl) g (hG.st hu) hnc y (hu.ro (j := 2) rfl) ⟨l2, ms.l⟩ (hu.ro (j := 1) rfl); rw [hA.RunV, hyx] at q; exact q)) (fun _ => rfl) ?_; rintro x7 ⟨hx7x, ux7, hx7ok⟩
          obtain ⟨hx7a, hx7b, hx7c⟩ := hx7ok.ones
          refine Wd (Qa ?_)
          refine Ar [6,7,8,9] ?_
          refine Ao 11 rfl ?_
          refine Wv 0 1 ?_
          refine Wd (Qa ?_)
          refine Ar [12,13] ?_
          refine Ae ?_
          refine QS.sel [1, 0, 5, 5, 5, 5] rfl ?_
          exact QS.head ((b18, x7)) rfl rfl ⟨hx7x, ux7, hx7ok⟩
        ·
         refine Wl 0 zv37 (fun _ => rfl) (fun _ => rfl) fun b18 hb18 => ?_
         refine Wd (Qa ?_)
         refine Ao 4 rfl ?_
         refine Wc rfl rfl ent37 (fun u hu => movesL_c ms u (hk.st hu) (by omega)) (fun _ => rfl) ?_; rintro l2 ⟨ul2, hl2⟩
         refine Wd (Qa ?_)
         refine Ao 5 rfl ?_
         refine Wc rfl rfl ent36 (fun u hu => (by have q := IRun_c c u (hu.ro (j := 7) rfl) g (hG.st hu) hnc y (hu.ro (j := 2) rfl) ⟨l2, ms.l⟩ (hu.ro (j := 0) rfl); rw [hA.RunV, hyx] at q; exact q)) (fun _ => rfl) ?_; rintro x7 ⟨hx7x, ux7, hx7ok⟩
         obtain ⟨hx7a, hx7b, hx7c⟩ := hx7ok.ones
         refine Wd (Qa ?_)
         refine Ar [6,7,8,9] ?_
         refine Ao 11 rfl ?_
         refine Wv 0 2 ?_
         refine Wd (Qa ?_)
         refine Ar [12,13] ?_
         refine Ae ?_
         refine QS.sel [2, 0, 5, 5, 5, 5] rfl ?_
         exact QS.head ((b18, x7)) rfl rfl ⟨hx7x, ux7, hx7ok⟩
       ·
        refine Wl 0 zv37 (fun _ => rfl) (fun _ => rfl) fun b18 hb18 => ?_
        refine Wd (Qa ?_)
        refine Ao 2 rfl ?_
        refine Wc rfl rfl ent23 (fun u hu => CopyStateR_c z u (hz.st hu) hsm) (fun _ => rfl) ?_; rintro y ⟨hyx, uy, hyok⟩
        obtain ⟨hya, hyb, hyc⟩ := hyok.ones
        refine Wd (Qa ?_)
        refine Ao 4 rfl ?_
        refine Wc rfl rfl ent37 (fun u hu => movesL_c ms u (hk.st hu) (by omega)) (fun _ => rfl) ?_; rintro l2 ⟨ul2, hl2⟩
        refine Wd (Qa ?_)
        refine Ao 5 rfl ?_
        refine Wc rfl rfl ent36 (fun u hu => (by have q := IRun_c c u (hu.ro (j := 7) rfl) g (hG.st hu) hnc y (hu.ro (j := 1) rfl) ⟨l2, ms.l⟩ (hu.ro (j := 0) rfl); rw [hA.RunV, hyx] at q; exact q)) (fun _ => rfl) ?_; rintro x7 ⟨hx7x, ux7, hx7ok⟩
        obtain ⟨hx7a, hx7b, hx7c⟩ := hx7ok.ones
        refine Wd (Qa ?_)
        refine Ar [6,7,8,9] ?_
        refine Ao 11 rfl ?_
        refine Wv 0 3 ?_
        refine Wd (Qa ?_)
        refine Ar [12,13] ?_
        refine Ae ?_
        refine QS.sel [3, 0, 5, 5, 5, 5] rfl ?_
        exact QS.head ((b18, x7)) rfl rfl ⟨hx7x, ux7, hx7ok⟩
      ·
       intro s t hs
       obtain ⟨b18, x7⟩ := s
       obtain ⟨hx7x, ux7, hx7ok⟩ := hs
       obtain ⟨hx7a, hx7b, hx7c⟩ := hx7ok.ones
       refine CS.cut (σ := Nat × Stt) [125, 126, 127, 128, 129, 130, 131, 132, 133, 134, 135, 136, 137, 138] (fun s => [(21, .pointer (some ⟨s.1, 0, none⟩)), (22, .int .i64 (RunV r z.x (ms.l.take (ms.l.length / 2))).2.1), (23, .int .i64 (RunV r z.x (ms.l.take (ms.l.length / 2))).1)]) (fun s => [blk s.1 [s.2.ths.v, s.2.prs.v, s.2.pls.v] 37, roS fun u => SttOk u s.2, blk b18 [x7.ths.v, x7.prs.v, x7.pls.v] 37, roS fun u => SttOk u x7, blk b7 [c.pls.v, c.ths.v, c.prs.v, c.wys.v, c.acs.v, c.aus.v, .int .i64 c.ply, c.gl.v] 31, roS fun u => RoomOk u c, blk b4 [z.ths.v, z.prs.v, z.pls.v] 37, blk b3 [r.pls.v, r.ths.v, r.prs.v, r.wys.v, r.acs.v, r.aus.v, .int .i64 r.ply, r.gl.v] 31]) (fun s => s.2.x = (RunV r z.x (ms.l.take (ms.l.length / 2))).2.2 ∧ ∃ u0, SttOk u0 s.2) (fun _ _ => rfl) ?_ ?_
       ·
        refine CS.drawnAll (k := 18) mixed rfl rfl ?_
        refine Ak 0 [] rfl (Bb 2) ?_
        refine Ak 1 [3,4] rfl (Bb 4) ?_
        refine Ak 5 [] rfl Nc ?_
        refine Ak 6 [] rfl (det_quo rfl rfl (by omega) (by omega) (by omega)) ?_
        refine Ak 7 [] rfl (det_slTo sl45 rfl rfl hk.sp (by omega) (by omega)) ?_
        refine AS.two (i := 2) (j := 14) (by kernel_rfl) rfl rfl (by first | exact fun _ h => h | exact fun _ h => h.sub (by repeat first | exact List.Sublist.refl _ | apply List.Sublist.cons_cons | apply List.Sublist.cons)) rfl rfl ?_ ?_
        ·
         refine Wc rfl rfl ent23 (fun u hu => CopyStateR_c z u (hz.st hu) hsm) (fun _ => rfl) ?_; rintro y ⟨hyx, uy, hyok⟩
         obtain ⟨hya, hyb, hyc⟩ := hyok.ones
         refine Wd (Qa ?_)
         refine AS.two (i := 8) (j := 14) (by kernel_rfl) rfl rfl (by first | exact fun _ h => h | exact fun _ h => h.sub (by repeat first | exact List.Sublist.refl _ | apply List.Sublist.cons_cons | apply List.Sublist.cons)) rfl rfl ?_ ?_
         ·
          refine Wc rfl rfl ent37 (fun u hu => movesL_c (ms.cut cMove.k 0 (ms.l.length / 2)) u ((hk.st hu).cut (by omega) (by omega)) (by simp [Sl.cut]; omega)) (fun _ => rfl) ?_; rintro l3 ⟨ul3, hl3⟩
          refine Wd (Qa ?_)
          refine AS.two (i := 9) (j := 14) (by kernel_rfl) rfl rfl (by first | exact fun _ h => h | exact fun _ h => h.sub (by repeat first | exact List.Sublist.refl _ | apply List.Sublist.cons_cons | apply List.Sublist.cons)) rfl rfl ?_ ?_
          ·
           refine Wc rfl rfl ent36 (fun u hu => (by have q := IRun_c c u (hu.ro (j := 5) rfl) g (hG.st hu) hnc y (hu.ro (j := 1) rfl) ⟨l3, (ms.cut cMove.k 0 (ms.l.length / 2)).l⟩ (hu.ro (j := 0) rfl); rw [hA.RunV, hyx] at q; exact q)) (fun _ => rfl) ?_; rintro x8 ⟨hx8x, ux8, hx8ok⟩
           obtain ⟨hx8a, hx8b, hx8c⟩ := hx8ok.ones
           refine Wd (Qa ?_)
           refine Ar [10,11,12,13] ?_
           refine Ao 14 rfl ?_
           refine Wl 0 zv37 (fun _ => rfl) (fun _ => rfl) fun b21 hb21 => ?_
           refine Wd (Qa ?_)
           refine Ao 15 rfl ?_
           refine Wv 0 0 ?_
           refine Wd (Qa ?_)
           refine Ar [16,17] ?_
           refine Ae ?_
           refine QS.sel [0, 0, 2, 2, 2, 2, 2, 2] rfl ?_
           exact QS.head ((b21, x8)) rfl rfl ⟨hx8x, ux8, hx8ok⟩
          ·
           refine Wl 0 zv37 (fun _ => rfl) (fun _ => rfl) fun b21 hb21 => ?_
           refine Wd (Qa ?_)
           refine Ao 9 rfl ?_
           refine Wc rfl rfl ent36 (fun u hu => (by have q := IRun_c c u (hu.ro (j := 6) rfl) g (hG.st hu) hnc y (hu.ro (j := 2) rfl) ⟨l3, (ms.cut cMove.k 0 (ms.l.length / 2)).l⟩ (hu.ro (j := 1) rfl); rw [hA.RunV, hyx] at q; exact q)) (fun _ => rfl) ?_; rintro x8 ⟨hx8x, ux8, hx8ok⟩
           obtain ⟨hx8a, hx8b, hx8c⟩ := hx8ok.ones
           refine Wd (Qa ?_)
           refine Ar [10,11,12,13] ?_
           refine Ao 15 rfl ?_
           refine Wv 0 1 ?_
           refine Wd (Qa ?_)
           refine Ar [16,17] ?_
           refine Ae ?_
           refine QS.sel [1, 0, 2, 2, 2, 2, 2, 2] rfl ?_
           exact QS.head ((b21, x8)) rfl rfl ⟨hx8x, ux8, hx8ok⟩
         ·
          refine Wl 0 zv37 (fun _ => rfl) (fun _ => rfl) fun b21 hb21 => ?_
          refine Wd (Qa ?_)
          refine Ao 8 rfl ?_
          refine Wc rfl rfl ent37 (fun u hu => movesL_c (ms.cut cMove.k 0 (ms.l.length / 2)) u ((hk.st hu).cut (by omega) (by omega)) (by simp [Sl.cut]; omega)) (fun _ => rfl) ?_; rintro l3 ⟨ul3, hl3⟩
          refine Wd (Qa ?_)
          refine Ao 9 rfl ?_
          refine Wc rfl rfl ent36 (fun u hu => (by have q := IRun_c c u (hu.ro (j := 6) rfl) g (hG.st hu) hnc y (hu.ro (j := 2) rfl) ⟨l3, (ms.cut cMove.k 0 (ms.l.length / 2)).l⟩ (hu.ro (j := 0) rfl); rw [hA.RunV, hyx] at q; exact q)) (fun _ => rfl) ?_; rintro x8 ⟨hx8x, ux8, hx8ok⟩
          obtain ⟨hx8a, hx8b, hx8c⟩ := hx8ok.ones
          refine Wd (Qa ?_)
          refine Ar [10,11,12,13] ?_
          refine Ao 15 rfl ?_
          refine Wv 0 2 ?_
          refine Wd (Qa ?_)
          refine Ar [16,17] ?_
          refine Ae ?_
          refine QS.sel [2, 0, 2, 2, 2, 2, 2, 2] rfl ?_
          exact QS.head ((b21, x8)) rfl rfl ⟨hx8x, ux8, hx8ok⟩
        ·
         refine Wl 0 zv37 (fun _ => rfl) (fun _ => rfl) fun b21 hb21 => ?_
         refine Wd (Qa ?_)
         refine Ao 2 rfl ?_
         refine Wc rfl rfl ent23 (fun u hu => CopyStateR_c z u (hz.st hu) hsm) (fun _ => rfl) ?_; rintro y ⟨hyx, uy, hyok⟩
         obtain ⟨hya, hyb, hyc⟩ := hyok.ones
         refine Wd (Qa ?_)
         refine Ao 8 rfl ?_
         refine Wc rfl rfl ent37 (fun u hu => movesL_c (ms.cut cMove.k 0 (ms.l.length / 2)) u ((hk.st hu).cut (by omega) (by omega)) (by simp [Sl.cut]; omega)) (fun _ => rfl) ?_; rintro l3 ⟨ul3, hl3⟩
         refine Wd (Qa ?_)
         refine Ao 9 rfl ?_
         refine Wc rfl rfl ent36 (fun u hu => (by have q := IRun_c c u (hu.ro (j := 6) rfl) g (hG.st hu) hnc y (hu.ro (j := 1) rfl) ⟨l3, (ms.cut cMove.k 0 (ms.l.length / 2)).l⟩ (hu.ro (j := 0) rfl); rw [hA.RunV, hyx] at q; exact q)) (fun _ => rfl) ?_; rintro x8 ⟨hx8x, ux8, hx8ok⟩
         obtain ⟨hx8a, hx8b, hx8c⟩ := hx8ok.ones
         refine Wd (Qa ?_)
         refine Ar [10,11,12,13] ?_
         refine Ao 15 rfl ?_
         refine Wv 0 3 ?_
         refine Wd (Qa ?_)
         refine Ar [16,17] ?_
         refine Ae ?_
         refine QS.sel [3, 0, 2, 2, 2, 2, 2, 2] rfl ?_
         exact QS.head ((b21, x8)) rfl rfl ⟨hx8x, ux8, hx8ok⟩
       ·
        intro s t hs
        obtain ⟨b21, x8⟩ := s
        obtain ⟨hx8x, ux8, hx8ok⟩ := hs
        obtain ⟨hx8a, hx8b, hx8c⟩ := hx8ok.ones
        refine Cs (Nz 2 ?_)
        refine Wd (Qc (CS.cond rfl ?_ ?_))<;>intro hc8<;>try simp only [bq] at hc8
        ·
         have hgn := (run_parts hC hI (ms := ms.l) (by omega) (ms.l.length / 2)).1 hc8
         refine Nz 3 ?_
         refine Wt 0 rfl rfl (fun hg => Cb rfl rfl ent13 (fun u hu => works_c u g (hG.st hu))) ?_
         refine Wk 1 Pa ?_
         exact Wd (Qc (Cr (Qr (out1 rfl rfl (retBe (by simp [hgn]))))))
        ·
         have hgp := (run_parts hC hI (ms := ms.l) (by omega) (ms.l.length / 2)).2 hc8
         refine Ck (Qc ?_)
         refine CS.cut (σ := Nat × Stt) [146, 147, 148, 149, 150, 151, 152, 153, 154, 155, 156, 157, 158] (fun s => [(24, .pointer (some ⟨s.1, 0, none⟩)), (25, .int .i64 (RunV r (RunV r z.x (ms.l.take (ms.l.length / 2))).2.2 (ms.l.drop (ms.l.length / 2))).2.1), (26, .int .i64 (RunV r (RunV r z.x (ms.l.take (ms.l.length / 2))).2.2 (ms.l.drop (ms.l.length / 2))).1)]) (fun s => [blk s.1 [s.2.ths.v, s.2.prs.v, s.2.pls.v] 37, roS fun u => SttOk u s.2, blk b18 [x7.ths.v, x7.prs.v, x7.pls.v] 37, roS fun u => SttOk u x7]) (fun s => s.2.x = (RunV r (RunV r z.x (ms.l.take (ms.l.length / 2))).2.2 (ms.l.drop (ms.l.length / 2))).2.2 ∧ ∃ u0, SttOk u0 s.2) (fun _ _ => rfl) ?_ ?_
         ·
          refine CS.drawnAll (k := 17) mixed rfl rfl ?_
          refine Ak 0 [] rfl (Bb 4) ?_
          refine Ak 1 [2,3] rfl (Bb 0) ?_
          refine Ak 4 [] rfl Nc ?_
          refine Ak 5 [] rfl (det_quo rfl rfl (by omega) (by omega) (by omega)) ?_
          refine Ak 6 [] rfl (det_slFrom sl45 rfl rfl hk.sp (by omega) (by omega)) ?_
          refine AS.two (i := 7) (j := 13) (by kernel_rfl) rfl rfl (by first | exact fun _ h => h | exact fun _ h => h.sub (by repeat first | exact List.Sublist.refl _ | apply List.Sublist.cons_cons | apply List.Sublist.cons)) rfl rfl ?_ ?_
          ·
           refine Wc rfl rfl ent37 (fun u hu => movesL_c (ms.cut cMove.k (ms.l.length / 2) ms.l.length) u ((hk.st hu).cut (by omega) (by omega)) (by simp [Sl.cut]; omega)) (fun _ => rfl) ?_; rintro l4 ⟨ul4, hl4⟩
           rw [e9] at hl4 ⊢
           refine Wd (Qa ?_)
           refine AS.two (i := 8) (j := 13) (by kernel_rfl) rfl rfl (by first | exact fun _ h => h | exact fun _ h => h.sub (by repeat first | exact List.Sublist.refl _ | apply List.Sublist.cons_cons | apply List.Sublist.cons)) rfl rfl ?_ ?_
           ·
            refine Wc rfl rfl ent36 (fun u hu => (by have q := IRun_c c u (hu.ro (j := 6) rfl) g (hG.st hu) hnc x8 (hu.ro (j := 2) rfl) ⟨l4, ms.l.drop (ms.l.length / 2)⟩ (hu.ro (j := 0) rfl); rw [hA.RunV, hx8x] at q; exact q)) (fun _ => rfl) ?_; rintro x9 ⟨hx9x, ux9, hx9ok⟩
            obtain ⟨hx9a, hx9b, hx9c⟩ := hx9ok.ones
            refine Wd (Qa ?_)
            refine Ar [9,10,11,12] ?_
            refine Ao 13 rfl ?_
            refine Wl 0 zv37 (fun _ => rfl) (fun _ => rfl) fun b24 hb24 => ?_
            refine Wd (Qa ?_)
            refine Ao 14 rfl ?_
            refine Wv 0 0 ?_
            refine Wd (Qa ?_)
            refine Ar [15,16] ?_
            refine Ae ?_
            refine QS.sel [0, 0, 3, 3] rfl ?_
            exact QS.head ((b24, x9)) rfl rfl ⟨hx9x, ux9, hx9ok⟩
           ·
            refine Wl 0 zv37 (fun _ => rfl) (fun _ => rfl) fun b24 hb24 => ?_
            refine Wd (Qa ?_)
            refine Ao 8 rfl ?_
            refine Wc rfl rfl ent36 (fun u hu => (by have q := IRun_c c u (hu.ro (j := 7) rfl) g (hG.st hu) hnc x8 (hu.ro (j := 3) rfl) ⟨l4, ms.l.drop (ms.l.length / 2)⟩ (hu.ro (j := 1) rfl); rw [hA.RunV, hx8x] at q; exact q)) (fun _ => rfl) ?_; rintro x9 ⟨hx9x, ux9, hx9ok⟩
            obtain ⟨hx9a, hx9b, hx9c⟩ := hx9ok.ones
            refine Wd (Qa ?_)
            refine Ar [9,10,11,12] ?_
            refine Ao 14 rfl ?_
            refine Wv 0 1 ?_
            refine Wd (Qa ?_)
            refine Ar [15,16] ?_
            refine Ae ?_
            refine QS.sel [1, 0, 3, 3] rfl ?_
            exact QS.head ((b24, x9)) rfl rfl ⟨hx9x, ux9, hx9ok⟩
          ·
           refine Wl 0 zv37 (fun _ => rfl) (fun _ => rfl) fun b24 hb24 => ?_
           refine Wd (Qa ?_)
           refine Ao 7 rfl ?_
           refine Wc rfl rfl ent37 (fun u hu => movesL_c (ms.cut cMove.k (ms.l.length / 2) ms.l.length) u ((hk.st hu).cut (by omega) (by omega)) (by simp [Sl.cut]; omega)) (fun _ => rfl) ?_; rintro l4 ⟨ul4, hl4⟩
           rw [e9] at hl4 ⊢
           refine Wd (Qa ?_)
           refine Ao 8 rfl ?_
           refine Wc rfl rfl ent36 (fun u hu => (by have q := IRun_c c u (hu.ro (j := 7) rfl) g (hG.st hu) hnc x8 (hu.ro (j := 3) rfl) ⟨l4, ms.l.drop (ms.l.length / 2)⟩ (hu.ro (j := 0) rfl); rw [hA.RunV, hx8x] at q; exact q)) (fun _ => rfl) ?_; rintro x9 ⟨hx9x, ux9, hx9ok⟩
           obtain ⟨hx9a, hx9b, hx9c⟩ := hx9ok.ones
           refine Wd (Qa ?_)
           refine Ar [9,10,11,12] ?_
           refine Ao 14 rfl ?_
           refine Wv 0 2 ?_
           refine Wd (Qa ?_)
           refine Ar [15,16] ?_
           refine Ae ?_
           refine QS.sel [2, 0, 3, 3] rfl ?_
           exact QS.head ((b24, x9)) rfl rfl ⟨hx9x, ux9, hx9ok⟩
         ·
          intro s t hs
          obtain ⟨b24, x9⟩ := s
          obtain ⟨hx9x, ux9, hx9ok⟩ := hs
          obtain ⟨hx9a, hx9b, hx9c⟩ := hx9ok.ones
          refine Nz 4 ?_
          refine Wt 0 rfl rfl (fun hg => Fm) ?_
          refine Wt 0 rfl rfl (fun hg => Fr) ?_
          refine Wt 0 rfl rfl (fun hg => Fm (eg_ hg rfl)) ?_
          refine Wn 0 rfl rfl rfl (fun hg => Bb 2) ?_
          refine Wn 0 rfl rfl rfl (fun hg => Bb 0) ?_
          refine Wn 0 rfl rfl rfl (fun hg => Cb rfl (ec_ (eg_ hg rfl) (ec_ (eg_ hg rfl) en_)) ent19 (fun u hu => SameT_c x7 x9 u (hu.ro (j := 3) rfl) (hu.ro (j := 1) rfl) (by rw [hx7x, hx9x]; exact hgp.2))) ?_
          refine Wt 0 rfl rfl (fun hg => det_pick_or (eg_ hg rfl) (ev_nestF hg rfl) rfl) ?_
          refine Wk 1 Pa ?_
          refine Wt 0 rfl rfl (fun hg => Cb rfl rfl ent13 (fun u hu => works_c u g (hG.st hu))) ?_
          refine Wk 1 Pa ?_
          exact Wd (Qc (Cr (out1 rfl rfl (retBe (by simp [hgp.1])))))
end Go.Proofs.YtgbofmnbakfalaaDoor
