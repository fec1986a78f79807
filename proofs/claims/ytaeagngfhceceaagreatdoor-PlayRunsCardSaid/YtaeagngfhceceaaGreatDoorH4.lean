/- Contracts of functions, printed by a program of the prover (gen.py). -/
import Derived.Test.YtaeagngfhceceaaGreatDoorZv
import Derived.Test.YtaeagngfhceceaaGreatDoorZw
import Derived.Test.YtaeagngfhceceaaGreatDoorY0
import Derived.Test.YtaeagngfhceceaaGreatDoorY1
import Derived.Test.YtaeagngfhceceaaGreatDoorY2
import Derived.Test.YtaeagngfhceceaaGreatDoorY3
import Derived.Test.YtaeagngfhceceaaGreatDoorY4
import Derived.Test.YtaeagngfhceceaaGreatDoorY5
import Derived.Test.YtaeagngfhceceaaGreatDoorY7
import Derived.Test.YtaeagngfhceceaaGreatDoorY8
import Derived.Test.YtaeagngfhceceaaGreatDoorY9
import Derived.Test.YtaeagngfhceceaaGreatDoorY10
import Derived.Test.YtaeagngfhceceaaGreatDoorY11
import Derived.Test.YtaeagngfhceceaaGreatDoorY12
import Derived.Test.YtaeagngfhceceaaGreatDoorY13
import Derived.Test.YtaeagngfhceceaaGreatDoorY15
import Derived.Test.YtaeagngfhceceaaGreatDoorY17
import Derived.Test.YtaeagngfhceceaaGreatDoorY19
import Derived.Test.YtaeagngfhceceaaGreatDoorY29
import Derived.Test.YtaeagngfhceceaaGreatDoorY30
import Derived.Test.YtaeagngfhceceaaGreatDoorY39
set_option maxHeartbeats 8000000
namespace Go.Proofs.YtaeagngfhceceaaGreatDoor
open Go.RowKit Go.Proofs
set_option maxRecDepth 100000
set_option linter.unusedVariables false
set_option linter.unusedSimpArgs false
theorem PlayRuns_c (G : Game) (w : World) (hG : GameOk w G) (g : Sl ByteArray) (hW : GOk w g) (p : Pos) (hp : PosOk w p) (ms : Sl Move) (hk : SlT cMove w ms) :
  Calls Tryz.prog 7 #[.agg #[G.rm.pls.v, G.rm.ths.v, G.rm.prs.v, G.rm.wys.v, G.rm.acs.v, G.rm.aus.v, .int .i64 G.rm.ply, G.rm.gl.v, G.lks.v, G.cds.v, G.nts.v, .int .i64 G.tr], .agg #[p.st.ths.v, p.st.prs.v, p.st.pls.v, p.rd.v], ms.v] w (RetB w (.bool true)) := by
 have lms := hk.le
 have hone := hk.one
 refine enter Tryz.func7 rfl rfl (Nat.le_of_ble_eq_true rfl) ?_
 refine Nz 0 ?_
 refine Wb 0 rfl rfl (fun _ => rfl) (fun _ => rfl) fun b3 hb3 => ?_
 refine Wb 1 rfl rfl (fun _ => rfl) (fun _ => rfl) fun b4 hb4 => ?_
 refine Wd (Qc (Cs (Nz 0 ?_)))
 refine Wk 0 (by first | exact det_loadb0 (j := 1) rfl rfl tk36 | exact det_loadbN (j := 1) rfl rfl (by rfl) tk36 | exact det_loadwN rfl (by assumption) (by rfl) tk36 | exact det_loadbK (n := 12) (j := 1) rfl rfl rfl rfl tk36) ?_
 refine Wk 1 (Cb rfl rfl ent14 (fun u hu => FarG_c G u (hG.st hu))) ?_
 refine Wf 0 rfl rfl (fun hg => by first | exact det_loadb0 (j := 0) rfl rfl tk68 | exact det_loadbN (j := 0) rfl rfl (by rfl) tk68 | exact det_loadwN rfl (by assumption) (by rfl) tk68 | exact det_loadbK (n := 4) (j := 0) rfl rfl rfl rfl tk68) ?_
 refine Wf 0 rfl rfl (fun hg => Cb rfl (ec_ (eg_ hg rfl) en_) ent26 (fun u hu => AwayG_c p u (hp.toSt hu))) ?_
 refine Wk 1 Po ?_
 refine Wf 0 rfl rfl (fun hg => Fm) ?_
 refine Wf 0 rfl rfl (fun hg => Nc (eg_ hg rfl)) ?_
 refine Wf 0 rfl rfl (fun hg => Fg) ?_
 refine Wk 0 Po ?_
 refine Wd (Qc (CS.cond rfl ?_ ?_))<;>intro hc1<;>try simp only [bq] at hc1
 ·
  refine Nz 0 ?_
  refine Wk 1 (Cb rfl rfl ent27 (fun u hu => worksG_c u g (hW.st hu))) ?_
  exact Wd (Qc (Cr (Qr (out1 rfl rfl retB))))
 ·
  have hn : NearG G := clB_iff.1 hc1.1.1
  have hsm : (p.st.ths.l.length ≤ 1000000 ∧ p.st.prs.l.length ≤ 1000000 ∧ p.st.pls.l.length ≤ 1000000) ∧ p.rd.l.length ≤ 1000000 := by have := hc1.1.2; grind
  refine Ck (Qc ?_)
  refine CS.cut (σ := Nat × Pos) [25, 26, 27, 28, 29, 30, 31, 32, 33, 34, 35, 36] (fun s => [(7, .pointer (some ⟨s.1, 0, none⟩)), (8, .int .i64 (RunGV G.p p.x ms.l).2.1), (9, .int .i64 (RunGV G.p p.x ms.l).1)]) (fun s => [blk s.1 [s.2.st.ths.v, s.2.st.prs.v, s.2.st.pls.v, s.2.rd.v] 68, roS fun u => PosOk u s.2, blk b4 [p.st.ths.v, p.st.prs.v, p.st.pls.v, p.rd.v] 68, blk b3 [G.rm.pls.v, G.rm.ths.v, G.rm.prs.v, G.rm.wys.v, G.rm.acs.v, G.rm.aus.v, .int .i64 G.rm.ply, G.rm.gl.v, G.lks.v, G.cds.v, G.nts.v, .int .i64 G.tr] 36]) (fun s => s.2.x = (RunGV G.p p.x ms.l).2.2 ∧ ∃ u0, PosOk u0 s.2) (fun _ _ => rfl) ?_ ?_
  ·
   refine CS.drawnAll (k := 16) mixed rfl rfl ?_
   refine Ak 0 [] rfl (by first | exact det_loadb0 (j := 1) rfl rfl tk36 | exact det_loadbN (j := 1) rfl rfl (by rfl) tk36 | exact det_loadwN rfl (by assumption) (by rfl) tk36 | exact det_loadbK (n := 12) (j := 1) rfl rfl rfl rfl tk36) ?_
   refine Ak 2 [5] rfl (by first | exact det_loadb0 (j := 0) rfl rfl tk68 | exact det_loadbN (j := 0) rfl rfl (by rfl) tk68 | exact det_loadwN rfl (by assumption) (by rfl) tk68 | exact det_loadbK (n := 4) (j := 0) rfl rfl rfl rfl tk68) ?_
   refine AS.three (i := 1) (j := 4) (k := 12) (by kernel_rfl) rfl rfl rfl (by first | exact fun _ h => h | exact fun _ h => h.sub (by repeat first | exact List.Sublist.refl _ | apply List.Sublist.cons_cons | apply List.Sublist.cons)) rfl rfl rfl ?_ ?_ ?_
   ·
    refine Wc rfl rfl ent17 (fun u hu => CopyG_c G u (hG.st hu) hn) (fun _ => rfl) ?_; rintro c ⟨hcp, uc, hcok⟩
    have hnc := near_p hcp hn
    have o1 := Sl.one hcok.rm.pls
    have o2 := Sl.one hcok.rm.ths
    have o3 := Sl.one hcok.rm.prs
    have o4 := Sl.one hcok.rm.wys
    have o5 := Sl.one hcok.rm.acs
    have o6 := Sl.one hcok.rm.aus
    have o7 := Sl.one hcok.rm.gl
    have o8 := Sl.one hcok.lks
    have o9 := Sl.one hcok.cds
    have o10 := Sl.one hcok.nts
    refine Wd (Qa ?_)
    refine AS.three (i := 3) (j := 4) (k := 12) (by kernel_rfl) rfl rfl rfl (by first | exact fun _ h => h | exact fun _ h => h.sub (by repeat first | exact List.Sublist.refl _ | apply List.Sublist.cons_cons | apply List.Sublist.cons)) rfl rfl rfl ?_ ?_ ?_
    ·
     refine Wc rfl rfl ent29 (fun u hu => CopyPos_c p u (hp.toSt hu) hsm) (fun _ => rfl) ?_; rintro y ⟨hyx, uy, hyok⟩
     obtain ⟨hya, hyb, hyc⟩ := hyok.st.ones
     have hyd := Sl.one hyok.rd
     refine Wd (Qa ?_)
     refine AS.two (i := 4) (j := 12) (by kernel_rfl) rfl rfl (by first | exact fun _ h => h | exact fun _ h => h.sub (by repeat first | exact List.Sublist.refl _ | apply List.Sublist.cons_cons | apply List.Sublist.cons)) rfl rfl ?_ ?_
     ·
      refine WS.build0 sl70 zv91 (fun _ => rfl) ?_; intro v30
      refine Wd (Qa ?_)
      refine AS.two (i := 6) (j := 12) (by kernel_rfl) rfl rfl (by first | exact fun _ h => h | exact fun _ h => h.sub (by repeat first | exact List.Sublist.refl _ | apply List.Sublist.cons_cons | apply List.Sublist.cons)) rfl rfl ?_ ?_
      ·
       refine WS.append0 (j := 0) (news := flatC cMove ms.l) (m := ms.l.length) sl70 zv91 rfl (by decide) rfl rfl rfl (fun u hu => (hk.st hu).sp) hone (by omega) (by omega) (fun _ => rfl) (fun _ => rfl) ?_; intro v32
       refine Wd (Qa ?_)
       refine AS.two (i := 7) (j := 12) (by kernel_rfl) rfl rfl (by first | exact fun _ h => h | exact fun _ h => h.sub (by repeat first | exact List.Sublist.refl _ | apply List.Sublist.cons_cons | apply List.Sublist.cons)) rfl rfl ?_ ?_
       ·
        refine Wc rfl rfl ent40 (fun u hu => (by have q := RunI_c c u (hu.ro (j := 2) rfl) g (hW.st hu) hnc y (hu.ro (j := 1) rfl) ⟨v32, ms.l⟩ ⟨osl_SlC hu (j := 0) rfl, fun _ _ ↦ trivial⟩; rw [hcp, hyx] at q; exact q)) (fun _ => rfl) ?_; rintro x ⟨hxx, ux, hxok⟩
        obtain ⟨hxa, hxb, hxc⟩ := hxok.st.ones
        have hxd := Sl.one hxok.rd
        refine Wd (Qa ?_)
        refine Ar [8,9,10,11] ?_
        refine Ao 12 rfl ?_
        refine Wl 0 zv68 (fun _ => rfl) (fun _ => rfl) fun b7 hb7 => ?_
        refine Wd (Qa ?_)
        refine Ao 13 rfl ?_
        refine Wv 0 0 ?_
        refine Wd (Qa ?_)
        refine Ar [14,15] ?_
        refine Ae ?_
        refine QS.sel [0, 0, 3, 3] rfl ?_
        exact QS.head ((b7, x)) rfl rfl ⟨hxx, ux, hxok⟩
       ·
        refine Wl 0 zv68 (fun _ => rfl) (fun _ => rfl) fun b7 hb7 => ?_
        refine Wd (Qa ?_)
        refine Ao 7 rfl ?_
        refine Wc rfl rfl ent40 (fun u hu => (by have q := RunI_c c u (hu.ro (j := 3) rfl) g (hW.st hu) hnc y (hu.ro (j := 2) rfl) ⟨v32, ms.l⟩ ⟨osl_SlC hu (j := 1) rfl, fun _ _ ↦ trivial⟩; rw [hcp, hyx] at q; exact q)) (fun _ => rfl) ?_; rintro x ⟨hxx, ux, hxok⟩
        obtain ⟨hxa, hxb, hxc⟩ := hxok.st.ones
        have hxd := Sl.one hxok.rd
        refine Wd (Qa ?_)
        refine Ar [8,9,10,11] ?_
        refine Ao 13 rfl ?_
        refine Wv 0 1 ?_
        refine Wd (Qa ?_)
        refine Ar [14,15] ?_
        refine Ae ?_
        refine QS.sel [1, 0, 3, 3] rfl ?_
        exact QS.head ((b7, x)) rfl rfl ⟨hxx, ux, hxok⟩
      ·
       refine Wl 0 zv68 (fun _ => rfl) (fun _ => rfl) fun b7 hb7 => ?_
       refine Wd (Qa ?_)
       refine Ao 6 rfl ?_
       refine WS.append0 (j := 1) (news := flatC cMove ms.l) (m := ms.l.length) sl70 zv91 rfl (by decide) rfl rfl rfl (fun u hu => (hk.st hu).sp) hone (by omega) (by omega) (fun _ => rfl) (fun _ => rfl) ?_; intro v32
       refine Wd (Qa ?_)
       refine Ao 7 rfl ?_
       refine Wc rfl rfl ent40 (fun u hu => (by have q := RunI_c c u (hu.ro (j := 3) rfl) g (hW.st hu) hnc y (hu.ro (j := 2) rfl) ⟨v32, ms.l⟩ ⟨osl_SlC hu (j := 1) rfl, fun _ _ ↦ trivial⟩; rw [hcp, hyx] at q; exact q)) (fun _ => rfl) ?_; rintro x ⟨hxx, ux, hxok⟩
       obtain ⟨hxa, hxb, hxc⟩ := hxok.st.ones
       have hxd := Sl.one hxok.rd
       refine Wd (Qa ?_)
       refine Ar [8,9,10,11] ?_
       refine Ao 13 rfl ?_
       refine Wv 0 1 ?_
       refine Wd (Qa ?_)
       refine Ar [14,15] ?_
       refine Ae ?_
       refine QS.sel [1, 0, 3, 3] rfl ?_
       exact QS.head ((b7, x)) rfl rfl ⟨hxx, ux, hxok⟩
     ·
      refine Wl 0 zv68 (fun _ => rfl) (fun _ => rfl) fun b7 hb7 => ?_
      refine Wd (Qa ?_)
      refine Ao 4 rfl ?_
      refine WS.build0 sl70 zv91 (fun _ => rfl) ?_; intro v30
      refine Wd (Qa ?_)
      refine Ao 6 rfl ?_
      refine WS.append0 (j := 0) (news := flatC cMove ms.l) (m := ms.l.length) sl70 zv91 rfl (by decide) rfl rfl rfl (fun u hu => (hk.st hu).sp) hone (by omega) (by omega) (fun _ => rfl) (fun _ => rfl) ?_; intro v32
      refine Wd (Qa ?_)
      refine Ao 7 rfl ?_
      refine Wc rfl rfl ent40 (fun u hu => (by have q := RunI_c c u (hu.ro (j := 3) rfl) g (hW.st hu) hnc y (hu.ro (j := 2) rfl) ⟨v32, ms.l⟩ ⟨osl_SlC hu (j := 0) rfl, fun _ _ ↦ trivial⟩; rw [hcp, hyx] at q; exact q)) (fun _ => rfl) ?_; rintro x ⟨hxx, ux, hxok⟩
      obtain ⟨hxa, hxb, hxc⟩ := hxok.st.ones
      have hxd := Sl.one hxok.rd
      refine Wd (Qa ?_)
      refine Ar [8,9,10,11] ?_
      refine Ao 13 rfl ?_
      refine Wv 0 2 ?_
      refine Wd (Qa ?_)
      refine Ar [14,15] ?_
      refine Ae ?_
      refine QS.sel [2, 0, 3, 3] rfl ?_
      exact QS.head ((b7, x)) rfl rfl ⟨hxx, ux, hxok⟩
    ·
     refine WS.build0 sl70 zv91 (fun _ => rfl) ?_; intro v30
     refine Wd (Qa ?_)
     refine AS.two (i := 3) (j := 12) (by kernel_rfl) rfl rfl (by first | exact fun _ h => h | exact fun _ h => h.sub (by repeat first | exact List.Sublist.refl _ | apply List.Sublist.cons_cons | apply List.Sublist.cons)) rfl rfl ?_ ?_
     ·
      refine Wc rfl rfl ent29 (fun u hu => CopyPos_c p u (hp.toSt hu) hsm) (fun _ => rfl) ?_; rintro y ⟨hyx, uy, hyok⟩
      obtain ⟨hya, hyb, hyc⟩ := hyok.st.ones
      have hyd := Sl.one hyok.rd
      refine Wd (Qa ?_)
      refine AS.two (i := 6) (j := 12) (by kernel_rfl) rfl rfl (by first | exact fun _ h => h | exact fun _ h => h.sub (by repeat first | exact List.Sublist.refl _ | apply List.Sublist.cons_cons | apply List.Sublist.cons)) rfl rfl ?_ ?_
      ·
       refine WS.append0 (j := 1) (news := flatC cMove ms.l) (m := ms.l.length) sl70 zv91 rfl (by decide) rfl rfl rfl (fun u hu => (hk.st hu).sp) hone (by omega) (by omega) (fun _ => rfl) (fun _ => rfl) ?_; intro v32
       refine Wd (Qa ?_)
       refine AS.two (i := 7) (j := 12) (by kernel_rfl) rfl rfl (by first | exact fun _ h => h | exact fun _ h => h.sub (by repeat first | exact List.Sublist.refl _ | apply List.Sublist.cons_cons | apply List.Sublist.cons)) rfl rfl ?_ ?_
       ·
        refine Wc rfl rfl ent40 (fun u hu => (by have q := RunI_c c u (hu.ro (j := 2) rfl) g (hW.st hu) hnc y (hu.ro (j := 0) rfl) ⟨v32, ms.l⟩ ⟨osl_SlC hu (j := 1) rfl, fun _ _ ↦ trivial⟩; rw [hcp, hyx] at q; exact q)) (fun _ => rfl) ?_; rintro x ⟨hxx, ux, hxok⟩
        obtain ⟨hxa, hxb, hxc⟩ := hxok.st.ones
        have hxd := Sl.one hxok.rd
        refine Wd (Qa ?_)
        refine Ar [8,9,10,11] ?_
        refine Ao 12 rfl ?_
        refine Wl 0 zv68 (fun _ => rfl) (fun _ => rfl) fun b7 hb7 => ?_
        refine Wd (Qa ?_)
        refine Ao 13 rfl ?_
        refine Wv 0 0 ?_
        refine Wd (Qa ?_)
        refine Ar [14,15] ?_
        refine Ae ?_
        refine QS.sel [0, 0, 3, 3] rfl ?_
        exact QS.head ((b7, x)) rfl rfl ⟨hxx, ux, hxok⟩
       ·
        refine Wl 0 zv68 (fun _ => rfl) (fun _ => rfl) fun b7 hb7 => ?_
        refine Wd (Qa ?_)
        refine Ao 7 rfl ?_
        refine Wc rfl rfl ent40 (fun u hu => (by have q := RunI_c c u (hu.ro (j := 3) rfl) g (hW.st hu) hnc y (hu.ro (j := 1) rfl) ⟨v32, ms.l⟩ ⟨osl_SlC hu (j := 2) rfl, fun _ _ ↦ trivial⟩; rw [hcp, hyx] at q; exact q)) (fun _ => rfl) ?_; rintro x ⟨hxx, ux, hxok⟩
        obtain ⟨hxa, hxb, hxc⟩ := hxok.st.ones
        have hxd := Sl.one hxok.rd
        refine Wd (Qa ?_)
        refine Ar [8,9,10,11] ?_
        refine Ao 13 rfl ?_
        refine Wv 0 1 ?_
        refine Wd (Qa ?_)
        refine Ar [14,15] ?_
        refine Ae ?_
        refine QS.sel [1, 0, 3, 3] rfl ?_
        exact QS.head ((b7, x)) rfl rfl ⟨hxx, ux, hxok⟩
      ·
       refine Wl 0 zv68 (fun _ => rfl) (fun _ => rfl) fun b7 hb7 => ?_
       refine Wd (Qa ?_)
       refine Ao 6 rfl ?_
       refine WS.append0 (j := 2) (news := flatC cMove ms.l) (m := ms.l.length) sl70 zv91 rfl (by decide) rfl rfl rfl (fun u hu => (hk.st hu).sp) hone (by omega) (by omega) (fun _ => rfl) (fun _ => rfl) ?_; intro v32
       refine Wd (Qa ?_)
       refine Ao 7 rfl ?_
       refine Wc rfl rfl ent40 (fun u hu => (by have q := RunI_c c u (hu.ro (j := 3) rfl) g (hW.st hu) hnc y (hu.ro (j := 1) rfl) ⟨v32, ms.l⟩ ⟨osl_SlC hu (j := 2) rfl, fun _ _ ↦ trivial⟩; rw [hcp, hyx] at q; exact q)) (fun _ => rfl) ?_; rintro x ⟨hxx, ux, hxok⟩
       obtain ⟨hxa, hxb, hxc⟩ := hxok.st.ones
       have hxd := Sl.one hxok.rd
       refine Wd (Qa ?_)
       refine Ar [8,9,10,11] ?_
       refine Ao 13 rfl ?_
       refine Wv 0 1 ?_
       refine Wd (Qa ?_)
       refine Ar [14,15] ?_
       refine Ae ?_
       refine QS.sel [1, 0, 3, 3] rfl ?_
       exact QS.head ((b7, x)) rfl rfl ⟨hxx, ux, hxok⟩
     ·
      refine Wl 0 zv68 (fun _ => rfl) (fun _ => rfl) fun b7 hb7 => ?_
      refine Wd (Qa ?_)
      refine Ao 3 rfl ?_
      refine Wc rfl rfl ent29 (fun u hu => CopyPos_c p u (hp.toSt hu) hsm) (fun _ => rfl) ?_; rintro y ⟨hyx, uy, hyok⟩
      obtain ⟨hya, hyb, hyc⟩ := hyok.st.ones
      have hyd := Sl.one hyok.rd
      refine Wd (Qa ?_)
      refine Ao 6 rfl ?_
      refine WS.append0 (j := 2) (news := flatC cMove ms.l) (m := ms.l.length) sl70 zv91 rfl (by decide) rfl rfl rfl (fun u hu => (hk.st hu).sp) hone (by omega) (by omega) (fun _ => rfl) (fun _ => rfl) ?_; intro v32
      refine Wd (Qa ?_)
      refine Ao 7 rfl ?_
      refine Wc rfl rfl ent40 (fun u hu => (by have q := RunI_c c u (hu.ro (j := 3) rfl) g (hW.st hu) hnc y (hu.ro (j := 0) rfl) ⟨v32, ms.l⟩ ⟨osl_SlC hu (j := 2) rfl, fun _ _ ↦ trivial⟩; rw [hcp, hyx] at q; exact q)) (fun _ => rfl) ?_; rintro x ⟨hxx, ux, hxok⟩
      obtain ⟨hxa, hxb, hxc⟩ := hxok.st.ones
      have hxd := Sl.one hxok.rd
      refine Wd (Qa ?_)
      refine Ar [8,9,10,11] ?_
      refine Ao 13 rfl ?_
      refine Wv 0 2 ?_
      refine Wd (Qa ?_)
      refine Ar [14,15] ?_
      refine Ae ?_
      refine QS.sel [2, 0, 3, 3] rfl ?_
      exact QS.head ((b7, x)) rfl rfl ⟨hxx, ux, hxok⟩
    ·
     refine Wl 0 zv68 (fun _ => rfl) (fun _ => rfl) fun b7 hb7 => ?_
     refine Wd (Qa ?_)
     refine AS.two (i := 3) (j := 4) (by kernel_rfl) rfl rfl (by first | exact fun _ h => h | exact fun _ h => h.sub (by repeat first | exact List.Sublist.refl _ | apply List.Sublist.cons_cons | apply List.Sublist.cons)) rfl rfl ?_ ?_
     ·
      refine Wc rfl rfl ent29 (fun u hu => CopyPos_c p u (hp.toSt hu) hsm) (fun _ => rfl) ?_; rintro y ⟨hyx, uy, hyok⟩
      obtain ⟨hya, hyb, hyc⟩ := hyok.st.ones
      have hyd := Sl.one hyok.rd
      refine Wd (Qa ?_)
      refine Ao 4 rfl ?_
      refine WS.build0 sl70 zv91 (fun _ => rfl) ?_; intro v30
      refine Wd (Qa ?_)
      refine Ao 6 rfl ?_
      refine WS.append0 (j := 0) (news := flatC cMove ms.l) (m := ms.l.length) sl70 zv91 rfl (by decide) rfl rfl rfl (fun u hu => (hk.st hu).sp) hone (by omega) (by omega) (fun _ => rfl) (fun _ => rfl) ?_; intro v32
      refine Wd (Qa ?_)
      refine Ao 7 rfl ?_
      refine Wc rfl rfl ent40 (fun u hu => (by have q := RunI_c c u (hu.ro (j := 3) rfl) g (hW.st hu) hnc y (hu.ro (j := 1) rfl) ⟨v32, ms.l⟩ ⟨osl_SlC hu (j := 0) rfl, fun _ _ ↦ trivial⟩; rw [hcp, hyx] at q; exact q)) (fun _ => rfl) ?_; rintro x ⟨hxx, ux, hxok⟩
      obtain ⟨hxa, hxb, hxc⟩ := hxok.st.ones
      have hxd := Sl.one hxok.rd
      refine Wd (Qa ?_)
      refine Ar [8,9,10,11] ?_
      refine Ao 13 rfl ?_
      refine Wv 0 3 ?_
      refine Wd (Qa ?_)
      refine Ar [14,15] ?_
      refine Ae ?_
      refine QS.sel [3, 0, 3, 3] rfl ?_
      exact QS.head ((b7, x)) rfl rfl ⟨hxx, ux, hxok⟩
     ·
      refine WS.build0 sl70 zv91 (fun _ => rfl) ?_; intro v30
      refine Wd (Qa ?_)
      refine Ao 3 rfl ?_
      refine Wc rfl rfl ent29 (fun u hu => CopyPos_c p u (hp.toSt hu) hsm) (fun _ => rfl) ?_; rintro y ⟨hyx, uy, hyok⟩
      obtain ⟨hya, hyb, hyc⟩ := hyok.st.ones
      have hyd := Sl.one hyok.rd
      refine Wd (Qa ?_)
      refine Ao 6 rfl ?_
      refine WS.append0 (j := 1) (news := flatC cMove ms.l) (m := ms.l.length) sl70 zv91 rfl (by decide) rfl rfl rfl (fun u hu => (hk.st hu).sp) hone (by omega) (by omega) (fun _ => rfl) (fun _ => rfl) ?_; intro v32
      refine Wd (Qa ?_)
      refine Ao 7 rfl ?_
      refine Wc rfl rfl ent40 (fun u hu => (by have q := RunI_c c u (hu.ro (j := 3) rfl) g (hW.st hu) hnc y (hu.ro (j := 0) rfl) ⟨v32, ms.l⟩ ⟨osl_SlC hu (j := 1) rfl, fun _ _ ↦ trivial⟩; rw [hcp, hyx] at q; exact q)) (fun _ => rfl) ?_; rintro x ⟨hxx, ux, hxok⟩
      obtain ⟨hxa, hxb, hxc⟩ := hxok.st.ones
      have hxd := Sl.one hxok.rd
      refine Wd (Qa ?_)
      refine Ar [8,9,10,11] ?_
      refine Ao 13 rfl ?_
      refine Wv 0 3 ?_
      refine Wd (Qa ?_)
      refine Ar [14,15] ?_
      refine Ae ?_
      refine QS.sel [3, 0, 3, 3] rfl ?_
      exact QS.head ((b7, x)) rfl rfl ⟨hxx, ux, hxok⟩
   ·
    refine WS.build0 sl70 zv91 (fun _ => rfl) ?_; intro v30
    refine Wd (Qa ?_)
    refine AS.two (i := 1) (j := 12) (by kernel_rfl) rfl rfl (by first | exact fun _ h => h | exact fun _ h => h.sub (by repeat first | exact List.Sublist.refl _ | apply List.Sublist.cons_cons | apply List.Sublist.cons)) rfl rfl ?_ ?_
    ·
     refine Wc rfl rfl ent17 (fun u hu => CopyG_c G u (hG.st hu) hn) (fun _ => rfl) ?_; rintro c ⟨hcp, uc, hcok⟩
     have hnc := near_p hcp hn
     have o1 := Sl.one hcok.rm.pls
     have o2 := Sl.one hcok.rm.ths
     have o3 := Sl.one hcok.rm.prs
     have o4 := Sl.one hcok.rm.wys
     have o5 := Sl.one hcok.rm.acs
     have o6 := Sl.one hcok.rm.aus
     have o7 := Sl.one hcok.rm.gl
     have o8 := Sl.one hcok.lks
     have o9 := Sl.one hcok.cds
     have o10 := Sl.one hcok.nts
     refine Wd (Qa ?_)
     refine AS.two (i := 3) (j := 12) (by kernel_rfl) rfl rfl (by first | exact fun _ h => h | exact fun _ h => h.sub (by repeat first | exact List.Sublist.refl _ | apply List.Sublist.cons_cons | apply List.Sublist.cons)) rfl rfl ?_ ?_
     ·
      refine Wc rfl rfl ent29 (fun u hu => CopyPos_c p u (hp.toSt hu) hsm) (fun _ => rfl) ?_; rintro y ⟨hyx, uy, hyok⟩
      obtain ⟨hya, hyb, hyc⟩ := hyok.st.ones
      have hyd := Sl.one hyok.rd
      refine Wd (Qa ?_)
      refine AS.two (i := 6) (j := 12) (by kernel_rfl) rfl rfl (by first | exact fun _ h => h | exact fun _ h => h.sub (by repeat first | exact List.Sublist.refl _ | apply List.Sublist.cons_cons | apply List.Sublist.cons)) rfl rfl ?_ ?_
      ·
       refine WS.append0 (j := 2) (news := flatC cMove ms.l) (m := ms.l.length) sl70 zv91 rfl (by decide) rfl rfl rfl (fun u hu => (hk.st hu).sp) hone (by omega) (by omega) (fun _ => rfl) (fun _ => rfl) ?_; intro v32
       refine Wd (Qa ?_)
       refine AS.two (i := 7) (j := 12) (by kernel_rfl) rfl rfl (by first | exact fun _ h => h | exact fun _ h => h.sub (by repeat first | exact List.Sublist.refl _ | apply List.Sublist.cons_cons | apply List.Sublist.cons)) rfl rfl ?_ ?_
       ·
        refine Wc rfl rfl ent40 (fun u hu => (by have q := RunI_c c u (hu.ro (j := 1) rfl) g (hW.st hu) hnc y (hu.ro (j := 0) rfl) ⟨v32, ms.l⟩ ⟨osl_SlC hu (j := 2) rfl, fun _ _ ↦ trivial⟩; rw [hcp, hyx] at q; exact q)) (fun _ => rfl) ?_; rintro x ⟨hxx, ux, hxok⟩
        obtain ⟨hxa, hxb, hxc⟩ := hxok.st.ones
        have hxd := Sl.one hxok.rd
        refine Wd (Qa ?_)
        refine Ar [8,9,10,11] ?_
        refine Ao 12 rfl ?_
        refine Wl 0 zv68 (fun _ => rfl) (fun _ => rfl) fun b7 hb7 => ?_
        refine Wd (Qa ?_)
        refine Ao 13 rfl ?_
        refine Wv 0 0 ?_
        refine Wd (Qa ?_)
        refine Ar [14,15] ?_
        refine Ae ?_
        refine QS.sel [0, 0, 3, 3] rfl ?_
        exact QS.head ((b7, x)) rfl rfl ⟨hxx, ux, hxok⟩
       ·
        refine Wl 0 zv68 (fun _ => rfl) (fun _ => rfl) fun b7 hb7 => ?_
        refine Wd (Qa ?_)
        refine Ao 7 rfl ?_
        refine Wc rfl rfl ent40 (fun u hu => (by have q := RunI_c c u (hu.ro (j := 2) rfl) g (hW.st hu) hnc y (hu.ro (j := 1) rfl) ⟨v32, ms.l⟩ ⟨osl_SlC hu (j := 3) rfl, fun _ _ ↦ trivial⟩; rw [hcp, hyx] at q; exact q)) (fun _ => rfl) ?_; rintro x ⟨hxx, ux, hxok⟩
        obtain ⟨hxa, hxb, hxc⟩ := hxok.st.ones
        have hxd := Sl.one hxok.rd
        refine Wd (Qa ?_)
        refine Ar [8,9,10,11] ?_
        refine Ao 13 rfl ?_
        refine Wv 0 1 ?_
        refine Wd (Qa ?_)
        refine Ar [14,15] ?_
        refine Ae ?_
        refine QS.sel [1, 0, 3, 3] rfl ?_
        exact QS.head ((b7, x)) rfl rfl ⟨hxx, ux, hxok⟩
      ·
       refine Wl 0 zv68 (fun _ => rfl) (fun _ => rfl) fun b7 hb7 => ?_
       refine Wd (Qa ?_)
       refine Ao 6 rfl ?_
       refine WS.append0 (j := 3) (news := flatC cMove ms.l) (m := ms.l.length) sl70 zv91 rfl (by decide) rfl rfl rfl (fun u hu => (hk.st hu).sp) hone (by omega) (by omega) (fun _ => rfl) (fun _ => rfl) ?_; intro v32
       refine Wd (Qa ?_)
       refine Ao 7 rfl ?_
       refine Wc rfl rfl ent40 (fun u hu => (by have q := RunI_c c u (hu.ro (j := 2) rfl) g (hW.st hu) hnc y (hu.ro (j := 1) rfl) ⟨v32, ms.l⟩ ⟨osl_SlC hu (j := 3) rfl, fun _ _ ↦ trivial⟩; rw [hcp, hyx] at q; exact q)) (fun _ => rfl) ?_; rintro x ⟨hxx, ux, hxok⟩
       obtain ⟨hxa, hxb, hxc⟩ := hxok.st.ones
       have hxd := Sl.one hxok.rd
       refine Wd (Qa ?_)
       refine Ar [8,9,10,11] ?_
       refine Ao 13 rfl ?_
       refine Wv 0 1 ?_
       refine Wd (Qa ?_)
       refine Ar [14,15] ?_
       refine Ae ?_
       refine QS.sel [1, 0, 3, 3] rfl ?_
       exact QS.head ((b7, x)) rfl rfl ⟨hxx, ux, hxok⟩
     ·
      refine Wl 0 zv68 (fun _ => rfl) (fun _ => rfl) fun b7 hb7 => ?_
      refine Wd (Qa ?_)
      refine Ao 3 rfl ?_
      refine Wc rfl rfl ent29 (fun u hu => CopyPos_c p u (hp.toSt hu) hsm) (fun _ => rfl) ?_; rintro y ⟨hyx, uy, hyok⟩
      obtain ⟨hya, hyb, hyc⟩ := hyok.st.ones
      have hyd := Sl.one hyok.rd
      refine Wd (Qa ?_)
      refine Ao 6 rfl ?_
      refine WS.append0 (j := 3) (news := flatC cMove ms.l) (m := ms.l.length) sl70 zv91 rfl (by decide) rfl rfl rfl (fun u hu => (hk.st hu).sp) hone (by omega) (by omega) (fun _ => rfl) (fun _ => rfl) ?_; intro v32
      refine Wd (Qa ?_)
      refine Ao 7 rfl ?_
      refine Wc rfl rfl ent40 (fun u hu => (by have q := RunI_c c u (hu.ro (j := 2) rfl) g (hW.st hu) hnc y (hu.ro (j := 0) rfl) ⟨v32, ms.l⟩ ⟨osl_SlC hu (j := 3) rfl, fun _ _ ↦ trivial⟩; rw [hcp, hyx] at q; exact q)) (fun _ => rfl) ?_; rintro x ⟨hxx, ux, hxok⟩
      obtain ⟨hxa, hxb, hxc⟩ := hxok.st.ones
      have hxd := Sl.one hxok.rd
      refine Wd (Qa ?_)
      refine Ar [8,9,10,11] ?_
      refine Ao 13 rfl ?_
      refine Wv 0 2 ?_
      refine Wd (Qa ?_)
      refine Ar [14,15] ?_
      refine Ae ?_
      refine QS.sel [2, 0, 3, 3] rfl ?_
      exact QS.head ((b7, x)) rfl rfl ⟨hxx, ux, hxok⟩
    ·
     refine Wl 0 zv68 (fun _ => rfl) (fun _ => rfl) fun b7 hb7 => ?_
     refine Wd (Qa ?_)
     refine Ao 1 rfl ?_
     refine Wc rfl rfl ent17 (fun u hu => CopyG_c G u (hG.st hu) hn) (fun _ => rfl) ?_; rintro c ⟨hcp, uc, hcok⟩
     have hnc := near_p hcp hn
     have o1 := Sl.one hcok.rm.pls
     have o2 := Sl.one hcok.rm.ths
     have o3 := Sl.one hcok.rm.prs
     have o4 := Sl.one hcok.rm.wys
     have o5 := Sl.one hcok.rm.acs
     have o6 := Sl.one hcok.rm.aus
     have o7 := Sl.one hcok.rm.gl
     have o8 := Sl.one hcok.lks
     have o9 := Sl.one hcok.cds
     have o10 := Sl.one hcok.nts
     refine Wd (Qa ?_)
     refine Ao 3 rfl ?_
     refine Wc rfl rfl ent29 (fun u hu => CopyPos_c p u (hp.toSt hu) hsm) (fun _ => rfl) ?_; rintro y ⟨hyx, uy, hyok⟩
     obtain ⟨hya, hyb, hyc⟩ := hyok.st.ones
     have hyd := Sl.one hyok.rd
     refine Wd (Qa ?_)
     refine Ao 6 rfl ?_
     refine WS.append0 (j := 3) (news := flatC cMove ms.l) (m := ms.l.length) sl70 zv91 rfl (by decide) rfl rfl rfl (fun u hu => (hk.st hu).sp) hone (by omega) (by omega) (fun _ => rfl) (fun _ => rfl) ?_; intro v32
     refine Wd (Qa ?_)
     refine Ao 7 rfl ?_
     refine Wc rfl rfl ent40 (fun u hu => (by have q := RunI_c c u (hu.ro (j := 1) rfl) g (hW.st hu) hnc y (hu.ro (j := 0) rfl) ⟨v32, ms.l⟩ ⟨osl_SlC hu (j := 3) rfl, fun _ _ ↦ trivial⟩; rw [hcp, hyx] at q; exact q)) (fun _ => rfl) ?_; rintro x ⟨hxx, ux, hxok⟩
     obtain ⟨hxa, hxb, hxc⟩ := hxok.st.ones
     have hxd := Sl.one hxok.rd
     refine Wd (Qa ?_)
     refine Ar [8,9,10,11] ?_
     refine Ao 13 rfl ?_
     refine Wv 0 3 ?_
     refine Wd (Qa ?_)
     refine Ar [14,15] ?_
     refine Ae ?_
     refine QS.sel [3, 0, 3, 3] rfl ?_
     exact QS.head ((b7, x)) rfl rfl ⟨hxx, ux, hxok⟩
   ·
    refine Wl 0 zv68 (fun _ => rfl) (fun _ => rfl) fun b7 hb7 => ?_
    refine Wd (Qa ?_)
    refine AS.two (i := 1) (j := 4) (by kernel_rfl) rfl rfl (by first | exact fun _ h => h | exact fun _ h => h.sub (by repeat first | exact List.Sublist.refl _ | apply List.Sublist.cons_cons | apply List.Sublist.cons)) rfl rfl ?_ ?_
    ·
     refine Wc rfl rfl ent17 (fun u hu => CopyG_c G u (hG.st hu) hn) (fun _ => rfl) ?_; rintro c ⟨hcp, uc, hcok⟩
     have hnc := near_p hcp hn
     have o1 := Sl.one hcok.rm.pls
     have o2 := Sl.one hcok.rm.ths
     have o3 := Sl.one hcok.rm.prs
     have o4 := Sl.one hcok.rm.wys
     have o5 := Sl.one hcok.rm.acs
     have o6 := Sl.one hcok.rm.aus
     have o7 := Sl.one hcok.rm.gl
     have o8 := Sl.one hcok.lks
     have o9 := Sl.one hcok.cds
     have o10 := Sl.one hcok.nts
     refine Wd (Qa ?_)
     refine AS.two (i := 3) (j := 4) (by kernel_rfl) rfl rfl (by first | exact fun _ h => h | exact fun _ h => h.sub (by repeat first | exact List.Sublist.refl _ | apply List.Sublist.cons_cons | apply List.Sublist.cons)) rfl rfl ?_ ?_
     ·
      refine Wc rfl rfl ent29 (fun u hu => CopyPos_c p u (hp.toSt hu) hsm) (fun _ => rfl) ?_; rintro y ⟨hyx, uy, hyok⟩
      obtain ⟨hya, hyb, hyc⟩ := hyok.st.ones
      have hyd := Sl.one hyok.rd
      refine Wd (Qa ?_)
      refine Ao 4 rfl ?_
      refine WS.build0 sl70 zv91 (fun _ => rfl) ?_; intro v30
      refine Wd (Qa ?_)
      refine Ao 6 rfl ?_
      refine WS.append0 (j := 0) (news := flatC cMove ms.l) (m := ms.l.length) sl70 zv91 rfl (by decide) rfl rfl rfl (fun u hu => (hk.st hu).sp) hone (by omega) (by omega) (fun _ => rfl) (fun _ => rfl) ?_; intro v32
      refine Wd (Qa ?_)
      refine Ao 7 rfl ?_
      refine Wc rfl rfl ent40 (fun u hu => (by have q := RunI_c c u (hu.ro (j := 2) rfl) g (hW.st hu) hnc y (hu.ro (j := 1) rfl) ⟨v32, ms.l⟩ ⟨osl_SlC hu (j := 0) rfl, fun _ _ ↦ trivial⟩; rw [hcp, hyx] at q; exact q)) (fun _ => rfl) ?_; rintro x ⟨hxx, ux, hxok⟩
      obtain ⟨hxa, hxb, hxc⟩ := hxok.st.ones
      have hxd := Sl.one hxok.rd
      refine Wd (Qa ?_)
      refine Ar [8,9,10,11] ?_
      refine Ao 13 rfl ?_
      refine Wv 0 4 ?_
      refine Wd (Qa ?_)
      refine Ar [14,15] ?_
      refine Ae ?_
      refine QS.sel [4, 0, 3, 3] rfl ?_
      exact QS.head ((b7, x)) rfl rfl ⟨hxx, ux, hxok⟩
     ·
      refine WS.build0 sl70 zv91 (fun _ => rfl) ?_; intro v30
      refine Wd (Qa ?_)
      refine Ao 3 rfl ?_
      refine Wc rfl rfl ent29 (fun u hu => CopyPos_c p u (hp.toSt hu) hsm) (fun _ => rfl) ?_; rintro y ⟨hyx, uy, hyok⟩
      obtain ⟨hya, hyb, hyc⟩ := hyok.st.ones
      have hyd := Sl.one hyok.rd
      refine Wd (Qa ?_)
      refine Ao 6 rfl ?_
      refine WS.append0 (j := 1) (news := flatC cMove ms.l) (m := ms.l.length) sl70 zv91 rfl (by decide) rfl rfl rfl (fun u hu => (hk.st hu).sp) hone (by omega) (by omega) (fun _ => rfl) (fun _ => rfl) ?_; intro v32
      refine Wd (Qa ?_)
      refine Ao 7 rfl ?_
      refine Wc rfl rfl ent40 (fun u hu => (by have q := RunI_c c u (hu.ro (j := 2) rfl) g (hW.st hu) hnc y (hu.ro (j := 0) rfl) ⟨v32, ms.l⟩ ⟨osl_SlC hu (j := 1) rfl, fun _ _ ↦ trivial⟩; rw [hcp, hyx] at q; exact q)) (fun _ => rfl) ?_; rintro x ⟨hxx, ux, hxok⟩
      obtain ⟨hxa, hxb, hxc⟩ := hxok.st.ones
      have hxd := Sl.one hxok.rd
      refine Wd (Qa ?_)
      refine Ar [8,9,10,11] ?_
      refine Ao 13 rfl ?_
      refine Wv 0 4 ?_
      refine Wd (Qa ?_)
      refine Ar [14,15] ?_
      refine Ae ?_
      refine QS.sel [4, 0, 3, 3] rfl ?_
      exact QS.head ((b7, x)) rfl rfl ⟨hxx, ux, hxok⟩
    ·
     refine WS.build0 sl70 zv91 (fun _ => rfl) ?_; intro v30
     refine Wd (Qa ?_)
     refine Ao 1 rfl ?_
     refine Wc rfl rfl ent17 (fun u hu => CopyG_c G u (hG.st hu) hn) (fun _ => rfl) ?_; rintro c ⟨hcp, uc, hcok⟩
     have hnc := near_p hcp hn
     have o1 := Sl.one hcok.rm.pls
     have o2 := Sl.one hcok.rm.ths
     have o3 := Sl.one hcok.rm.prs
     have o4 := Sl.one hcok.rm.wys
     have o5 := Sl.one hcok.rm.acs
     have o6 := Sl.one hcok.rm.aus
     have o7 := Sl.one hcok.rm.gl
     have o8 := Sl.one hcok.lks
     have o9 := Sl.one hcok.cds
     have o10 := Sl.one hcok.nts
     refine Wd (Qa ?_)
     refine Ao 3 rfl ?_
     refine Wc rfl rfl ent29 (fun u hu => CopyPos_c p u (hp.toSt hu) hsm) (fun _ => rfl) ?_; rintro y ⟨hyx, uy, hyok⟩
     obtain ⟨hya, hyb, hyc⟩ := hyok.st.ones
     have hyd := Sl.one hyok.rd
     refine Wd (Qa ?_)
     refine Ao 6 rfl ?_
     refine WS.append0 (j := 2) (news := flatC cMove ms.l) (m := ms.l.length) sl70 zv91 rfl (by decide) rfl rfl rfl (fun u hu => (hk.st hu).sp) hone (by omega) (by omega) (fun _ => rfl) (fun _ => rfl) ?_; intro v32
     refine Wd (Qa ?_)
     refine Ao 7 rfl ?_
     refine Wc rfl rfl ent40 (fun u hu => (by have q := RunI_c c u (hu.ro (j := 1) rfl) g (hW.st hu) hnc y (hu.ro (j := 0) rfl) ⟨v32, ms.l⟩ ⟨osl_SlC hu (j := 2) rfl, fun _ _ ↦ trivial⟩; rw [hcp, hyx] at q; exact q)) (fun _ => rfl) ?_; rintro x ⟨hxx, ux, hxok⟩
     obtain ⟨hxa, hxb, hxc⟩ := hxok.st.ones
     have hxd := Sl.one hxok.rd
     refine Wd (Qa ?_)
     refine Ar [8,9,10,11] ?_
     refine Ao 13 rfl ?_
     refine Wv 0 4 ?_
     refine Wd (Qa ?_)
     refine Ar [14,15] ?_
     refine Ae ?_
     refine QS.sel [4, 0, 3, 3] rfl ?_
     exact QS.head ((b7, x)) rfl rfl ⟨hxx, ux, hxok⟩
  ·
   intro s t hs
   obtain ⟨b7, x⟩ := s
   obtain ⟨hxx, ux, hxok⟩ := hs
   obtain ⟨hxa, hxb, hxc⟩ := hxok.st.ones
   have hxd := Sl.one hxok.rd
   refine Nz 0 ?_
   refine Wk 0 (by first | exact det_loadb0 (j := 3) rfl rfl tk36 | exact det_loadbN (j := 3) rfl rfl (by rfl) tk36 | exact det_loadwN rfl (by assumption) (by rfl) tk36 | exact det_loadbK (n := 12) (j := 3) rfl rfl rfl rfl tk36) ?_
   refine Wk 1 (by first | exact det_loadb0 (j := 2) rfl rfl tk68 | exact det_loadbN (j := 2) rfl rfl (by rfl) tk68 | exact det_loadwN rfl (by assumption) (by rfl) tk68 | exact det_loadbK (n := 4) (j := 2) rfl rfl rfl rfl tk68) ?_
   refine Wc rfl rfl ent41 (fun u hu => RunR_c G u (hG.st hu) hn p (hp.toSt hu) ms (hk.st hu)) (fun _ => rfl) ?_; rintro x2 ⟨hx2x, ux2, hx2ok⟩
   obtain ⟨hx2a, hx2b, hx2c⟩ := hx2ok.st.ones
   have hx2d := Sl.one hx2ok.rd
   refine Wz 4 ?_
   refine Wl 0 zv68 (fun _ => rfl) (fun _ => rfl) fun b10 hb10 => ?_
   refine Wv 2 0 ?_
   refine Wd (Qc (Nz 0 ?_))
   refine Wk 0 (by first | exact det_loadb0 (j := 0) rfl rfl tk68 | exact det_loadb0 (j := 1) rfl rfl tk68 | exact det_loadb0 (j := 2) rfl rfl tk68 | exact det_loadb0 (j := 3) rfl rfl tk68 | exact det_loadb0 (j := 4) rfl rfl tk68 | exact det_loadb0 (j := 5) rfl rfl tk68 | exact det_loadb0 (j := 6) rfl rfl tk68 | exact det_loadb0 (j := 7) rfl rfl tk68 | exact det_loadb0 (j := 8) rfl rfl tk68 | exact det_loadb0 (j := 9) rfl rfl tk68 | exact det_loadb0 (j := 10) rfl rfl tk68 | exact det_loadb0 (j := 11) rfl rfl tk68 | exact det_loadbN (j := 0) rfl rfl (by rfl) tk68 | exact det_loadbN (j := 1) rfl rfl (by rfl) tk68 | exact det_loadbN (j := 2) rfl rfl (by rfl) tk68 | exact det_loadbN (j := 3) rfl rfl (by rfl) tk68 | exact det_loadbN (j := 4) rfl rfl (by rfl) tk68 | exact det_loadbN (j := 5) rfl rfl (by rfl) tk68 | exact det_loadbN (j := 6) rfl rfl (by rfl) tk68 | exact det_loadbN (j := 7) rfl rfl (by rfl) tk68 | exact det_loadbN (j := 8) rfl rfl (by rfl) tk68 | exact det_loadbN (j := 9) rfl rfl (by rfl) tk68 | exact det_loadbN (j := 10) rfl rfl (by rfl) tk68 | exact det_loadbN (j := 11) rfl rfl (by rfl) tk68 | exact det_loadwN rfl (by assumption) (by rfl) tk68 | exact det_loadbK (n := 4) (j := 0) rfl rfl rfl rfl tk68 | exact det_loadbK (n := 4) (j := 1) rfl rfl rfl rfl tk68 | exact det_loadbK (n := 4) (j := 2) rfl rfl rfl rfl tk68 | exact det_loadbK (n := 4) (j := 3) rfl rfl rfl rfl tk68 | exact det_loadbK (n := 4) (j := 4) rfl rfl rfl rfl tk68 | exact det_loadbK (n := 4) (j := 5) rfl rfl rfl rfl tk68 | exact det_loadbK (n := 4) (j := 6) rfl rfl rfl rfl tk68 | exact det_loadbK (n := 4) (j := 7) rfl rfl rfl rfl tk68 | exact det_loadbK (n := 4) (j := 8) rfl rfl rfl rfl tk68 | exact det_loadbK (n := 4) (j := 9) rfl rfl rfl rfl tk68 | exact det_loadbK (n := 4) (j := 10) rfl rfl rfl rfl tk68 | exact det_loadbK (n := 4) (j := 11) rfl rfl rfl rfl tk68) ?_
   refine Wk 0 (by first | exact det_loadb0 (j := 0) rfl rfl tk68 | exact det_loadbN (j := 0) rfl rfl (by rfl) tk68 | exact det_loadwN rfl (by assumption) (by rfl) tk68 | exact det_loadbK (n := 4) (j := 0) rfl rfl rfl rfl tk68) ?_
   refine Wk 1 (Cb rfl rfl ent42 (fun u hu => SamePT_c x x2 u (hu.ro (j := 3) rfl) (hu.ro (j := 1) rfl) (hxx.trans hx2x.symm))) ?_
   refine Wt 0 rfl rfl (fun hg => Fm) ?_
   refine Wt 0 rfl rfl (fun hg => Fm) ?_
   refine Wt 0 rfl rfl (fun hg => Fq) ?_
   refine Wk 1 Pa ?_
   refine Wt 0 rfl rfl (fun hg => Fm) ?_
   refine Wt 0 rfl rfl (fun hg => Fm) ?_
   refine Wt 0 rfl rfl (fun hg => Fq) ?_
   refine Wk 1 Pa ?_
   refine Wt 0 rfl rfl (fun hg => Cb rfl rfl ent27 (fun u hu => worksG_c u g (hW.st hu))) ?_
   refine Wk 1 Pa ?_
   exact Wd (Qc (Cr (out1 rfl rfl (retBe (by simp)))))
end Go.Proofs.YtaeagngfhceceaaGreatDoor
