/- Contracts of functions, printed by a program of the prover (gen.py). -/
import Derived.Test.YtaeagngfhceceaaGreatDoorZv
import Derived.Test.YtaeagngfhceceaaGreatDoorZw
import Derived.Test.YtaeagngfhceceaaGreatDoorY0
import Derived.Test.YtaeagngfhceceaaGreatDoorY1
import Derived.Test.YtaeagngfhceceaaGreatDoorY2
import Derived.Test.YtaeagngfhceceaaGreatDoorY3
import Derived.Test.YtaeagngfhceceaaGreatDoorY4
import Derived.Test.YtaeagngfhceceaaGreatDoorY5
import Derived.Test.YtaeagngfhceceaaGreatDoorY6
import Derived.Test.YtaeagngfhceceaaGreatDoorY7
import Derived.Test.YtaeagngfhceceaaGreatDoorY8
import Derived.Test.YtaeagngfhceceaaGreatDoorY9
import Derived.Test.YtaeagngfhceceaaGreatDoorY10
import Derived.Test.YtaeagngfhceceaaGreatDoorY12
import Derived.Test.YtaeagngfhceceaaGreatDoorY13
import Derived.Test.YtaeagngfhceceaaGreatDoorY15
import Derived.Test.YtaeagngfhceceaaGreatDoorY18
import Derived.Test.YtaeagngfhceceaaGreatDoorY19
import Derived.Test.YtaeagngfhceceaaGreatDoorY28
import Derived.Test.YtaeagngfhceceaaGreatDoorY30
import Derived.Test.YtaeagngfhceceaaGreatDoorY40
set_option maxHeartbeats 8000000
namespace Go.Proofs.YtaeagngfhceceaaGreatDoor
open Go.RowKit Go.Proofs
set_option maxRecDepth 100000
set_option linter.unusedVariables false
set_option linter.unusedSimpArgs false
theorem PlaySteps_c (G : Game) (w : World) (hG : GameOk w G) (g : Sl ByteArray) (hW : GOk w g) (p : Pos) (hp : PosOk w p) (m : Move) :
  Calls Tryz.prog 10 #[.agg #[G.rm.pls.v, G.rm.ths.v, G.rm.prs.v, G.rm.wys.v, G.rm.acs.v, G.rm.aus.v, .int .i64 G.rm.ply, G.rm.gl.v, G.lks.v, G.cds.v, G.nts.v, .int .i64 G.tr], .agg #[p.st.ths.v, p.st.prs.v, p.st.pls.v, p.rd.v], .agg #[.int .i64 m.p, .int .i64 m.k, .int .i64 m.n]] w (RetB w (.bool true)) := by
 refine enter Tryz.func10 rfl rfl (Nat.le_of_ble_eq_true rfl) ?_
 refine Nz 0 ?_
 refine Wb 0 rfl rfl (fun _ => rfl) (fun _ => rfl) fun b3 hb3 => ?_
 refine Wb 0 rfl rfl (fun _ => rfl) (fun _ => rfl) fun b4 hb4 => ?_
 refine Wb 1 rfl rfl (fun _ => rfl) (fun _ => rfl) fun b5 hb5 => ?_
 refine Wd (Qc (Cs (Nz 0 ?_)))
 refine Wk 0 (by first | exact det_loadb0 (j := 2) rfl rfl tk36 | exact det_loadbN (j := 2) rfl rfl (by rfl) tk36 | exact det_loadwN rfl (by assumption) (by rfl) tk36 | exact det_loadbK (n := 12) (j := 2) rfl rfl rfl rfl tk36) ?_
 refine Wk 1 (Cb rfl rfl ent14 (fun u hu => FarG_c G u (hG.st hu))) ?_
 refine Wf 0 rfl rfl (fun hg => by first | exact det_loadb0 (j := 1) rfl rfl tk68 | exact det_loadbN (j := 1) rfl rfl (by rfl) tk68 | exact det_loadwN rfl (by assumption) (by rfl) tk68 | exact det_loadbK (n := 4) (j := 1) rfl rfl rfl rfl tk68) ?_
 refine Wf 0 rfl rfl (fun hg => Cb rfl (ec_ (eg_ hg rfl) en_) ent26 (fun u hu => AwayG_c p u (hp.toSt hu))) ?_
 refine Wk 0 Po ?_
 refine Wd (Qc (CS.cond rfl ?_ ?_))<;>intro hc1<;>try simp only [bq] at hc1
 ·
  refine Nz 0 ?_
  refine Wk 1 (Cb rfl rfl ent27 (fun u hu => worksG_c u g (hW.st hu))) ?_
  exact Wd (Qc (Cr (Qr (out1 rfl rfl retB))))
 ·
  have hn : NearG G := clB_iff.1 hc1.1
  have hsm : (p.st.ths.l.length ≤ 1000000 ∧ p.st.prs.l.length ≤ 1000000 ∧ p.st.pls.l.length ≤ 1000000) ∧ p.rd.l.length ≤ 1000000 := by have := hc1.2; grind
  refine Ck (Qc (Nz 0 ?_))
  refine Wk 0 (by first | exact det_loadb0 (j := 1) rfl rfl tk68 | exact det_loadbN (j := 1) rfl rfl (by rfl) tk68 | exact det_loadwN rfl (by assumption) (by rfl) tk68 | exact det_loadbK (n := 4) (j := 1) rfl rfl rfl rfl tk68) ?_
  refine Wc rfl rfl ent29 (fun u hu => CopyPos_c p u (hp.toSt hu) hsm) (fun _ => rfl) ?_; rintro y ⟨hyx, uy, hyok⟩
  obtain ⟨hya, hyb, hyc⟩ := hyok.st.ones
  have hyd := Sl.one hyok.rd
  refine Wl 0 zv68 (fun _ => rfl) (fun _ => rfl) fun b7 hb7 => ?_
  refine Wv 0 0 ?_
  refine Wd (Qc (Cs ?_))
  refine CS.drawnAll (k := 11) mixed rfl rfl ?_
  refine Ak 0 [] rfl (by first | exact det_loadb0 (j := 4) rfl rfl tk36 | exact det_loadbN (j := 4) rfl rfl (by rfl) tk36 | exact det_loadwN rfl (by assumption) (by rfl) tk36 | exact det_loadbK (n := 12) (j := 4) rfl rfl rfl rfl tk36) ?_
  refine Ak 2 [] rfl (by first | exact det_loadb0 (j := 0) rfl rfl tk68 | exact det_loadbN (j := 0) rfl rfl (by rfl) tk68 | exact det_loadwN rfl (by assumption) (by rfl) tk68 | exact det_loadbK (n := 4) (j := 0) rfl rfl rfl rfl tk68) ?_
  refine Ak 3 [] rfl (by first | exact det_loadb0 (j := 2) rfl rfl tk91 | exact det_loadbN (j := 2) rfl rfl (by rfl) tk91 | exact det_loadwN rfl (by assumption) (by rfl) tk91 | exact det_loadbK (n := 3) (j := 2) rfl rfl rfl rfl tk91) ?_
  refine AS.two (i := 1) (j := 8) (by kernel_rfl) rfl rfl (by first | exact fun _ h => h | exact fun _ h => h.sub (by repeat first | exact List.Sublist.refl _ | apply List.Sublist.cons_cons | apply List.Sublist.cons)) rfl rfl ?_ ?_
  ·
   refine Wc rfl rfl ent17 (fun u hu => CopyG_c G u (hG.st hu) hn) (fun _ => rfl) ?_; rintro c ⟨hcp, uc, hcok⟩
   have hnc := near_p hcp hn
   have o1 := Sl.one hcok.rm.pls
   have o2 := Sl.one hcok.rm.ths
   have o3 := Sl.one hcok.rm.prs
   have o4 := Sl.one hcok.rm.wys
   have o5 := Sl.one hcok.rm.acs
   have o6 := Sl.one hcok.rm.aus
   have o7 := Sl.one hcok.rm.gl
   have o8 := Sl.one hcok.lks
   have o9 := Sl.one hcok.cds
   have o10 := Sl.one hcok.nts
   refine Wd (Qa ?_)
   refine AS.two (i := 4) (j := 8) (by kernel_rfl) rfl rfl (by first | exact fun _ h => h | exact fun _ h => h.sub (by repeat first | exact List.Sublist.refl _ | apply List.Sublist.cons_cons | apply List.Sublist.cons)) rfl rfl ?_ ?_
   ·
    refine Wc rfl rfl ent48 (fun u hu => (by have q := StepI_c c u (hu.ro (j := 0) rfl) g (hW.st hu) hnc y (hu.ro (j := 2) rfl) m; rw [hcp, hyx] at q; exact q)) (fun _ => rfl) ?_; rintro x ⟨hxx, ux, hxok⟩
    obtain ⟨hxa, hxb, hxc⟩ := hxok.st.ones
    have hxd := Sl.one hxok.rd
    refine Wd (Qa ?_)
    refine Ar [5,6,7] ?_
    refine Ao 8 rfl ?_
    refine Wl 0 zv68 (fun _ => rfl) (fun _ => rfl) fun b8 hb8 => ?_
    refine Wd (Qa ?_)
    refine Ao 9 rfl ?_
    refine Wv 0 0 ?_
    refine Wd (Qa ?_)
    refine Ar [10] ?_
    refine Ae ?_
    refine Qc (Nz 0 ?_)
    refine Wk 0 (by first | exact det_loadb0 (j := 7) rfl rfl tk36 | exact det_loadbN (j := 7) rfl rfl (by rfl) tk36 | exact det_loadwN rfl (by assumption) (by rfl) tk36 | exact det_loadbK (n := 12) (j := 7) rfl rfl rfl rfl tk36) ?_
    refine Wk 0 (by first | exact det_loadb0 (j := 6) rfl rfl tk68 | exact det_loadbN (j := 6) rfl rfl (by rfl) tk68 | exact det_loadwN rfl (by assumption) (by rfl) tk68 | exact det_loadbK (n := 4) (j := 6) rfl rfl rfl rfl tk68) ?_
    refine Wk 0 (by first | exact det_loadb0 (j := 5) rfl rfl tk91 | exact det_loadbN (j := 5) rfl rfl (by rfl) tk91 | exact det_loadwN rfl (by assumption) (by rfl) tk91 | exact det_loadbK (n := 3) (j := 5) rfl rfl rfl rfl tk91) ?_
    refine Wc rfl rfl ent49 (fun u hu => StepR_c G u (hG.st hu) hn p (hp.toSt hu) m) (fun _ => rfl) ?_; rintro x2 ⟨hx2x, ux2, hx2ok⟩
    obtain ⟨hx2a, hx2b, hx2c⟩ := hx2ok.st.ones
    have hx2d := Sl.one hx2ok.rd
    refine Wz 3 ?_
    refine Wl 0 zv68 (fun _ => rfl) (fun _ => rfl) fun b10 hb10 => ?_
    refine Wv 1 0 ?_
    refine Wd (Qc (Cs ?_))
    refine CS.drawnAll (k := 10) mixed rfl rfl ?_
    refine Ak 0 [] rfl (by first | exact det_loadb0 (j := 9) rfl rfl tk36 | exact det_loadbN (j := 9) rfl rfl (by rfl) tk36 | exact det_loadwN rfl (by assumption) (by rfl) tk36 | exact det_loadbK (n := 12) (j := 9) rfl rfl rfl rfl tk36) ?_
    refine Ak 2 [] rfl (by first | exact det_loadb0 (j := 5) rfl rfl tk68 | exact det_loadbN (j := 5) rfl rfl (by rfl) tk68 | exact det_loadwN rfl (by assumption) (by rfl) tk68 | exact det_loadbK (n := 4) (j := 5) rfl rfl rfl rfl tk68) ?_
    refine Ak 3 [] rfl (by first | exact det_loadb0 (j := 7) rfl rfl tk91 | exact det_loadbN (j := 7) rfl rfl (by rfl) tk91 | exact det_loadwN rfl (by assumption) (by rfl) tk91 | exact det_loadbK (n := 3) (j := 7) rfl rfl rfl rfl tk91) ?_
    refine Ao 1 rfl ?_
    refine Wc rfl rfl ent17 (fun u hu => CopyG_c G u (hG.st hu) hn) (fun _ => rfl) ?_; rintro c ⟨hcp, uc, hcok⟩
    have hnc := near_p hcp hn
    have o1 := Sl.one hcok.rm.pls
    have o2 := Sl.one hcok.rm.ths
    have o3 := Sl.one hcok.rm.prs
    have o4 := Sl.one hcok.rm.wys
    have o5 := Sl.one hcok.rm.acs
    have o6 := Sl.one hcok.rm.aus
    have o7 := Sl.one hcok.rm.gl
    have o8 := Sl.one hcok.lks
    have o9 := Sl.one hcok.cds
    have o10 := Sl.one hcok.nts
    refine Wd (Qa ?_)
    refine Ao 4 rfl ?_
    refine Wc rfl rfl ent50 (fun u hu => (by have q := ReadsI_c c u (hu.ro (j := 0) rfl) g (hW.st hu) hnc y (hu.ro (j := 7) rfl) m; rw [hcp, hyx] at q; exact q)) (fun _ => rfl) ?_; rintro l ⟨ul, hl⟩
    refine Wd (Qa ?_)
    refine Ar [5,6,7,8,9] ?_
    refine Ae ?_
    refine Qc (Nz 0 ?_)
    refine Wk 0 (by first | exact det_loadb0 (j := 11) rfl rfl tk36 | exact det_loadbN (j := 11) rfl rfl (by rfl) tk36 | exact det_loadwN rfl (by assumption) (by rfl) tk36 | exact det_loadbK (n := 12) (j := 11) rfl rfl rfl rfl tk36) ?_
    refine Wk 0 (by first | exact det_loadb0 (j := 10) rfl rfl tk68 | exact det_loadbN (j := 10) rfl rfl (by rfl) tk68 | exact det_loadwN rfl (by assumption) (by rfl) tk68 | exact det_loadbK (n := 4) (j := 10) rfl rfl rfl rfl tk68) ?_
    refine Wk 0 (by first | exact det_loadb0 (j := 9) rfl rfl tk91 | exact det_loadbN (j := 9) rfl rfl (by rfl) tk91 | exact det_loadwN rfl (by assumption) (by rfl) tk91 | exact det_loadbK (n := 3) (j := 9) rfl rfl rfl rfl tk91) ?_
    refine Wc rfl rfl ent51 (fun u hu => ReadsR_c G u (hG.st hu) hn p (hp.toSt hu) m) (fun _ => rfl) ?_; rintro l2 ⟨ul2, hl2⟩
    refine Wz 5 ?_
    refine Wd (Qc (Nz 0 ?_))
    refine Wk 0 (by first | exact det_loadb0 (j := 5) rfl rfl tk68 | exact det_loadbN (j := 5) rfl rfl (by rfl) tk68 | exact det_loadwN rfl (by assumption) (by rfl) tk68 | exact det_loadbK (n := 4) (j := 5) rfl rfl rfl rfl tk68) ?_
    refine Wk 0 (by first | exact det_loadb0 (j := 3) rfl rfl tk68 | exact det_loadbN (j := 3) rfl rfl (by rfl) tk68 | exact det_loadwN rfl (by assumption) (by rfl) tk68 | exact det_loadbK (n := 4) (j := 3) rfl rfl rfl rfl tk68) ?_
    refine Wk 1 (Cb rfl rfl ent42 (fun u hu => SamePT_c x x2 u (hu.ro (j := 6) rfl) (hu.ro (j := 4) rfl) (hxx.trans hx2x.symm))) ?_
    refine Wt 0 rfl rfl (fun hg => Fm) ?_
    refine Wt 0 rfl rfl (fun hg => Fm) ?_
    refine Wt 0 rfl rfl (fun hg => Fq) ?_
    refine Wk 1 Pa ?_
    refine Wt 0 rfl rfl (fun hg => Fm) ?_
    refine Wt 0 rfl rfl (fun hg => Fm) ?_
    refine Wt 0 rfl rfl (fun hg => Cb rfl (ec_ (eg_ hg rfl) (ec_ (eg_ hg rfl) en_)) ent36 (fun u hu => SameInts_c _ _ _ _ u (hu.ro (j := 1) rfl) (hu.ro (j := 0) rfl))) ?_
    refine Wk 1 Pa ?_
    refine Wt 0 rfl rfl (fun hg => Fm) ?_
    refine Wt 0 rfl rfl (fun hg => Fm) ?_
    refine Wt 0 rfl rfl (fun hg => Fq) ?_
    refine Wk 1 Pa ?_
    refine Wt 0 rfl rfl (fun hg => by first | exact det_loadb0 (j := 8) rfl rfl tk68 | exact det_loadbN (j := 8) rfl rfl (by rfl) tk68 | exact det_loadwN rfl (by assumption) (by rfl) tk68 | exact det_loadbK (n := 4) (j := 8) rfl rfl rfl rfl tk68) ?_
    refine Wt 0 rfl rfl (fun hg => by first | exact det_loadb0 (j := 11) rfl rfl tk68 | exact det_loadbN (j := 11) rfl rfl (by rfl) tk68 | exact det_loadwN rfl (by assumption) (by rfl) tk68 | exact det_loadbK (n := 4) (j := 11) rfl rfl rfl rfl tk68) ?_
    refine Wt 0 rfl rfl (fun hg => Cb rfl (ec_ (eg_ hg rfl) (ec_ (eg_ hg rfl) en_)) ent42 (fun u hu => SamePT_c y p u (hu.ro (j := 9) rfl) (hp.toSt hu) hyx)) ?_
    refine Wk 1 Pa ?_
    refine Wt 0 rfl rfl (fun hg => Cb rfl rfl ent27 (fun u hu => worksG_c u g (hW.st hu))) ?_
    refine Wk 1 Pa ?_
    exact Wd (Qc (Cr (out1 rfl rfl (retBe (by simp)))))
   ·
    refine Wl 0 zv68 (fun _ => rfl) (fun _ => rfl) fun b8 hb8 => ?_
    refine Wd (Qa ?_)
    refine Ao 4 rfl ?_
    refine Wc rfl rfl ent48 (fun u hu => (by have q := StepI_c c u (hu.ro (j := 1) rfl) g (hW.st hu) hnc y (hu.ro (j := 3) rfl) m; rw [hcp, hyx] at q; exact q)) (fun _ => rfl) ?_; rintro x ⟨hxx, ux, hxok⟩
    obtain ⟨hxa, hxb, hxc⟩ := hxok.st.ones
    have hxd := Sl.one hxok.rd
    refine Wd (Qa ?_)
    refine Ar [5,6,7] ?_
    refine Ao 9 rfl ?_
    refine Wv 0 1 ?_
    refine Wd (Qa ?_)
    refine Ar [10] ?_
    refine Ae ?_
    refine Qc (Nz 0 ?_)
    refine Wk 0 (by first | exact det_loadb0 (j := 7) rfl rfl tk36 | exact det_loadbN (j := 7) rfl rfl (by rfl) tk36 | exact det_loadwN rfl (by assumption) (by rfl) tk36 | exact det_loadbK (n := 12) (j := 7) rfl rfl rfl rfl tk36) ?_
    refine Wk 0 (by first | exact det_loadb0 (j := 6) rfl rfl tk68 | exact det_loadbN (j := 6) rfl rfl (by rfl) tk68 | exact det_loadwN rfl (by assumption) (by rfl) tk68 | exact det_loadbK (n := 4) (j := 6) rfl rfl rfl rfl tk68) ?_
    refine Wk 0 (by first | exact det_loadb0 (j := 5) rfl rfl tk91 | exact det_loadbN (j := 5) rfl rfl (by rfl) tk91 | exact det_loadwN rfl (by assumption) (by rfl) tk91 | exact det_loadbK (n := 3) (j := 5) rfl rfl rfl rfl tk91) ?_
    refine Wc rfl rfl ent49 (fun u hu => StepR_c G u (hG.st hu) hn p (hp.toSt hu) m) (fun _ => rfl) ?_; rintro x2 ⟨hx2x, ux2, hx2ok⟩
    obtain ⟨hx2a, hx2b, hx2c⟩ := hx2ok.st.ones
    have hx2d := Sl.one hx2ok.rd
    refine Wz 3 ?_
    refine Wl 0 zv68 (fun _ => rfl) (fun _ => rfl) fun b10 hb10 => ?_
    refine Wv 1 0 ?_
    refine Wd (Qc (Cs ?_))
    refine CS.drawnAll (k := 10) mixed rfl rfl ?_
    refine Ak 0 [] rfl (by first | exact det_loadb0 (j := 9) rfl rfl tk36 | exact det_loadbN (j := 9) rfl rfl (by rfl) tk36 | exact det_loadwN rfl (by assumption) (by rfl) tk36 | exact det_loadbK (n := 12) (j := 9) rfl rfl rfl rfl tk36) ?_
    refine Ak 2 [] rfl (by first | exact det_loadb0 (j := 5) rfl rfl tk68 | exact det_loadbN (j := 5) rfl rfl (by rfl) tk68 | exact det_loadwN rfl (by assumption) (by rfl) tk68 | exact det_loadbK (n := 4) (j := 5) rfl rfl rfl rfl tk68) ?_
    refine Ak 3 [] rfl (by first | exact det_loadb0 (j := 7) rfl rfl tk91 | exact det_loadbN (j := 7) rfl rfl (by rfl) tk91 | exact det_loadwN rfl (by assumption) (by rfl) tk91 | exact det_loadbK (n := 3) (j := 7) rfl rfl rfl rfl tk91) ?_
    refine Ao 1 rfl ?_
    refine Wc rfl rfl ent17 (fun u hu => CopyG_c G u (hG.st hu) hn) (fun _ => rfl) ?_; rintro c ⟨hcp, uc, hcok⟩
    have hnc := near_p hcp hn
    have o1 := Sl.one hcok.rm.pls
    have o2 := Sl.one hcok.rm.ths
    have o3 := Sl.one hcok.rm.prs
    have o4 := Sl.one hcok.rm.wys
    have o5 := Sl.one hcok.rm.acs
    have o6 := Sl.one hcok.rm.aus
    have o7 := Sl.one hcok.rm.gl
    have o8 := Sl.one hcok.lks
    have o9 := Sl.one hcok.cds
    have o10 := Sl.one hcok.nts
    refine Wd (Qa ?_)
    refine Ao 4 rfl ?_
    refine Wc rfl rfl ent50 (fun u hu => (by have q := ReadsI_c c u (hu.ro (j := 0) rfl) g (hW.st hu) hnc y (hu.ro (j := 7) rfl) m; rw [hcp, hyx] at q; exact q)) (fun _ => rfl) ?_; rintro l ⟨ul, hl⟩
    refine Wd (Qa ?_)
    refine Ar [5,6,7,8,9] ?_
    refine Ae ?_
    refine Qc (Nz 0 ?_)
    refine Wk 0 (by first | exact det_loadb0 (j := 11) rfl rfl tk36 | exact det_loadbN (j := 11) rfl rfl (by rfl) tk36 | exact det_loadwN rfl (by assumption) (by rfl) tk36 | exact det_loadbK (n := 12) (j := 11) rfl rfl rfl rfl tk36) ?_
    refine Wk 0 (by first | exact det_loadb0 (j := 10) rfl rfl tk68 | exact det_loadbN (j := 10) rfl rfl (by rfl) tk68 | exact det_loadwN rfl (by assumption) (by rfl) tk68 | exact det_loadbK (n := 4) (j := 10) rfl rfl rfl rfl tk68) ?_
    refine Wk 0 (by first | exact det_loadb0 (j := 9) rfl rfl tk91 | exact det_loadbN (j := 9) rfl rfl (by rfl) tk91 | exact det_loadwN rfl (by assumption) (by rfl) tk91 | exact det_loadbK (n := 3) (j := 9) rfl rfl rfl rfl tk91) ?_
    refine Wc rfl rfl ent51 (fun u hu => ReadsR_c G u (hG.st hu) hn p (hp.toSt hu) m) (fun _ => rfl) ?_; rintro l2 ⟨ul2, hl2⟩
    refine Wz 5 ?_
    refine Wd (Qc (Nz 0 ?_))
    refine Wk 0 (by first | exact det_loadb0 (j := 6) rfl rfl tk68 | exact det_loadbN (j := 6) rfl rfl (by rfl) tk68 | exact det_loadwN rfl (by assumption) (by rfl) tk68 | exact det_loadbK (n := 4) (j := 6) rfl rfl rfl rfl tk68) ?_
    refine Wk 0 (by first | exact det_loadb0 (j := 3) rfl rfl tk68 | exact det_loadbN (j := 3) rfl rfl (by rfl) tk68 | exact det_loadwN rfl (by assumption) (by rfl) tk68 | exact det_loadbK (n := 4) (j := 3) rfl rfl rfl rfl tk68) ?_
    refine Wk 1 (Cb rfl rfl ent42 (fun u hu => SamePT_c x x2 u (hu.ro (j := 5) rfl) (hu.ro (j := 4) rfl) (hxx.trans hx2x.symm))) ?_
    refine Wt 0 rfl rfl (fun hg => Fm) ?_
    refine Wt 0 rfl rfl (fun hg => Fm) ?_
    refine Wt 0 rfl rfl (fun hg => Fq) ?_
    refine Wk 1 Pa ?_
    refine Wt 0 rfl rfl (fun hg => Fm) ?_
    refine Wt 0 rfl rfl (fun hg => Fm) ?_
    refine Wt 0 rfl rfl (fun hg => Cb rfl (ec_ (eg_ hg rfl) (ec_ (eg_ hg rfl) en_)) ent36 (fun u hu => SameInts_c _ _ _ _ u (hu.ro (j := 1) rfl) (hu.ro (j := 0) rfl))) ?_
    refine Wk 1 Pa ?_
    refine Wt 0 rfl rfl (fun hg => Fm) ?_
    refine Wt 0 rfl rfl (fun hg => Fm) ?_
    refine Wt 0 rfl rfl (fun hg => Fq) ?_
    refine Wk 1 Pa ?_
    refine Wt 0 rfl rfl (fun hg => by first | exact det_loadb0 (j := 8) rfl rfl tk68 | exact det_loadbN (j := 8) rfl rfl (by rfl) tk68 | exact det_loadwN rfl (by assumption) (by rfl) tk68 | exact det_loadbK (n := 4) (j := 8) rfl rfl rfl rfl tk68) ?_
    refine Wt 0 rfl rfl (fun hg => by first | exact det_loadb0 (j := 11) rfl rfl tk68 | exact det_loadbN (j := 11) rfl rfl (by rfl) tk68 | exact det_loadwN rfl (by assumption) (by rfl) tk68 | exact det_loadbK (n := 4) (j := 11) rfl rfl rfl rfl tk68) ?_
    refine Wt 0 rfl rfl (fun hg => Cb rfl (ec_ (eg_ hg rfl) (ec_ (eg_ hg rfl) en_)) ent42 (fun u hu => SamePT_c y p u (hu.ro (j := 9) rfl) (hp.toSt hu) hyx)) ?_
    refine Wk 1 Pa ?_
    refine Wt 0 rfl rfl (fun hg => Cb rfl rfl ent27 (fun u hu => worksG_c u g (hW.st hu))) ?_
    refine Wk 1 Pa ?_
    exact Wd (Qc (Cr (out1 rfl rfl (retBe (by simp)))))
  ·
   refine Wl 0 zv68 (fun _ => rfl) (fun _ => rfl) fun b8 hb8 => ?_
   refine Wd (Qa ?_)
   refine Ao 1 rfl ?_
   refine Wc rfl rfl ent17 (fun u hu => CopyG_c G u (hG.st hu) hn) (fun _ => rfl) ?_; rintro c ⟨hcp, uc, hcok⟩
   have hnc := near_p hcp hn
   have o1 := Sl.one hcok.rm.pls
   have o2 := Sl.one hcok.rm.ths
   have o3 := Sl.one hcok.rm.prs
   have o4 := Sl.one hcok.rm.wys
   have o5 := Sl.one hcok.rm.acs
   have o6 := Sl.one hcok.rm.aus
   have o7 := Sl.one hcok.rm.gl
   have o8 := Sl.one hcok.lks
   have o9 := Sl.one hcok.cds
   have o10 := Sl.one hcok.nts
   refine Wd (Qa ?_)
   refine Ao 4 rfl ?_
   refine Wc rfl rfl ent48 (fun u hu => (by have q := StepI_c c u (hu.ro (j := 0) rfl) g (hW.st hu) hnc y (hu.ro (j := 3) rfl) m; rw [hcp, hyx] at q; exact q)) (fun _ => rfl) ?_; rintro x ⟨hxx, ux, hxok⟩
   obtain ⟨hxa, hxb, hxc⟩ := hxok.st.ones
   have hxd := Sl.one hxok.rd
   refine Wd (Qa ?_)
   refine Ar [5,6,7] ?_
   refine Ao 9 rfl ?_
   refine Wv 0 2 ?_
   refine Wd (Qa ?_)
   refine Ar [10] ?_
   refine Ae ?_
   refine Qc (Nz 0 ?_)
   refine Wk 0 (by first | exact det_loadb0 (j := 7) rfl rfl tk36 | exact det_loadbN (j := 7) rfl rfl (by rfl) tk36 | exact det_loadwN rfl (by assumption) (by rfl) tk36 | exact det_loadbK (n := 12) (j := 7) rfl rfl rfl rfl tk36) ?_
   refine Wk 0 (by first | exact det_loadb0 (j := 6) rfl rfl tk68 | exact det_loadbN (j := 6) rfl rfl (by rfl) tk68 | exact det_loadwN rfl (by assumption) (by rfl) tk68 | exact det_loadbK (n := 4) (j := 6) rfl rfl rfl rfl tk68) ?_
   refine Wk 0 (by first | exact det_loadb0 (j := 5) rfl rfl tk91 | exact det_loadbN (j := 5) rfl rfl (by rfl) tk91 | exact det_loadwN rfl (by assumption) (by rfl) tk91 | exact det_loadbK (n := 3) (j := 5) rfl rfl rfl rfl tk91) ?_
   refine Wc rfl rfl ent49 (fun u hu => StepR_c G u (hG.st hu) hn p (hp.toSt hu) m) (fun _ => rfl) ?_; rintro x2 ⟨hx2x, ux2, hx2ok⟩
   obtain ⟨hx2a, hx2b, hx2c⟩ := hx2ok.st.ones
   have hx2d := Sl.one hx2ok.rd
   refine Wz 3 ?_
   refine Wl 0 zv68 (fun _ => rfl) (fun _ => rfl) fun b10 hb10 => ?_
   refine Wv 1 0 ?_
   refine Wd (Qc (Cs ?_))
   refine CS.drawnAll (k := 10) mixed rfl rfl ?_
   refine Ak 0 [] rfl (by first | exact det_loadb0 (j := 9) rfl rfl tk36 | exact det_loadbN (j := 9) rfl rfl (by rfl) tk36 | exact det_loadwN rfl (by assumption) (by rfl) tk36 | exact det_loadbK (n := 12) (j := 9) rfl rfl rfl rfl tk36) ?_
   refine Ak 2 [] rfl (by first | exact det_loadb0 (j := 5) rfl rfl tk68 | exact det_loadbN (j := 5) rfl rfl (by rfl) tk68 | exact det_loadwN rfl (by assumption) (by rfl) tk68 | exact det_loadbK (n := 4) (j := 5) rfl rfl rfl rfl tk68) ?_
   refine Ak 3 [] rfl (by first | exact det_loadb0 (j := 7) rfl rfl tk91 | exact det_loadbN (j := 7) rfl rfl (by rfl) tk91 | exact det_loadwN rfl (by assumption) (by rfl) tk91 | exact det_loadbK (n := 3) (j := 7) rfl rfl rfl rfl tk91) ?_
   refine Ao 1 rfl ?_
   refine Wc rfl rfl ent17 (fun u hu => CopyG_c G u (hG.st hu) hn) (fun _ => rfl) ?_; rintro c ⟨hcp, uc, hcok⟩
   have hnc := near_p hcp hn
   have o1 := Sl.one hcok.rm.pls
   have o2 := Sl.one hcok.rm.ths
   have o3 := Sl.one hcok.rm.prs
   have o4 := Sl.one hcok.rm.wys
   have o5 := Sl.one hcok.rm.acs
   have o6 := Sl.one hcok.rm.aus
   have o7 := Sl.one hcok.rm.gl
   have o8 := Sl.one hcok.lks
   have o9 := Sl.one hcok.cds
   have o10 := Sl.one hcok.nts
   refine Wd (Qa ?_)
   refine Ao 4 rfl ?_
   refine Wc rfl rfl ent50 (fun u hu => (by have q := ReadsI_c c u (hu.ro (j := 0) rfl) g (hW.st hu) hnc y (hu.ro (j := 7) rfl) m; rw [hcp, hyx] at q; exact q)) (fun _ => rfl) ?_; rintro l ⟨ul, hl⟩
   refine Wd (Qa ?_)
   refine Ar [5,6,7,8,9] ?_
   refine Ae ?_
   refine Qc (Nz 0 ?_)
   refine Wk 0 (by first | exact det_loadb0 (j := 11) rfl rfl tk36 | exact det_loadbN (j := 11) rfl rfl (by rfl) tk36 | exact det_loadwN rfl (by assumption) (by rfl) tk36 | exact det_loadbK (n := 12) (j := 11) rfl rfl rfl rfl tk36) ?_
   refine Wk 0 (by first | exact det_loadb0 (j := 10) rfl rfl tk68 | exact det_loadbN (j := 10) rfl rfl (by rfl) tk68 | exact det_loadwN rfl (by assumption) (by rfl) tk68 | exact det_loadbK (n := 4) (j := 10) rfl rfl rfl rfl tk68) ?_
   refine Wk 0 (by first | exact det_loadb0 (j := 9) rfl rfl tk91 | exact det_loadbN (j := 9) rfl rfl (by rfl) tk91 | exact det_loadwN rfl (by assumption) (by rfl) tk91 | exact det_loadbK (n := 3) (j := 9) rfl rfl rfl rfl tk91) ?_
   refine Wc rfl rfl ent51 (fun u hu => ReadsR_c G u (hG.st hu) hn p (hp.toSt hu) m) (fun _ => rfl) ?_; rintro l2 ⟨ul2, hl2⟩
   refine Wz 5 ?_
   refine Wd (Qc (Nz 0 ?_))
   refine Wk 0 (by first | exact det_loadb0 (j := 7) rfl rfl tk68 | exact det_loadbN (j := 7) rfl rfl (by rfl) tk68 | exact det_loadwN rfl (by assumption) (by rfl) tk68 | exact det_loadbK (n := 4) (j := 7) rfl rfl rfl rfl tk68) ?_
   refine Wk 0 (by first | exact det_loadb0 (j := 3) rfl rfl tk68 | exact det_loadbN (j := 3) rfl rfl (by rfl) tk68 | exact det_loadwN rfl (by assumption) (by rfl) tk68 | exact det_loadbK (n := 4) (j := 3) rfl rfl rfl rfl tk68) ?_
   refine Wk 1 (Cb rfl rfl ent42 (fun u hu => SamePT_c x x2 u (hu.ro (j := 5) rfl) (hu.ro (j := 4) rfl) (hxx.trans hx2x.symm))) ?_
   refine Wt 0 rfl rfl (fun hg => Fm) ?_
   refine Wt 0 rfl rfl (fun hg => Fm) ?_
   refine Wt 0 rfl rfl (fun hg => Fq) ?_
   refine Wk 1 Pa ?_
   refine Wt 0 rfl rfl (fun hg => Fm) ?_
   refine Wt 0 rfl rfl (fun hg => Fm) ?_
   refine Wt 0 rfl rfl (fun hg => Cb rfl (ec_ (eg_ hg rfl) (ec_ (eg_ hg rfl) en_)) ent36 (fun u hu => SameInts_c _ _ _ _ u (hu.ro (j := 1) rfl) (hu.ro (j := 0) rfl))) ?_
   refine Wk 1 Pa ?_
   refine Wt 0 rfl rfl (fun hg => Fm) ?_
   refine Wt 0 rfl rfl (fun hg => Fm) ?_
   refine Wt 0 rfl rfl (fun hg => Fq) ?_
   refine Wk 1 Pa ?_
   refine Wt 0 rfl rfl (fun hg => by first | exact det_loadb0 (j := 8) rfl rfl tk68 | exact det_loadbN (j := 8) rfl rfl (by rfl) tk68 | exact det_loadwN rfl (by assumption) (by rfl) tk68 | exact det_loadbK (n := 4) (j := 8) rfl rfl rfl rfl tk68) ?_
   refine Wt 0 rfl rfl (fun hg => by first | exact det_loadb0 (j := 11) rfl rfl tk68 | exact det_loadbN (j := 11) rfl rfl (by rfl) tk68 | exact det_loadwN rfl (by assumption) (by rfl) tk68 | exact det_loadbK (n := 4) (j := 11) rfl rfl rfl rfl tk68) ?_
   refine Wt 0 rfl rfl (fun hg => Cb rfl (ec_ (eg_ hg rfl) (ec_ (eg_ hg rfl) en_)) ent42 (fun u hu => SamePT_c y p u (hu.ro (j := 9) rfl) (hp.toSt hu) hyx)) ?_
   refine Wk 1 Pa ?_
   refine Wt 0 rfl rfl (fun hg => Cb rfl rfl ent27 (fun u hu => worksG_c u g (hW.st hu))) ?_
   refine Wk 1 Pa ?_
   exact Wd (Qc (Cr (out1 rfl rfl (retBe (by simp)))))
end Go.Proofs.YtaeagngfhceceaaGreatDoor
