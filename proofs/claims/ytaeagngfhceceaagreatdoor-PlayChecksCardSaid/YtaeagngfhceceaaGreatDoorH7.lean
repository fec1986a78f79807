/- Contracts of functions, printed by a program of the prover (gen.py). -/
import Derived.Test.YtaeagngfhceceaaGreatDoorZv
import Derived.Test.YtaeagngfhceceaaGreatDoorZw
import Derived.Test.YtaeagngfhceceaaGreatDoorY2
import Derived.Test.YtaeagngfhceceaaGreatDoorY3
import Derived.Test.YtaeagngfhceceaaGreatDoorY4
import Derived.Test.YtaeagngfhceceaaGreatDoorY6
import Derived.Test.YtaeagngfhceceaaGreatDoorY9
import Derived.Test.YtaeagngfhceceaaGreatDoorY10
import Derived.Test.YtaeagngfhceceaaGreatDoorY14
import Derived.Test.YtaeagngfhceceaaGreatDoorY15
import Derived.Test.YtaeagngfhceceaaGreatDoorY20
import Derived.Test.YtaeagngfhceceaaGreatDoorY21
import Derived.Test.YtaeagngfhceceaaGreatDoorY22
import Derived.Test.YtaeagngfhceceaaGreatDoorY32
set_option maxHeartbeats 8000000
namespace Go.Proofs.YtaeagngfhceceaaGreatDoor
open Go.RowKit Go.Proofs
set_option maxRecDepth 100000
set_option linter.unusedVariables false
set_option linter.unusedSimpArgs false
theorem PlayChecks_c (G : Game) (w : World) (hG : GameOk w G) (g : Sl ByteArray) (hW : GOk w g) :
  Calls Tryz.prog 8 #[.agg #[G.rm.pls.v, G.rm.ths.v, G.rm.prs.v, G.rm.wys.v, G.rm.acs.v, G.rm.aus.v, .int .i64 G.rm.ply, G.rm.gl.v, G.lks.v, G.cds.v, G.nts.v, .int .i64 G.tr]] w (RetB w (.bool true)) := by
 refine enter Tryz.func8 rfl rfl (Nat.le_of_ble_eq_true rfl) ?_
 refine Nz 0 ?_
 refine Wb 1 rfl rfl (fun _ => rfl) (fun _ => rfl) fun b1 hb1 => ?_
 refine Wd (Qc (Cs (Nz 0 ?_)))
 refine Wk 0 (by first | exact det_loadb0 (j := 0) rfl rfl tk36 | exact det_loadbN (j := 0) rfl rfl (by rfl) tk36 | exact det_loadwN rfl (by assumption) (by rfl) tk36 | exact det_loadbK (n := 12) (j := 0) rfl rfl rfl rfl tk36) ?_
 refine Wk 0 (Cb rfl rfl ent14 (fun u hu => FarG_c G u (hG.st hu))) ?_
 refine Wd (Qc (CS.cond rfl ?_ ?_))<;>intro hc1<;>try simp only [bq] at hc1
 ·
  refine Nz 0 ?_
  refine Wk 1 (Cb rfl rfl ent27 (fun u hu => worksG_c u g (hW.st hu))) ?_
  exact Wd (Qc (Cr (Qr (out1 rfl rfl retB))))
 ·
  have hn : NearG G := clB_iff.1 hc1
  refine Ck (Qc (Nz 0 ?_))
  refine Wk 0 (by first | exact det_loadb0 (j := 0) rfl rfl tk36 | exact det_loadbN (j := 0) rfl rfl (by rfl) tk36 | exact det_loadwN rfl (by assumption) (by rfl) tk36 | exact det_loadbK (n := 12) (j := 0) rfl rfl rfl rfl tk36) ?_
  refine Wc rfl rfl ent17 (fun u hu => CopyG_c G u (hG.st hu) hn) (fun _ => rfl) ?_; rintro c ⟨hcp, uc, hcok⟩
  have hnc := near_p hcp hn
  have o1 := Sl.one hcok.rm.pls
  have o2 := Sl.one hcok.rm.ths
  have o3 := Sl.one hcok.rm.prs
  have o4 := Sl.one hcok.rm.wys
  have o5 := Sl.one hcok.rm.acs
  have o6 := Sl.one hcok.rm.aus
  have o7 := Sl.one hcok.rm.gl
  have o8 := Sl.one hcok.lks
  have o9 := Sl.one hcok.cds
  have o10 := Sl.one hcok.nts
  refine Wl 0 zv36 (fun _ => rfl) (fun _ => rfl) fun b3 hb3 => ?_
  refine Wv 0 0 ?_
  refine Wd (Qc (Nz 0 ?_))
  refine Wk 0 (by first | exact det_loadb0 (j := 0) rfl rfl tk36 | exact det_loadbN (j := 0) rfl rfl (by rfl) tk36 | exact det_loadwN rfl (by assumption) (by rfl) tk36 | exact det_loadbK (n := 12) (j := 0) rfl rfl rfl rfl tk36) ?_
  refine Wc rfl rfl ent43 (fun u hu => (by have q := BeginI_c c u (hu.ro (j := 1) rfl) g (hW.st hu) hnc; rw [hcp] at q; exact q)) (fun _ => rfl) ?_; rintro x ⟨hxx, ux, hxok⟩
  obtain ⟨hxa, hxb, hxc⟩ := hxok.st.ones
  have hxd := Sl.one hxok.rd
  refine Wz 3 ?_
  refine Wl 0 zv68 (fun _ => rfl) (fun _ => rfl) fun b4 hb4 => ?_
  refine Wv 1 0 ?_
  refine Wd (Qc (Nz 0 ?_))
  refine Wk 0 (by first | exact det_loadb0 (j := 4) rfl rfl tk36 | exact det_loadbN (j := 4) rfl rfl (by rfl) tk36 | exact det_loadwN rfl (by assumption) (by rfl) tk36 | exact det_loadbK (n := 12) (j := 4) rfl rfl rfl rfl tk36) ?_
  refine Wc rfl rfl ent44 (fun u hu => BeginR_c G u (hG.st hu) hn) (fun _ => rfl) ?_; rintro x2 ⟨hx2x, ux2, hx2ok⟩
  obtain ⟨hx2a, hx2b, hx2c⟩ := hx2ok.st.ones
  have hx2d := Sl.one hx2ok.rd
  refine Wz 3 ?_
  refine Wl 0 zv68 (fun _ => rfl) (fun _ => rfl) fun b6 hb6 => ?_
  refine Wv 1 0 ?_
  refine Wd (Qc (Nz 0 ?_))
  refine Wk 0 (by first | exact det_loadb0 (j := 4) rfl rfl tk36 | exact det_loadbN (j := 4) rfl rfl (by rfl) tk36 | exact det_loadwN rfl (by assumption) (by rfl) tk36 | exact det_loadbK (n := 12) (j := 4) rfl rfl rfl rfl tk36) ?_
  refine Wc rfl rfl ent18 (fun u hu => (by have q := TwinsI_c c u (hu.ro (j := 5) rfl) g (hW.st hu) hnc; rw [hcp] at q; exact q)) (fun _ => rfl) ?_; rintro l ⟨ul, hl⟩
  refine Wz 5 ?_
  refine Wd (Qc (Nz 0 ?_))
  refine Wk 0 (by first | exact det_loadb0 (j := 7) rfl rfl tk36 | exact det_loadbN (j := 7) rfl rfl (by rfl) tk36 | exact det_loadwN rfl (by assumption) (by rfl) tk36 | exact det_loadbK (n := 12) (j := 7) rfl rfl rfl rfl tk36) ?_
  refine Wc rfl rfl ent45 (fun u hu => TwinsR_c G u (hG.st hu) hn) (fun _ => rfl) ?_; rintro l2 ⟨ul2, hl2⟩
  refine Wz 5 ?_
  refine Wd (Qc (Cs (Dr mixed 0 ?_)))
  refine Dk 0 (by first | exact det_loadb0 (j := 6) rfl rfl tk36 | exact det_loadbN (j := 6) rfl rfl (by rfl) tk36 | exact det_loadwN rfl (by assumption) (by rfl) tk36 | exact det_loadbK (n := 12) (j := 6) rfl rfl rfl rfl tk36) ?_
  refine Dk 0 (Cb rfl rfl ent46 (fun u hu => (by have q := GICheck_c c u (hu.ro (j := 7) rfl) g (hW.st hu) hnc; rw [hcp] at q; exact q))) ?_
  refine Dk 0 (by first | exact det_loadb0 (j := 8) rfl rfl tk36 | exact det_loadbN (j := 8) rfl rfl (by rfl) tk36 | exact det_loadwN rfl (by assumption) (by rfl) tk36 | exact det_loadbK (n := 12) (j := 8) rfl rfl rfl rfl tk36) ?_
  refine Dk 2 (Cb rfl rfl ent15 (fun u hu => GRCheck_c G u (hG.st hu) hn)) ?_
  refine Dt 0 rfl rfl (fun hg => by first | exact det_loadb0 (j := 4) rfl rfl tk68 | exact det_loadbN (j := 4) rfl rfl (by rfl) tk68 | exact det_loadwN rfl (by assumption) (by rfl) tk68 | exact det_loadbK (n := 4) (j := 4) rfl rfl rfl rfl tk68) ?_
  refine Dt 0 rfl rfl (fun hg => by first | exact det_loadb0 (j := 2) rfl rfl tk68 | exact det_loadbN (j := 2) rfl rfl (by rfl) tk68 | exact det_loadwN rfl (by assumption) (by rfl) tk68 | exact det_loadbK (n := 4) (j := 2) rfl rfl rfl rfl tk68) ?_
  refine Dt 0 rfl rfl (fun hg => Cb rfl (ec_ (eg_ hg rfl) (ec_ (eg_ hg rfl) en_)) ent42 (fun u hu => SamePT_c x x2 u (hu.ro (j := 5) rfl) (hu.ro (j := 3) rfl) (hxx.trans hx2x.symm))) ?_
  refine Dk 1 Pa ?_
  refine Dt 0 rfl rfl (fun hg => Fm) ?_
  refine Dt 0 rfl rfl (fun hg => Fm) ?_
  refine Dt 0 rfl rfl (fun hg => Fq) ?_
  refine Dk 1 Pa ?_
  refine Dt 0 rfl rfl (fun hg => Fm) ?_
  refine Dt 0 rfl rfl (fun hg => Fm) ?_
  refine Dt 0 rfl rfl (fun hg => Cb rfl (ec_ (eg_ hg rfl) (ec_ (eg_ hg rfl) en_)) ent36 (fun u hu => SameInts_c _ _ _ _ u (hu.ro (j := 1) rfl) (hu.ro (j := 0) rfl))) ?_
  refine Dk 1 Pa ?_
  refine Dt 0 rfl rfl (fun hg => Fm) ?_
  refine Dt 0 rfl rfl (fun hg => Fm) ?_
  refine Dt 0 rfl rfl (fun hg => Fq) ?_
  refine Dk 1 Pa ?_
  refine Dt 0 rfl rfl (fun hg => by first | exact det_loadb0 (j := 6) rfl rfl tk36 | exact det_loadbN (j := 6) rfl rfl (by rfl) tk36 | exact det_loadwN rfl (by assumption) (by rfl) tk36 | exact det_loadbK (n := 12) (j := 6) rfl rfl rfl rfl tk36) ?_
  refine Dt 0 rfl rfl (fun hg => by first | exact det_loadb0 (j := 8) rfl rfl tk36 | exact det_loadbN (j := 8) rfl rfl (by rfl) tk36 | exact det_loadwN rfl (by assumption) (by rfl) tk36 | exact det_loadbK (n := 12) (j := 8) rfl rfl rfl rfl tk36) ?_
  refine Dt 0 rfl rfl (fun hg => Cb rfl (ec_ (eg_ hg rfl) (ec_ (eg_ hg rfl) en_)) ent47 (fun u hu => GSame_c c G u (hu.ro (j := 7) rfl) (hG.st hu))) ?_
  refine Dk 1 Pa ?_
  refine Dt 0 rfl rfl (fun hg => Cb rfl rfl ent27 (fun u hu => worksG_c u g (hW.st hu))) ?_
  refine Dk 1 Pa ?_
  exact Dd (Qc (Cr (out1 rfl rfl (retBe (by rw [clB_t hcp]; simp)))))
end Go.Proofs.YtaeagngfhceceaaGreatDoor
