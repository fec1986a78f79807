/- Merged texts of this proof (walks and plain laws), printed by a program of the prover. -/
import Derived.Test.YtaeagngfhceceaaGreatDoorY12
import Derived.Test.YtaeagngfhceceaaGreatDoorZb
import Derived.Test.YtaeagngfhceceaaGreatDoorProg
import Derived.KernelRfl
import Derived.Test.YtaeagngfhceceaaGreatDoorZc
import Derived.Test.YtaeagngfhceceaaGreatDoorZp
import Derived.Test.YtaeagngfhceceaaGreatDoorZg
import Derived.Test.YtaeagngfhceceaaGreatDoorZs
namespace Go.Proofs.YtaeagngfhceceaaGreatDoor
open Go.Proofs
theorem ent48 : Ent Tryz.prog 48 := ent_of Tryz.func48 (by kernel_rfl) rfl
end Go.Proofs.YtaeagngfhceceaaGreatDoor
set_option maxHeartbeats 8000000
namespace Go.Proofs.YtaeagngfhceceaaGreatDoor
open Go.RowKit Go.Proofs
set_option maxRecDepth 100000
set_option linter.unusedVariables false
set_option linter.unusedSimpArgs false
theorem step_pos {G : GP} {x : PX} {m : Move} (h : (StepGV G x m).1 = 0) : posG G x = 0 := by
 unfold StepGV at h
 split at h
 ·
  assumption
 ·
  exact h
section
variable {P : Program} {n0 : Nat} {w0 : World} {L : List SA} {l : List Value} {d : Option Tmp} {ty : TypeId} {ps : String} {af : Array Edge} {g : Option (Nat × Bool)}
end
end Go.Proofs.YtaeagngfhceceaaGreatDoor
set_option maxHeartbeats 8000000
namespace Go.Proofs.YtaeagngfhceceaaGreatDoor
open Go.RowKit Go.Proofs
set_option maxRecDepth 100000
set_option linter.unusedVariables false
set_option linter.unusedSimpArgs false
theorem step_small {G : Game} (hV : GoodG G) {x : P3} (hI : StIn G.rm x) {rd : List Bool} (hl : rd.length = G.nts.l.length) {y : Stt} {m : Move} (hy : y.x = (stepR G.p (x, rd) m).1) (hin : StIn G.rm (stepR G.p (x, rd) m).1) : (y.ths.l.length ≤ 1000000 ∧ y.prs.l.length ≤ 1000000 ∧ y.pls.l.length ≤ 1000000) ∧ (stepR G.p (x, rd) m).2.length ≤ 1000000 := by
 rw [← hy] at hin
 refine ⟨hin.small hV.ready, ?_⟩
 have hnn := hV.nn
 unfold stepR
 split
 ·
  unfold nextX; rw [readX_len]; show rd.length ≤ _; omega
 ·
  show rd.length ≤ _; omega
theorem StepI1_c (G : Game) (w : World) (hG : GameOk w G) (g : Sl ByteArray) (hW : GOk w g) (hn : NearG G) (p : Pos) (hp : PosOk w p) (m : Move) (hq : posG G.p p.x = 0) :
  Calls Tryz.prog 48 #[.agg #[G.rm.pls.v, G.rm.ths.v, G.rm.prs.v, G.rm.wys.v, G.rm.acs.v, G.rm.aus.v, .int .i64 G.rm.ply, G.rm.gl.v, G.lks.v, G.cds.v, G.nts.v, .int .i64 G.tr], .agg #[p.st.ths.v, p.st.prs.v, p.st.pls.v, p.rd.v], .agg #[.int .i64 m.p, .int .i64 m.k, .int .i64 m.n]] w (RetP w (StepGV G.p p.x m).2 fun v => .tuple #[v, .int .i64 (StepGV G.p p.x m).1]) := by
 have hP := goodp_of hq
 have hV := hP.toGoodG
 have hI := hP.inn
 have hpl := hP.ln
 refine enter Tryz.func48 rfl rfl (Nat.le_of_ble_eq_true rfl) ?_
 refine Nz 0 ?_
 refine Wb 0 rfl rfl (fun _ => rfl) (fun _ => rfl) fun b3 hb3 => ?_
 refine Wb 0 rfl rfl (fun _ => rfl) (fun _ => rfl) fun b4 hb4 => ?_
 refine Wb 0 rfl rfl (fun _ => rfl) (fun _ => rfl) fun b5 hb5 => ?_
 refine Wl 1 zv68 (fun _ => rfl) (fun _ => rfl) fun b6 hb6 => ?_
 refine Wd (Qc (Nz 0 ?_))
 refine Wk 0 (Bb 3) ?_
 refine Wk 0 (Bb 2) ?_
 refine Wc rfl rfl ent82 (fun u hu => newTeam_c G u (hG.st hu) g (hW.st hu) hn p (hp.toSt hu) hq) (fun _ => rfl) ?_; rintro ⟨bt, mb, rv⟩ hrv
 refine WS.unpack ?_
 refine WS.weak (fun u hu => hu.osl0 (e := 0) (size := 1)) ?_
 refine WS.sel [1, 1, 1, 0, 0, 0, 0, 0] rfl ?_
 refine Wz 5 ?_
 refine Wd (Qc (Cs (Nz 2 ?_)))
 refine Wd (Qc (CS.cond rfl ?_ ?_))<;>intro hc1<;>try simp only [bq] at hc1
 ·
  exact absurd hc1 (by simp)
 ·
  refine Ck (Qc (Cs (Nz 1 ?_)))
  refine Wk 0 (Bb 5) ?_
  refine WS.callS rfl rfl ent95 (fun u hu => stepL_c [] _ G hG hn g hW hV bt mb p.st _ (HasZ.old hp.st _) hI rv p.rd.l hpl (fun _ => 0) KeptO.zero m hu) (fun _ => rfl) ?_; rintro ⟨y, f2, Z2, Z3⟩ ⟨hyx, hZ2, hf2, -⟩
  refine Wz 1 ?_
  refine Wd (Qc (CS.cond rfl ?_ ?_))<;>intro hc2<;>try simp only [bq] at hc2
  ·
   have hpn : ¬ possB G.p p.x m = true := by rw [show possB G.p p.x m = false from hc2]; decide
   refine Nz 0 ?_
   refine Wk 0 (Db plc68 zv68) ?_
   refine Wv 1 5 ?_
   refine Wd (Qc (Cr (Qr ?_)))
   exact outR (resct rfl (cell_rvN (j := 5) rfl rfl tk68) rfl) (by
     have hv : StepGV G.p p.x m = (29, noP) := (if_pos hq).trans (if_neg hpn)
     rw [hv]
     exact fun u hu => retP0 (f := fun v => .tuple #[v, .int .i64 29]) hu)
  ·
   have hpy : possB G.p p.x m = true := by first | exact hc2 | simpa using hc2
   have hsm := step_small hV hI hpl hyx (by rw [stepR_yes (x := (p.st.x, p.rd.l)) hpy]; exact nextX_in hP hpy)
   refine Ck (Qc (Nz 1 ?_))
   refine Wc rfl rfl ent96 (fun u hu => position_c bt mb G ⟨y, ⟨rv, (stepR G.p (p.st.x, p.rd.l) m).2⟩⟩ u ⟨st_blk hu (j := 0) rfl, hG.st hu, ⟨hZ2.get (j := 3) rfl hu, oT_SlT hu (j := 1) rfl fun _ _ ↦ trivial⟩⟩ hsm) (fun _ => rfl) ?_; rintro v ⟨hvx, uv, hvok⟩
   obtain ⟨hva, hvb, hvc⟩ := hvok.st.ones
   have hvd := Sl.one hvok.rd
   refine Wv 1 6 ?_
   refine Wd (Qc (Cr ?_))
   exact outR (resct rfl (cell_rvN (j := 6) rfl rfl tk68) rfl) (by
     have hv : StepGV G.p p.x m = (0, nextX G.p p.x m) := (if_pos hq).trans (if_pos hpy)
     rw [hv]
     exact fun u hu => retPr (f := fun v => .tuple #[v, .int .i64 0]) (j := 0) rfl (by rw [hvx, show ((⟨y, ⟨rv, (stepR G.p (p.st.x, p.rd.l) m).2⟩⟩ : Pos).x) = (y.x, (stepR G.p (p.st.x, p.rd.l) m).2) from rfl, hyx, stepR_yes (x := (p.st.x, p.rd.l)) hpy]; rfl) hu)
theorem StepI0_c (G : Game) (w : World) (hG : GameOk w G) (g : Sl ByteArray) (hW : GOk w g) (hn : NearG G) (p : Pos) (hp : PosOk w p) (m : Move) (hq : ¬ posG G.p p.x = 0) :
  Calls Tryz.prog 48 #[.agg #[G.rm.pls.v, G.rm.ths.v, G.rm.prs.v, G.rm.wys.v, G.rm.acs.v, G.rm.aus.v, .int .i64 G.rm.ply, G.rm.gl.v, G.lks.v, G.cds.v, G.nts.v, .int .i64 G.tr], .agg #[p.st.ths.v, p.st.prs.v, p.st.pls.v, p.rd.v], .agg #[.int .i64 m.p, .int .i64 m.k, .int .i64 m.n]] w (RetP w (StepGV G.p p.x m).2 fun v => .tuple #[v, .int .i64 (StepGV G.p p.x m).1]) := by
 refine enter Tryz.func48 rfl rfl (Nat.le_of_ble_eq_true rfl) ?_
 refine Nz 0 ?_
 refine Wb 0 rfl rfl (fun _ => rfl) (fun _ => rfl) fun b3 hb3 => ?_
 refine Wb 0 rfl rfl (fun _ => rfl) (fun _ => rfl) fun b4 hb4 => ?_
 refine Wb 0 rfl rfl (fun _ => rfl) (fun _ => rfl) fun b5 hb5 => ?_
 refine Wl 1 zv68 (fun _ => rfl) (fun _ => rfl) fun b6 hb6 => ?_
 refine Wd (Qc (Nz 0 ?_))
 refine Wk 0 (Bb 3) ?_
 refine Wk 0 (Bb 2) ?_
 refine Wk 5 (Cb rfl rfl ent82 (fun u hu => newTeamN_c G u (hG.st hu) g (hW.st hu) hn p (hp.toSt hu) hq)) ?_
 refine Wd (Qc (Cs (Nz 2 ?_)))
 refine Wd (Qc (CS.cond rfl ?_ ?_))<;>intro hc1<;>try simp only [bq] at hc1
 ·
  refine Nz 0 ?_
  refine Wk 1 (Db plc68 zv68) ?_
  refine Wv 1 0 ?_
  refine Wd (Qc (Cr (Qr ?_)))
  exact outR (resct rfl (cell_rvN (j := 0) rfl rfl tk68) rfl) (by
    have hv : StepGV G.p p.x m = (posG G.p p.x, noP) := if_neg hq
    rw [hv]
    exact fun u hu => retP0 (f := fun v => .tuple #[v, .int .i64 (posG G.p p.x)]) hu)
 ·
  exact absurd hc1 hq
theorem StepI_c (G : Game) (w : World) (hG : GameOk w G) (g : Sl ByteArray) (hW : GOk w g) (hn : NearG G) (p : Pos) (hp : PosOk w p) (m : Move) :
  Calls Tryz.prog 48 #[.agg #[G.rm.pls.v, G.rm.ths.v, G.rm.prs.v, G.rm.wys.v, G.rm.acs.v, G.rm.aus.v, .int .i64 G.rm.ply, G.rm.gl.v, G.lks.v, G.cds.v, G.nts.v, .int .i64 G.tr], .agg #[p.st.ths.v, p.st.prs.v, p.st.pls.v, p.rd.v], .agg #[.int .i64 m.p, .int .i64 m.k, .int .i64 m.n]] w (RetP w (StepGV G.p p.x m).2 fun v => .tuple #[v, .int .i64 (StepGV G.p p.x m).1]) := by
 by_cases hq : posG G.p p.x = 0
 ·
  exact StepI1_c G w hG g hW hn p hp m hq
 ·
  exact StepI0_c G w hG g hW hn p hp m hq
end Go.Proofs.YtaeagngfhceceaaGreatDoor
