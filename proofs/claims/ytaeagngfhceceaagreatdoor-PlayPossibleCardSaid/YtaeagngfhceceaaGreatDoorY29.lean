/- Merged texts of this proof (walks and plain laws), printed by a program of the prover. -/
import Derived.Test.YtaeagngfhceceaaGreatDoorY1
import Derived.Test.YtaeagngfhceceaaGreatDoorY2
import Derived.Test.YtaeagngfhceceaaGreatDoorY4
import Derived.Test.YtaeagngfhceceaaGreatDoorY8
import Derived.Test.YtaeagngfhceceaaGreatDoorY10
import Derived.Test.YtaeagngfhceceaaGreatDoorY11
import Derived.Test.YtaeagngfhceceaaGreatDoorY12
import Derived.Test.YtaeagngfhceceaaGreatDoorY17
import Derived.Test.YtaeagngfhceceaaGreatDoorY19
import Derived.Test.YtaeagngfhceceaaGreatDoorZb
import Derived.Test.YtaeagngfhceceaaGreatDoorProg
import Derived.KernelRfl
import Derived.Test.YtaeagngfhceceaaGreatDoorZc
import Derived.Test.YtaeagngfhceceaaGreatDoorZp
import Derived.Test.YtaeagngfhceceaaGreatDoorZg
import Derived.Test.YtaeagngfhceceaaGreatDoorZt
namespace Go.Proofs.YtaeagngfhceceaaGreatDoor
set_option linter.unusedVariables false
set_option linter.unusedSimpArgs false
open Go.RowKit
section
variable {P : Program} {ro : Option Nat} {n0 : Nat} {w0 : World} {ds : List Deferred} {ops : Array Oper} {Q : Exit → Act → World → Prop} {L : List SA} {l : List Value} {C : World → Prop}
end
section
variable {P : Program} {ro : Option Nat} {n0 : Nat} {w0 : World} {ds : List Deferred} {ops : Array Oper} {Q : Exit → Act → World → Prop} {L : List SA} {rest : List Oper} {l : List Value} {ty : TypeId} {ps : String} {af : Array Edge}
end
section
variable {P : Program} {n0 : Nat} {w0 : World} {L : List SA} {l : List Value} {fn : Func}
theorem resctt {b t t2 t3 : Nat} {ty : TypeId} {v v2 v3 : Value} (h : fn.results = #[.cell t ty, .tmp t2, .tmp t3]) (h1 : Rv P n0 w0 L l b t ty v) (h2 : l[t2]? = some v2) (h3 : l[t3]? = some v3) : Res P fn l L n0 w0 (.tuple #[v, v2, v3]) := fun u hu => by
  obtain ⟨a1, a2⟩ := rv_get h1 hu
  simp only [results, h]
  simp [Sem.run_bind, Result.andThen, a1, a2, h2, h3]
end
end Go.Proofs.YtaeagngfhceceaaGreatDoor
namespace Go.Proofs.YtaeagngfhceceaaGreatDoor
set_option linter.unusedVariables false
set_option linter.unusedSimpArgs false
open Go.RowKit
section
variable {P : Program} {ro : Option Nat} {n0 : Nat} {w0 : World} {ds : List Deferred} {ops : Array Oper} {Q : Exit → Act → World → Prop} {L : List SA} {rest : List Oper} {l : List Value} {ty : TypeId} {ps : String} {af : Array Edge}
  {α : Type} {C : Cel α}
end
theorem drop_cons {α : Type} [Inhabited α] {xs : List α} {s : Int} (h0 : 0 ≤ s) (h1 : s < xs.length) : xs.drop s.toNat = nth xs s :: xs.drop (s + 1).toNat := by
  have h2 : s.toNat < xs.length := by omega
  rw [show (s + 1).toNat = s.toNat + 1 by omega, List.drop_eq_getElem_cons h2]
  simp [nth, List.getD, h2]
end Go.Proofs.YtaeagngfhceceaaGreatDoor
namespace Go.Proofs.YtaeagngfhceceaaGreatDoor
open Go.Proofs
theorem ent40 : Ent Tryz.prog 40 := ent_of Tryz.func40 (by kernel_rfl) rfl
end Go.Proofs.YtaeagngfhceceaaGreatDoor
set_option maxHeartbeats 8000000
namespace Go.Proofs.YtaeagngfhceceaaGreatDoor
open Go.RowKit Go.Proofs
set_option maxRecDepth 100000
set_option linter.unusedVariables false
set_option linter.unusedSimpArgs false
def runGL (G : GP) : List Move → Int → PX → Int × Int × PX
 | [], _, x => (0, 0, x)
 | m :: ms, i, x => if (StepGV G x m).1 = 0 then runGL G ms (i + 1) (StepGV G x m).2 else ((StepGV G x m).1, i, noP)
def RunGV (G : GP) (x : PX) (ms : List Move) : Int × Int × PX := if posG G x = 0 then if 500 < ms.length then (2, 0, noP) else runGL G ms 0 x else (posG G x, 0, noP)
section
variable {P : Program} {n0 : Nat} {w0 : World} {L : List SA} {l : List Value} {d : Option Tmp} {ty : TypeId} {ps : String} {af : Array Edge} {g : Option (Nat × Bool)}
end
end Go.Proofs.YtaeagngfhceceaaGreatDoor
set_option maxHeartbeats 8000000
namespace Go.Proofs.YtaeagngfhceceaaGreatDoor
open Go.RowKit Go.Proofs
set_option maxRecDepth 100000
set_option linter.unusedVariables false
set_option linter.unusedSimpArgs false
theorem runGL_yes {G : GP} {x : PX} {m : Move} {ms : List Move} {i : Int} (hq : posG G x = 0) (h : possB G x m = true) : runGL G (m :: ms) i x = runGL G ms (i + 1) (stepR G x m) := by
 rw [runGL, show StepGV G x m = (0, nextX G x m) from (if_pos hq).trans (if_pos h), if_pos rfl, stepR_yes h]
theorem runGL_no {G : GP} {x : PX} {m : Move} {ms : List Move} {i : Int} (hq : posG G x = 0) (h : possB G x m = false) : runGL G (m :: ms) i x = (29, i, noP) := by
 rw [runGL, show StepGV G x m = (29, noP) from (if_pos hq).trans (if_neg (by rw [h]; decide)), if_neg (by decide)]
theorem RunI1_c (G : Game) (w : World) (hG : GameOk w G) (g : Sl ByteArray) (hW : GOk w g) (hn : NearG G) (p : Pos) (hp : PosOk w p) (ms : Sl Move) (hk : SlT cMove w ms) (hq : posG G.p p.x = 0) :
  Calls Tryz.prog 40 #[.agg #[G.rm.pls.v, G.rm.ths.v, G.rm.prs.v, G.rm.wys.v, G.rm.acs.v, G.rm.aus.v, .int .i64 G.rm.ply, G.rm.gl.v, G.lks.v, G.cds.v, G.nts.v, .int .i64 G.tr], .agg #[p.st.ths.v, p.st.prs.v, p.st.pls.v, p.rd.v], ms.v] w (RetP w (RunGV G.p p.x ms.l).2.2 fun v => .tuple #[v, .int .i64 (RunGV G.p p.x ms.l).2.1, .int .i64 (RunGV G.p p.x ms.l).1]) := by
 have hP := goodp_of hq
 have hV := hP.toGoodG
 have hI := hP.inn
 have hpl := hP.ln
 have lms := hk.le
 have hck := posG_ck hq
 refine enter Tryz.func40 rfl rfl (Nat.le_of_ble_eq_true rfl) ?_
 refine Nz 0 ?_
 refine Wb 0 rfl rfl (fun _ => rfl) (fun _ => rfl) fun b3 hb3 => ?_
 refine Wb 0 rfl rfl (fun _ => rfl) (fun _ => rfl) fun b4 hb4 => ?_
 refine Wl 2 zv68 (fun _ => rfl) (fun _ => rfl) fun b6 hb6 => ?_
 refine Wd (Qc (Nz 0 ?_))
 refine Wk 0 (by first | exact det_loadb0 (j := 2) rfl rfl tk36 | exact det_loadbN (j := 2) rfl rfl (by rfl) tk36 | exact det_loadwN rfl (by assumption) (by rfl) tk36 | exact det_loadbK (n := 12) (j := 2) rfl rfl rfl rfl tk36) ?_
 refine Wk 0 (by first | exact det_loadb0 (j := 1) rfl rfl tk68 | exact det_loadbN (j := 1) rfl rfl (by rfl) tk68 | exact det_loadwN rfl (by assumption) (by rfl) tk68 | exact det_loadbK (n := 4) (j := 1) rfl rfl rfl rfl tk68) ?_
 refine Wc rfl rfl ent82 (fun u hu => newTeam_c G u (hG.st hu) g (hW.st hu) hn p (hp.toSt hu) hq) (fun _ => rfl) ?_; rintro ⟨bt, mb, rv⟩ hrv
 refine WS.unpack ?_
 refine WS.weak (fun u hu => hu.osl0 (e := 0) (size := 1)) ?_
 refine WS.sel [1, 1, 1, 0, 0, 0, 0] rfl ?_
 refine Wz 5 ?_
 refine Wd (Qc (Cs (Nz 2 ?_)))
 refine Wd (Qc (CS.cond rfl ?_ ?_))<;>intro hc1<;>try simp only [bq] at hc1
 ·
  exact absurd hc1 (by simp)
 ·
  refine Ck (Qc (Cs (Nz 1 ?_)))
  refine Wk 1 Nc ?_
  refine Wd (Qc (CS.cond rfl ?_ ?_))<;>intro hc2<;>try simp only [bq] at hc2
  ·
   refine Nz 0 ?_
   refine Wk 0 (Db plc68 zv68) ?_
   refine Wv 2 4 ?_
   refine Wd (Qc (Cr (Qr ?_)))
   exact outR (resctt rfl (cell_rvN (j := 4) rfl rfl tk68) rfl rfl) (by
     have hv : RunGV G.p p.x ms.l = (2, 0, noP) := (if_pos hq).trans (if_pos (by omega))
     rw [hv]
     exact fun u hu => retP0 (f := fun v => .tuple #[v, .int .i64 (0), .int .i64 (2)]) hu)
  ·
   refine Ck (Qc (Cs (Nz 1 ?_)))
   refine Wk 1 Nc ?_
   refine Wd (Qc (Ce ?_))
   refine CS.loopM (σ := Int × Stt × List Bool × (Int → Int) × SA) [7, 8, 10, 11, 29, 30, 31, 32, 33, 34, 35, 36, 37, 38, 39] (fun s => [(28, .int .i64 s.1)]) (fun s => [blk bt [G.rm.pls.v, G.rm.ths.v, G.rm.prs.v, G.rm.wys.v, G.rm.acs.v, G.rm.aus.v, .int .i64 G.rm.ply, G.rm.gl.v, G.lks.v, G.cds.v, G.nts.v, .int .i64 G.tr, s.2.1.ths.v, s.2.1.prs.v, s.2.1.pls.v, rv, .map (some mb)] 148, oT cBool 4 rv s.2.2.1, mapI mb s.2.2.2.1, s.2.2.2.2, blk b6 [.slice none 0 0, .slice none 0 0, .slice none 0 0, .slice none 0 0] 68, blk b4 [p.st.ths.v, p.st.prs.v, p.st.pls.v, p.rd.v] 68, blk b3 [G.rm.pls.v, G.rm.ths.v, G.rm.prs.v, G.rm.wys.v, G.rm.acs.v, G.rm.aus.v, .int .i64 G.rm.ply, G.rm.gl.v, G.lks.v, G.cds.v, G.nts.v, .int .i64 G.tr] 36]) (fun s => 0 ≤ s.1 ∧ s.1 ≤ ms.l.length ∧ HasZ w s.2.2.2.2 s.2.1 ∧ KeptO G.p s.2.2.1 s.2.2.2.1 ∧ StIn G.rm s.2.1.x ∧ s.2.2.1.length = G.nts.l.length ∧ RunGV G.p p.x ms.l = runGL G.p (ms.l.drop s.1.toNat) s.1 (s.2.1.x, s.2.2.1)) (fun s => (ms.l.length - s.1).toNat) (0, p.st, p.rd.l, (fun _ => 0), Go.Proofs.YtaeagngfhceceaaGreatDoor.osl 0 1 (.slice none 0 0) 0 []) (fun _ _ => rfl) rfl rfl ⟨by simp, by simp, HasZ.old hp.st _, KeptO.zero, hI, hpl, (if_pos hq).trans (if_neg (by omega))⟩ ?_
   intro s t hs
   obtain ⟨hs1, hs2, hs3, hs4, hs5, hs6, hs7⟩ := hs
   have hP2 : GoodP G (⟨s.2.1, ⟨rv, s.2.2.1⟩⟩ : Pos) := ⟨hV, hs5, hs6⟩
   have hq2 := pos_ok hck hs5 (p := (⟨s.2.1, ⟨rv, s.2.2.1⟩⟩ : Pos)) hs6
   refine Nz 1 ?_
   refine Wd (Qc (Cs (CS.cond rfl ?_ ?_)))<;>intro hc3<;>try simp only [bq] at hc3
   ·
    refine Ck (Qc (Cs (Ce (Nz 1 ?_))))
    refine Wk 0 Xc ?_
    refine Wk 0 Ua ?_
    refine Wl 1 zv91 (fun _ => rfl) (fun _ => rfl) fun b11 hb11 => ?_
    refine Wv 0 0 ?_
    refine Wd (Qc (Nz 1 ?_))
    refine Wk 0 (by first | exact det_loadb0 (j := 0) rfl rfl tk91 | exact det_loadbN (j := 0) rfl rfl (by rfl) tk91 | exact det_loadwN rfl (by assumption) (by rfl) tk91 | exact det_loadbK (n := 3) (j := 0) rfl rfl rfl rfl tk91) ?_
    refine WS.callS rfl rfl ent95 (fun u hu => stepL_c [_] _ G hG hn g hW hV bt mb s.2.1 _ hs3 hs5 rv s.2.2.1 hs6 _ hs4 (nth ms.l s.1) hu) (fun _ => rfl) ?_; rintro ⟨y, f2, Z2, Z3⟩ ⟨hyx, hZ2, hf2, -⟩
    refine Wz 1 ?_
    refine Wd (Qc (CS.cond rfl ?_ ?_))<;>intro hc4<;>try simp only [bq] at hc4
    ·
     have hpn : possB G.p (s.2.1.x, s.2.2.1) (nth ms.l s.1) = false := hc4
     refine Nz 0 ?_
     refine Wk 1 (Db plc68 zv68) ?_
     refine Wv 2 6 ?_
     refine Wd (Qc (Cr (Qs (Qr (Qr (Qs (Qr ?_)))))))
     exact outR (resctt rfl (cell_rvN (j := 6) rfl rfl tk68) rfl rfl) (by
       have hv : RunGV G.p p.x ms.l = (29, s.1, noP) := by rw [hs7, drop_cons hs1 (by omega), runGL_no (x := (s.2.1.x, s.2.2.1)) hq2 hpn]
       rw [hv]
       exact fun u hu => retP0 (f := fun v => .tuple #[v, .int .i64 (s.1), .int .i64 (29)]) hu)
    ·
     have hpy : possB G.p (s.2.1.x, s.2.2.1) (nth ms.l s.1) = true := by first | exact hc4 | simpa using hc4
     have hin := stepR_in (m := (nth ms.l s.1)) hP2
     refine Ck (Qb (Qc (Ny 0 ?_)))
     refine Wk 1 Za ?_
     refine Wd ?_
     refine QS.sel [0, 0, 0, 0, 2, 2, 2] rfl ?_
     exact QS.head ((s.1 + 1, y, (stepR G.p (s.2.1.x, s.2.2.1) (nth ms.l s.1)).2, f2, Z2)) rfl rfl ⟨⟨by simp; omega, by simp; omega, hZ2, hf2, by show StIn G.rm y.x; rw [hyx]; exact hin.1, hin.2, by
         rw [hs7, drop_cons hs1 (by omega), runGL_yes (x := (s.2.1.x, s.2.2.1)) hq2 hpy]
         show _ = runGL G.p _ _ (y.x, _)
         rw [hyx]⟩, by simp; omega⟩
   ·
    refine Cv (Qe (Qe (Qx (Qc (Nz 1 ?_)))))
    refine Wc rfl rfl ent96 (fun u hu => position_c bt mb G (⟨s.2.1, ⟨rv, s.2.2.1⟩⟩ : Pos) u ⟨st_blk hu (j := 0) rfl, hG.st hu, ⟨hs3.get (j := 3) rfl hu, oT_SlT hu (j := 1) rfl fun _ _ ↦ trivial⟩⟩ hP2.small) (fun _ => rfl) ?_; rintro v ⟨hvx, uv, hvok⟩
    obtain ⟨hva, hvb, hvc⟩ := hvok.st.ones
    have hvd := Sl.one hvok.rd
    refine Wv 2 5 ?_
    refine Wd (Qc (Cr ?_))
    exact outR (resctt rfl (cell_rvN (j := 5) rfl rfl tk68) rfl rfl) (by
      have hv : RunGV G.p p.x ms.l = (0, 0, (s.2.1.x, s.2.2.1)) := by rw [hs7, List.drop_of_length_le (by omega)]; rfl
      rw [hv]
      exact fun u hu => retPr (f := fun v => .tuple #[v, .int .i64 0, .int .i64 0]) (j := 0) rfl hvx hu)
theorem RunI0_c (G : Game) (w : World) (hG : GameOk w G) (g : Sl ByteArray) (hW : GOk w g) (hn : NearG G) (p : Pos) (hp : PosOk w p) (ms : Sl Move) (hk : SlT cMove w ms) (hq : ¬ posG G.p p.x = 0) :
  Calls Tryz.prog 40 #[.agg #[G.rm.pls.v, G.rm.ths.v, G.rm.prs.v, G.rm.wys.v, G.rm.acs.v, G.rm.aus.v, .int .i64 G.rm.ply, G.rm.gl.v, G.lks.v, G.cds.v, G.nts.v, .int .i64 G.tr], .agg #[p.st.ths.v, p.st.prs.v, p.st.pls.v, p.rd.v], ms.v] w (RetP w (RunGV G.p p.x ms.l).2.2 fun v => .tuple #[v, .int .i64 (RunGV G.p p.x ms.l).2.1, .int .i64 (RunGV G.p p.x ms.l).1]) := by
 refine enter Tryz.func40 rfl rfl (Nat.le_of_ble_eq_true rfl) ?_
 refine Nz 0 ?_
 refine Wb 0 rfl rfl (fun _ => rfl) (fun _ => rfl) fun b3 hb3 => ?_
 refine Wb 0 rfl rfl (fun _ => rfl) (fun _ => rfl) fun b4 hb4 => ?_
 refine Wl 2 zv68 (fun _ => rfl) (fun _ => rfl) fun b6 hb6 => ?_
 refine Wd (Qc (Nz 0 ?_))
 refine Wk 0 (by first | exact det_loadb0 (j := 2) rfl rfl tk36 | exact det_loadbN (j := 2) rfl rfl (by rfl) tk36 | exact det_loadwN rfl (by assumption) (by rfl) tk36 | exact det_loadbK (n := 12) (j := 2) rfl rfl rfl rfl tk36) ?_
 refine Wk 0 (by first | exact det_loadb0 (j := 1) rfl rfl tk68 | exact det_loadbN (j := 1) rfl rfl (by rfl) tk68 | exact det_loadwN rfl (by assumption) (by rfl) tk68 | exact det_loadbK (n := 4) (j := 1) rfl rfl rfl rfl tk68) ?_
 refine Wk 5 (Cb rfl rfl ent82 (fun u hu => newTeamN_c G u (hG.st hu) g (hW.st hu) hn p (hp.toSt hu) hq)) ?_
 refine Wd (Qc (Cs (Nz 2 ?_)))
 refine Wd (Qc (CS.cond rfl ?_ ?_))<;>intro hc1<;>try simp only [bq] at hc1
 ·
  refine Nz 0 ?_
  refine Wk 1 (Db plc68 zv68) ?_
  refine Wv 2 0 ?_
  refine Wd (Qc (Cr (Qr ?_)))
  exact outR (resctt rfl (cell_rvN (j := 0) rfl rfl tk68) rfl rfl) (by
    have hv : RunGV G.p p.x ms.l = (posG G.p p.x, 0, noP) := if_neg hq
    rw [hv]
    exact fun u hu => retP0 (f := fun v => .tuple #[v, .int .i64 (0), .int .i64 (posG G.p p.x)]) hu)
 ·
  exact absurd hc1 hq
theorem RunI_c (G : Game) (w : World) (hG : GameOk w G) (g : Sl ByteArray) (hW : GOk w g) (hn : NearG G) (p : Pos) (hp : PosOk w p) (ms : Sl Move) (hk : SlT cMove w ms) :
  Calls Tryz.prog 40 #[.agg #[G.rm.pls.v, G.rm.ths.v, G.rm.prs.v, G.rm.wys.v, G.rm.acs.v, G.rm.aus.v, .int .i64 G.rm.ply, G.rm.gl.v, G.lks.v, G.cds.v, G.nts.v, .int .i64 G.tr], .agg #[p.st.ths.v, p.st.prs.v, p.st.pls.v, p.rd.v], ms.v] w (RetP w (RunGV G.p p.x ms.l).2.2 fun v => .tuple #[v, .int .i64 (RunGV G.p p.x ms.l).2.1, .int .i64 (RunGV G.p p.x ms.l).1]) := by
 by_cases hq : posG G.p p.x = 0
 ·
  exact RunI1_c G w hG g hW hn p hp ms hk hq
 ·
  exact RunI0_c G w hG g hW hn p hp ms hk hq
end Go.Proofs.YtaeagngfhceceaaGreatDoor
