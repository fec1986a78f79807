/- Merged texts of this proof (walks and plain laws), printed by a program of the prover. -/
import Derived.Test.YtaeagngfhceceaaGreatDoorZb
import Derived.Test.YtaeagngfhceceaaGreatDoorProg
import Derived.KernelRfl
import Derived.Test.YtaeagngfhceceaaGreatDoorZc
import Derived.Test.YtaeagngfhceceaaGreatDoorZh
import Derived.Test.YtaeagngfhceceaaGreatDoorZg
import Derived.Test.YtaeagngfhceceaaGreatDoorZm
import Derived.Test.YtaeagngfhceceaaGreatDoorZn
import Derived.Test.YtaeagngfhceceaaGreatDoorZk
import Derived.Test.YtaeagngfhceceaaGreatDoorZo
import Derived.Test.YtaeagngfhceceaaGreatDoorZt
import Derived.Test.YtaeagngfhceceaaGreatDoorZu
import Derived.Test.YtaeagngfhceceaaGreatDoorZx
import Derived.Test.YtaeagngfhceceaaGreatDoorRows
namespace Go.Proofs.YtaeagngfhceceaaGreatDoor
open Go.Proofs
theorem ent26 : Ent Tryz.prog 26 := ent_of Tryz.func26 (by kernel_rfl) rfl
theorem ent52 : Ent Tryz.prog 52 := ent_of Tryz.func52 (by kernel_rfl) rfl
theorem ent80 : Ent Tryz.prog 80 := ent_of Tryz.func80 (by kernel_rfl) rfl
end Go.Proofs.YtaeagngfhceceaaGreatDoor
set_option maxHeartbeats 8000000
namespace Go.Proofs.YtaeagngfhceceaaGreatDoor
open Go.RowKit Go.Proofs
set_option maxRecDepth 100000
set_option linter.unusedVariables false
set_option linter.unusedSimpArgs false
theorem Away_c (z : Stt) (w : World) (hz : SttOk w z) :
  Calls Tryz.prog 80 #[.agg #[z.ths.v, z.prs.v, z.pls.v]] w (RetB w (.bool (!decide (z.ths.l.length ≤ 30 ∧ z.prs.l.length ≤ 30 ∧ z.pls.l.length ≤ 30)))) := by
 have zth := hz.ths.ints
 have zpr := hz.prs.ints
 have zpl := hz.pls.ints
 refine enter Tryz.func80 rfl rfl (Nat.le_of_ble_eq_true rfl) ?_
 refine Nz 0 ?_
 refine Wb 1 rfl rfl (fun _ => rfl) (fun _ => rfl) fun b1 hb1 => ?_
 refine Wd (Qc (Nz 1 ?_))
 refine Wk 0 (Ba 0) ?_
 refine Wk 2 Na ?_
 refine Wf 0 rfl rfl (fun hg => Ff) ?_
 refine Wf 0 rfl rfl (fun hg => Ba 0) ?_
 refine Wf 0 rfl rfl (fun hg => Na (eg_ hg rfl)) ?_
 refine Wf 0 rfl rfl (fun hg => Fg) ?_
 refine Wk 1 Po ?_
 refine Wf 0 rfl rfl (fun hg => Ff) ?_
 refine Wf 0 rfl rfl (fun hg => Ba 0) ?_
 refine Wf 0 rfl rfl (fun hg => Na (eg_ hg rfl)) ?_
 refine Wf 0 rfl rfl (fun hg => Fg) ?_
 refine Wk 1 Po ?_
 refine Wd (Qc (Cr ?_))
 exact out1 rfl rfl (retBe (by
    congr 1
    rw [Bool.eq_iff_iff]
    simp only [Bool.or_eq_true, decide_eq_true_eq, Bool.not_eq_true', decide_eq_false_iff_not]
    omega))
end Go.Proofs.YtaeagngfhceceaaGreatDoor
set_option maxHeartbeats 8000000
namespace Go.Proofs.YtaeagngfhceceaaGreatDoor
open Go.RowKit Go.Proofs
set_option maxRecDepth 100000
set_option linter.unusedVariables false
set_option linter.unusedSimpArgs false
theorem RPos_c (G : Game) (w : World) (hG : GameOk w G) (hn : NearG G) (p : Pos) (hp : PosOk w p) :
  Calls Tryz.prog 52 #[.agg #[G.rm.pls.v, G.rm.ths.v, G.rm.prs.v, G.rm.wys.v, G.rm.acs.v, G.rm.aus.v, .int .i64 G.rm.ply, G.rm.gl.v, G.lks.v, G.cds.v, G.nts.v, .int .i64 G.tr], .agg #[p.st.ths.v, p.st.prs.v, p.st.pls.v, p.rd.v]] w (RetB w (.int .i64 (posG G.p p.x))) := by
 have knt := hG.nts
 have krd := hp.rd
 refine enter Tryz.func52 rfl rfl (Nat.le_of_ble_eq_true rfl) ?_
 refine Nz 0 ?_
 refine Wb 0 rfl rfl (fun _ => rfl) (fun _ => rfl) fun b2 hb2 => ?_
 refine Wb 1 rfl rfl (fun _ => rfl) (fun _ => rfl) fun b3 hb3 => ?_
 refine Wd (Qc (Nz 0 ?_))
 refine Wk 0 (Bb 1) ?_
 refine Wk 1 (Cb rfl rfl ent15 (fun u hu => GRCheck_c G u (hG.st hu) hn)) ?_
 refine Wd (Qc (Cs (Nz 2 ?_)))
 refine Wd (Qc (CS.cond rfl ?_ ?_))<;>intro hc1<;>try simp only [bq] at hc1
 ·
  refine Nz 2 ?_
  exact Wd (Qc (Cr (Qr (out1 rfl rfl (retBe (by rw [posG_p, or0_n rfl hc1]))))))
 ·
  refine Ck (Qc (Nz 1 ?_))
  refine Wk 1 (Bc 1) ?_
  refine Wk 0 (Bc 0) ?_
  refine Wk 1 (Cb rfl rfl ent109 (fun u hu => RCheckState_c G.rm u (hG.rm.st hu) hn.rm p.st (hp.st.st hu))) ?_
  refine Wd (Qc (Cs (Nz 2 ?_)))
  refine Wd (Qc (CS.cond rfl ?_ ?_))<;>intro hc2<;>try simp only [bq] at hc2
  ·
   refine Nz 2 ?_
   exact Wd (Qc (Cr (Qr (out1 rfl rfl (retBe (by rw [posG_p, or0_z hc1, or0_n rfl hc2]))))))
  ·
   refine Ck (Qc (Cs (Nz 1 ?_)))
   refine Wk 0 (Ba 0) ?_
   refine Wk 1 Nc ?_
   refine Wk 0 (Ba 1) ?_
   refine Wk 1 Nc ?_
   refine Wd (Qc (CS.cond rfl ?_ ?_))<;>intro hc3<;>try simp only [bq] at hc3
   ·
    refine Nz 1 ?_
    exact Wd (Qc (Cr (Qr (out1 rfl rfl (retBe (by rw [posG_p, or0_z hc1, or0_z hc2, if_neg (by omega)]))))))
   ·
    refine Ck (Qc (Nz 1 ?_))
    exact Wd (Qc (Cr (out1 rfl rfl (retBe (by rw [posG_p, or0_z hc1, or0_z hc2, if_pos (by omega)])))))
end Go.Proofs.YtaeagngfhceceaaGreatDoor
set_option maxHeartbeats 8000000
namespace Go.Proofs.YtaeagngfhceceaaGreatDoor
open Go.RowKit Go.Proofs
set_option maxRecDepth 100000
set_option linter.unusedVariables false
set_option linter.unusedSimpArgs false
theorem AwayG_c (p : Pos) (w : World) (hp : PosOk w p) :
  Calls Tryz.prog 26 #[.agg #[p.st.ths.v, p.st.prs.v, p.st.pls.v, p.rd.v]] w (RetB w (.bool (!decide (p.st.ths.l.length ≤ 30 ∧ p.st.prs.l.length ≤ 30 ∧ p.st.pls.l.length ≤ 30) || decide ((30 : Int) < p.rd.l.length)))) := by
 have krd := hp.rd
 refine enter Tryz.func26 rfl rfl (Nat.le_of_ble_eq_true rfl) ?_
 refine Nz 0 ?_
 refine Wb 1 rfl rfl (fun _ => rfl) (fun _ => rfl) fun b1 hb1 => ?_
 refine Wd (Qc (Nz 1 ?_))
 refine Wk 0 (by first | exact det_loadb0 (j := 0) rfl rfl tk65 | exact det_loadbN (j := 0) rfl rfl (by rfl) tk65 | exact det_loadwN rfl (by assumption) (by rfl) tk65 | exact det_loadbK (n := 3) (j := 0) rfl rfl rfl rfl tk65) ?_
 refine Wk 1 (Cb rfl rfl ent80 (fun u hu => Away_c p.st u (hp.st.st hu))) ?_
 refine Wf 0 rfl rfl (fun hg => Ff) ?_
 refine Wf 0 rfl rfl (fun hg => by first | exact det_loadb (j := 0) (eg_ hg rfl) rfl rfl tk66 | exact det_loadw (eg_ hg rfl) (by assumption) rfl tk66) ?_
 refine Wf 0 rfl rfl (fun hg => Nc (eg_ hg rfl)) ?_
 refine Wf 0 rfl rfl (fun hg => Fg) ?_
 refine Wk 1 Po ?_
 exact Wd (Qc (Cr (out1 rfl rfl (retBe rfl))))
end Go.Proofs.YtaeagngfhceceaaGreatDoor
set_option maxHeartbeats 8000000
namespace Go.Proofs.YtaeagngfhceceaaGreatDoor
open Go.ChangeShapes Go.WideShapes Go.ChangeAt Go.RowKit Go.Proofs Go.Joins
set_option maxRecDepth 100000
set_option linter.unusedVariables false
set_option linter.unusedSimpArgs false
section
variable {H : Type} {enc : TypeId × Value → H} {w : World} {base : Nat} {held : Bool}
theorem rd_Stt {fuel : Nat} {cs : List Value} {x : DataW H × List MemPlace} (h : DataW.trod enc Tryz.prog w base (fun _ => true) held fuel 65 cs = some x) : ∃ z : Stt, cs = z.cells ∧ SttOk w z := by
 obtain ⟨xs, n, _, _, hl, hlen, hf⟩ := DataW.trod_struct Tryz.underlying65 h
 rw [show Tryz.prog.cellsOf 65 = 3 by kernel_rfl] at hl
 match cs, hl with
 | [c0, c1, c2], _ =>
  match xs, hlen with
  | [y0, y1, y2], _ =>
   have z0 : Tryz.prog.cellsOf 42 = 1 := by kernel_rfl
   have q0 : DataW.trod enc Tryz.prog w base (fun _ => true) held n 42 (([c0, c1, c2].drop 0).take (Tryz.prog.cellsOf 42)) = [y0, y1, y2][0]? := hf 0 _ rfl
   rw [z0] at q0
   obtain ⟨a0, e0, r0⟩ := (rd_slice Tryz.underlying42 (by kernel_rfl) (by decide) (rd_int Tryz.underlying3)) _ _ _ (show DataW.trod enc Tryz.prog w base (fun _ => true) held n 42 [c0] = some y0 from q0)
   have q1 : DataW.trod enc Tryz.prog w base (fun _ => true) held n 42 (([c0, c1, c2].drop 1).take (Tryz.prog.cellsOf 42)) = [y0, y1, y2][1]? := hf 1 _ rfl
   rw [z0] at q1
   obtain ⟨a1, e1, r1⟩ := (rd_slice Tryz.underlying42 (by kernel_rfl) (by decide) (rd_int Tryz.underlying3)) _ _ _ (show DataW.trod enc Tryz.prog w base (fun _ => true) held n 42 [c1] = some y1 from q1)
   have q2 : DataW.trod enc Tryz.prog w base (fun _ => true) held n 42 (([c0, c1, c2].drop 2).take (Tryz.prog.cellsOf 42)) = [y0, y1, y2][2]? := hf 2 _ rfl
   rw [z0] at q2
   obtain ⟨a2, e2, r2⟩ := (rd_slice Tryz.underlying42 (by kernel_rfl) (by decide) (rd_int Tryz.underlying3)) _ _ _ (show DataW.trod enc Tryz.prog w base (fun _ => true) held n 42 [c2] = some y2 from q2)
   obtain rfl : c0 = _ := (List.cons.inj e0).1
   obtain rfl : c1 = _ := (List.cons.inj e1).1
   obtain rfl : c2 = _ := (List.cons.inj e2).1
   exact ⟨⟨a0, a1, a2⟩, rfl, ⟨r0, r1, r2⟩⟩
end
end Go.Proofs.YtaeagngfhceceaaGreatDoor
set_option maxHeartbeats 8000000
namespace Go.Proofs.YtaeagngfhceceaaGreatDoor
open Go.ChangeShapes Go.WideShapes Go.ChangeAt Go.RowKit Go.Proofs Go.Joins
set_option maxRecDepth 100000
set_option linter.unusedVariables false
set_option linter.unusedSimpArgs false
section
variable {H : Type} {enc : TypeId × Value → H} {w : World} {base : Nat} {held : Bool}
theorem rd_Pos {fuel : Nat} {cs : List Value} {x : DataW H × List MemPlace} (h : DataW.trod enc Tryz.prog w base (fun _ => true) held fuel 68 cs = some x) : ∃ p : Pos, cs = [p.st.ths.v, p.st.prs.v, p.st.pls.v, p.rd.v] ∧ PosOk w p := by
 obtain ⟨xs, n, _, _, hl, hlen, hf⟩ := DataW.trod_struct Tryz.underlying68 h
 rw [show Tryz.prog.cellsOf 68 = 4 by kernel_rfl] at hl
 match cs, hl with
 | [c0, c1, c2, c3], _ =>
  match xs, hlen with
  | [y0, y1], _ =>
   have z0 : Tryz.prog.cellsOf 66 = 1 := by kernel_rfl
   have z1 : Tryz.prog.cellsOf 65 = 3 := by kernel_rfl
   have q0 : DataW.trod enc Tryz.prog w base (fun _ => true) held n 65 (([c0, c1, c2, c3].drop 0).take (Tryz.prog.cellsOf 65)) = [y0, y1][0]? := hf 0 _ rfl
   rw [z1] at q0
   obtain ⟨a0, e0, r0⟩ := @rd_Stt H enc w base held _ _ _ (show DataW.trod enc Tryz.prog w base (fun _ => true) held n 65 [c0, c1, c2] = some y0 from q0)
   have q1 : DataW.trod enc Tryz.prog w base (fun _ => true) held n 66 (([c0, c1, c2, c3].drop 3).take (Tryz.prog.cellsOf 66)) = [y0, y1][1]? := hf 1 _ rfl
   rw [z0] at q1
   obtain ⟨a1, e1, r1⟩ := (rd_slice Tryz.underlying66 (by kernel_rfl) (by decide) (rd_bool Tryz.underlying4)) _ _ _ (show DataW.trod enc Tryz.prog w base (fun _ => true) held n 66 [c3] = some y1 from q1)
   obtain rfl : c0 = _ := (List.cons.inj e0).1
   obtain rfl : c1 = _ := (List.cons.inj (List.cons.inj e0).2).1
   obtain rfl : c2 = _ := (List.cons.inj (List.cons.inj (List.cons.inj e0).2).2).1
   obtain rfl : c3 = _ := (List.cons.inj e1).1
   exact ⟨⟨a0, a1⟩, rfl, ⟨r0, r1⟩⟩
end
end Go.Proofs.YtaeagngfhceceaaGreatDoor
