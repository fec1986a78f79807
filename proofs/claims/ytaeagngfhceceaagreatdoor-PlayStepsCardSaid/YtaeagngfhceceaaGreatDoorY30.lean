/- Merged texts of this proof (walks and plain laws), printed by a program of the prover. -/
import Derived.Test.YtaeagngfhceceaaGreatDoorY0
import Derived.Test.YtaeagngfhceceaaGreatDoorY1
import Derived.Test.YtaeagngfhceceaaGreatDoorY2
import Derived.Test.YtaeagngfhceceaaGreatDoorY3
import Derived.Test.YtaeagngfhceceaaGreatDoorY4
import Derived.Test.YtaeagngfhceceaaGreatDoorY5
import Derived.Test.YtaeagngfhceceaaGreatDoorY7
import Derived.Test.YtaeagngfhceceaaGreatDoorY8
import Derived.Test.YtaeagngfhceceaaGreatDoorY9
import Derived.Test.YtaeagngfhceceaaGreatDoorY10
import Derived.Test.YtaeagngfhceceaaGreatDoorY12
import Derived.Test.YtaeagngfhceceaaGreatDoorY13
import Derived.Test.YtaeagngfhceceaaGreatDoorY15
import Derived.Test.YtaeagngfhceceaaGreatDoorY19
import Derived.Test.YtaeagngfhceceaaGreatDoorZb
import Derived.Test.YtaeagngfhceceaaGreatDoorProg
import Derived.KernelRfl
import Derived.Test.YtaeagngfhceceaaGreatDoorZc
import Derived.Test.YtaeagngfhceceaaGreatDoorZp
namespace Go.Proofs.YtaeagngfhceceaaGreatDoor
set_option linter.unusedVariables false
set_option linter.unusedSimpArgs false
open Go.RowKit
section
variable {P : Program} {ro : Option Nat} {n0 : Nat} {w0 : World} {ds : List Deferred} {ops : Array Oper} {Q : Exit → Act → World → Prop} {L : List SA}
  {rest : List Oper} {l : List Value} {d : Option Tmp} {ty : TypeId} {ps : String} {af : Array Edge} {g : Option (Nat × Bool)} {C : World → Prop}
end
theorem can_e (G : GP) (x : PX) : (CanV G x).1 = posG G x := by
  unfold CanV; split
  · rename_i h; exact h.symm
  · rfl
end Go.Proofs.YtaeagngfhceceaaGreatDoor
namespace Go.Proofs.YtaeagngfhceceaaGreatDoor
open Go.Proofs
theorem ent49 : Ent Tryz.prog 49 := ent_of Tryz.func49 (by kernel_rfl) rfl
theorem ent108 : Ent Tryz.prog 108 := ent_of Tryz.func108 (by kernel_rfl) rfl
end Go.Proofs.YtaeagngfhceceaaGreatDoor
set_option maxHeartbeats 8000000
namespace Go.Proofs.YtaeagngfhceceaaGreatDoor
open Go.RowKit Go.Proofs
set_option maxRecDepth 100000
set_option linter.unusedVariables false
set_option linter.unusedSimpArgs false
theorem moves_not {G : Game} {p : Pos} {m : Move} (hP : GoodP G p) (h : ∀ j : Int, 0 ≤ j → j < (movesX G.p p.x).length → nth (movesX G.p p.x) j ≠ m) : ¬ possB G.p p.x m = true := fun hc => by
 obtain ⟨i, hi, he⟩ := List.mem_iff_getElem.1 (moves_mem hP hc)
 refine h (i : Int) (by omega) (by omega) ?_
 rw [← he]
 simp [nth, List.getD, hi]
theorem NextR_c (G : Game) (w : World) (hG : GameOk w G) (p : Pos) (hp : PosOk w p) (hP : GoodP G p) (m : Move) (hq : possB G.p p.x m = true) :
  Calls Tryz.prog 108 #[.agg #[G.rm.pls.v, G.rm.ths.v, G.rm.prs.v, G.rm.wys.v, G.rm.acs.v, G.rm.aus.v, .int .i64 G.rm.ply, G.rm.gl.v, G.lks.v, G.cds.v, G.nts.v, .int .i64 G.tr], .agg #[p.st.ths.v, p.st.prs.v, p.st.pls.v, p.rd.v], .agg #[.int .i64 m.p, .int .i64 m.k, .int .i64 m.n]] w (RetP w (nextX G.p p.x m) fun v => v) := by
 have hR := hP.ready
 have hI := hP.inn
 have hL := poss_legal hq
 have hIy := next_in hP hq
 refine enter Tryz.func108 rfl rfl (Nat.le_of_ble_eq_true rfl) ?_
 refine Nz 0 ?_
 refine Wb 0 rfl rfl (fun _ => rfl) (fun _ => rfl) fun b3 hb3 => ?_
 refine Wb 0 rfl rfl (fun _ => rfl) (fun _ => rfl) fun b4 hb4 => ?_
 refine Wb 0 rfl rfl (fun _ => rfl) (fun _ => rfl) fun b5 hb5 => ?_
 refine Wl 0 zv68 (fun _ => rfl) (fun _ => rfl) fun b6 hb6 => ?_
 refine Wd (Qc (Nz 1 ?_))
 refine Wk 1 (Bc 3) ?_
 refine Wk 0 (Bc 2) ?_
 refine Wk 0 (Bb 1) ?_
 refine Wc rfl rfl ent174 (fun u hu => RPlayed_c G.rm u (hG.rm.st hu) p.st (hp.st.st hu) hR hI m hL) (fun _ => rfl) ?_; rintro y ⟨hyx, uy, hyok⟩
 obtain ⟨hya, hyb, hyc⟩ := hyok.ones
 refine Wz 3 ?_
 refine Wl 0 zv65 (fun _ => rfl) (fun _ => rfl) fun b7 hb7 => ?_
 refine Wv 1 0 ?_
 refine Wd (Qc (Nz 0 ?_))
 refine Wk 0 (Bb 5) ?_
 refine Wk 1 (Bb 0) ?_
 refine Wk 0 (Ba 4) ?_
 refine Wk 0 (det_buildG plc68 zv68 (pcs := [(0, [y.ths.v, y.prs.v, y.pls.v]), (1, [p.rd.v])]) rfl (CellsOf.agg (CellsOf.one (Sl.one hp.rd) CellsOf.nil)) rfl) ?_
 refine Wc rfl rfl ent100 (fun u hu => readR_c G u (hG.st hu) hP.toGoodG ⟨y, p.rd⟩ ⟨hu.ro (j := 1) rfl, hp.rd.st hu⟩ (by rw [show y.x = ((settleV G.rm (moveX G.rm p.st.x m)).getD no3) from hyx]; exact hIy) hP.ln) (fun _ => rfl) ?_; rintro z ⟨hzx, uz, hzok⟩
 obtain ⟨hza, hzb, hzc⟩ := hzok.st.ones
 have hzd := Sl.one hzok.rd
 refine Wv 0 3 ?_
 exact Wd (Qc (Cr (outR (resc rfl (cell_rvN (j := 3) rfl rfl tk68)) (fun u hu => retPr (f := fun v => v) (j := 0) rfl (by rw [hzx, nextX_p hq, ← hyx]) hu))))
theorem StepR_c (G : Game) (w : World) (hG : GameOk w G) (hn : NearG G) (p : Pos) (hp : PosOk w p) (m : Move) :
  Calls Tryz.prog 49 #[.agg #[G.rm.pls.v, G.rm.ths.v, G.rm.prs.v, G.rm.wys.v, G.rm.acs.v, G.rm.aus.v, .int .i64 G.rm.ply, G.rm.gl.v, G.lks.v, G.cds.v, G.nts.v, .int .i64 G.tr], .agg #[p.st.ths.v, p.st.prs.v, p.st.pls.v, p.rd.v], .agg #[.int .i64 m.p, .int .i64 m.k, .int .i64 m.n]] w (RetP w (StepGV G.p p.x m).2 fun v => .tuple #[v, .int .i64 (StepGV G.p p.x m).1]) := by
 refine enter Tryz.func49 rfl rfl (Nat.le_of_ble_eq_true rfl) ?_
 refine Nz 0 ?_
 refine Wb 0 rfl rfl (fun _ => rfl) (fun _ => rfl) fun b3 hb3 => ?_
 refine Wb 0 rfl rfl (fun _ => rfl) (fun _ => rfl) fun b4 hb4 => ?_
 refine Wb 0 rfl rfl (fun _ => rfl) (fun _ => rfl) fun b5 hb5 => ?_
 refine Wl 1 zv68 (fun _ => rfl) (fun _ => rfl) fun b6 hb6 => ?_
 refine Wd (Qc (Nz 0 ?_))
 refine Wk 0 (Bb 3) ?_
 refine Wk 0 (Bb 2) ?_
 refine Wc rfl rfl ent30 (fun u hu => CanR_c G u (hG.st hu) hn p (hp.toSt hu)) (fun _ => rfl) ?_; rintro ml ⟨uml, hml⟩
 refine Wz 5 ?_
 refine Wd (Qc (Cs (Nz 2 ?_)))
 refine Wd (Qc (CS.cond rfl ?_ ?_))<;>intro hc1<;>try simp only [bq] at hc1
 ·
  have hq : ¬ posG G.p p.x = 0 := by rw [← can_e]; exact hc1
  refine Nz 0 ?_
  refine Wk 1 (Db plc68 zv68) ?_
  refine Wv 1 1 ?_
  refine Wd (Qc (Cr (Qr ?_)))
  exact outR (resct rfl (cell_rvN (j := 1) rfl rfl tk68) rfl) (by
    have hv : StepGV G.p p.x m = ((CanV G.p p.x).1, noP) := by rw [can_e]; exact if_neg hq
    rw [hv]
    exact fun u hu => retP0 (f := fun v => .tuple #[v, .int .i64 (CanV G.p p.x).1]) hu)
 ·
  have hq : posG G.p p.x = 0 := by rw [← can_e]; exact hc1
  have hP := goodp_of hq
  have hcv : (CanV G.p p.x).2 = movesX G.p p.x := by rw [show CanV G.p p.x = (0, movesX G.p p.x) from if_pos hq]
  rw [hcv] at hml ⊢
  have hmn := moves_len hP
  refine Ck (Qc (Cs (Nz 1 ?_)))
  refine Wd (Qc (Ce ?_))
  refine CS.loopM (σ := Int) [7, 21, 22, 23, 24, 25, 26, 27, 28, 29, 30, 31, 32, 33, 34, 35, 36] (fun s => [(10, .int .i64 s)]) (fun _ => _) (fun s => 0 ≤ s ∧ s ≤ (movesX G.p p.x).length ∧ ∀ j : Int, 0 ≤ j → j < s → nth (movesX G.p p.x) j ≠ m) (fun s => ((movesX G.p p.x).length - s).toNat) 0 (fun _ _ => rfl) rfl rfl ⟨by omega, by omega, fun j a b ↦ by omega⟩ ?_
  intro i t hs
  obtain ⟨hi1, hi2, hi3⟩ := hs
  refine Cs (Nz 2 ?_)
  refine Wk 1 (Nc (s := ⟨ml, movesX G.p p.x⟩)) ?_
  refine Wd (Qc (CS.cond rfl ?_ ?_))<;>intro hc2<;>try simp only [bq] at hc2
  ·
   refine Ck (Qc (Cs (Ce (Cs (Dr mixed 2 ?_)))))
   refine Dk 0 (Xc (s := ⟨ml, movesX G.p p.x⟩)) ?_
   refine Dk 0 (det_ldRN (jj := 0) (s := ⟨ml, movesX G.p p.x⟩) rfl rfl rfl ⟨(by omega), (by omega)⟩ rfl tk91) ?_
   refine Dk 0 (Bb 2) ?_
   refine Dk 0 (det_eqAgg agMove rfl rfl (cmp_move _ _)) ?_
   refine Dd (Qc (CS.cond rfl ?_ ?_))<;>intro hc3<;>try simp only [bq] at hc3
   ·
    have hpb : possB G.p p.x m = true := by rw [← hc3]; exact moves_poss hi1 (by omega)
    refine Nz 0 ?_
    refine Wk 0 (Bb 4) ?_
    refine Wk 0 (Bb 3) ?_
    refine Wk 0 (Bb 2) ?_
    refine Wc rfl rfl ent108 (fun u hu => NextR_c G u (hG.st hu) p (hp.toSt hu) hP m hpb) (fun _ => rfl) ?_; rintro z ⟨hzx, uz, hzok⟩
    obtain ⟨hza, hzb, hzc⟩ := hzok.st.ones
    have hzd := Sl.one hzok.rd
    refine Wv 1 2 ?_
    refine Wd (Qc (Cr (Qs (Qr (Qr (Qs (Qr ?_)))))))
    exact outR (resct rfl (cell_rvN (j := 2) rfl rfl tk68) rfl) (by
      have hv : StepGV G.p p.x m = (0, nextX G.p p.x m) := (if_pos hq).trans (if_pos hpb)
      rw [hv]
      exact fun u hu => retPr (f := fun v => .tuple #[v, .int .i64 0]) (j := 0) rfl hzx hu)
   ·
    refine Ck (Qb (Qc (Ny 1 ?_)))
    refine Wk 1 Za ?_
    refine Wd ?_
    exact QS.head (i + 1) rfl rfl ⟨⟨by omega, by omega, fun j a b ↦ by
        by_cases e : j = i
        ·
         rw [e]; exact hc3
        ·
         exact hi3 j a (by omega)⟩, by omega⟩
  ·
   have hnp := moves_not (m := m) hP fun j h0 h1 => hi3 j h0 (by omega)
   refine Cv (Qe (Qe (Qx (Qc (Nz 0 ?_)))))
   refine Wk 0 (Db plc68 zv68) ?_
   refine Wv 1 1 ?_
   refine Wd (Qc (Cr ?_))
   exact outR (resct rfl (cell_rvN (j := 1) rfl rfl tk68) rfl) (by
     have hv : StepGV G.p p.x m = (29, noP) := (if_pos hq).trans (if_neg hnp)
     rw [hv]
     exact fun u hu => retP0 (f := fun v => .tuple #[v, .int .i64 29]) hu)
end Go.Proofs.YtaeagngfhceceaaGreatDoor
