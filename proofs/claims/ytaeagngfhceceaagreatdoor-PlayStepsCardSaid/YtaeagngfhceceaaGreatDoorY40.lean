/- Merged texts of this proof (walks and plain laws), printed by a program of the prover. -/
import Derived.Test.YtaeagngfhceceaaGreatDoorY0
import Derived.Test.YtaeagngfhceceaaGreatDoorY1
import Derived.Test.YtaeagngfhceceaaGreatDoorY2
import Derived.Test.YtaeagngfhceceaaGreatDoorY3
import Derived.Test.YtaeagngfhceceaaGreatDoorY4
import Derived.Test.YtaeagngfhceceaaGreatDoorY5
import Derived.Test.YtaeagngfhceceaaGreatDoorY6
import Derived.Test.YtaeagngfhceceaaGreatDoorY7
import Derived.Test.YtaeagngfhceceaaGreatDoorY8
import Derived.Test.YtaeagngfhceceaaGreatDoorY9
import Derived.Test.YtaeagngfhceceaaGreatDoorY10
import Derived.Test.YtaeagngfhceceaaGreatDoorY12
import Derived.Test.YtaeagngfhceceaaGreatDoorY13
import Derived.Test.YtaeagngfhceceaaGreatDoorY15
import Derived.Test.YtaeagngfhceceaaGreatDoorY18
import Derived.Test.YtaeagngfhceceaaGreatDoorY19
import Derived.Test.YtaeagngfhceceaaGreatDoorY28
import Derived.Test.YtaeagngfhceceaaGreatDoorY30
import Derived.Test.YtaeagngfhceceaaGreatDoorZb
import Derived.Test.YtaeagngfhceceaaGreatDoorProg
import Derived.KernelRfl
import Derived.Test.YtaeagngfhceceaaGreatDoorZc
import Derived.Test.YtaeagngfhceceaaGreatDoorZp
import Derived.Test.YtaeagngfhceceaaGreatDoorZg
import Derived.Test.YtaeagngfhceceaaGreatDoorZs
namespace Go.Proofs.YtaeagngfhceceaaGreatDoor
set_option linter.unusedVariables false
set_option linter.unusedSimpArgs false
open Go.RowKit
def ReadsV (G : GP) (x : PX) (m : Move) : Int × List Int := if (StepGV G x m).1 = 0 then (0, filI (StepGV G x m).2.2.length fun i => nth (StepGV G x m).2.2 i && !nth x.2 i) else ((StepGV G x m).1, [])
end Go.Proofs.YtaeagngfhceceaaGreatDoor
namespace Go.Proofs.YtaeagngfhceceaaGreatDoor
open Go.Proofs
theorem ent50 : Ent Tryz.prog 50 := ent_of Tryz.func50 (by kernel_rfl) rfl
theorem ent51 : Ent Tryz.prog 51 := ent_of Tryz.func51 (by kernel_rfl) rfl
end Go.Proofs.YtaeagngfhceceaaGreatDoor
set_option maxHeartbeats 8000000
namespace Go.Proofs.YtaeagngfhceceaaGreatDoor
open Go.RowKit Go.Proofs
set_option maxRecDepth 100000
set_option linter.unusedVariables false
set_option linter.unusedSimpArgs false
section
variable {P : Program} {n0 : Nat} {w0 : World} {L : List SA} {l : List Value} {d : Option Tmp} {ty : TypeId} {ps : String} {af : Array Edge} {g : Option (Nat × Bool)}
end
theorem ReadsR_c (G : Game) (w : World) (hG : GameOk w G) (hn : NearG G) (p : Pos) (hp : PosOk w p) (m : Move) :
  Calls Tryz.prog 51 #[.agg #[G.rm.pls.v, G.rm.ths.v, G.rm.prs.v, G.rm.wys.v, G.rm.acs.v, G.rm.aus.v, .int .i64 G.rm.ply, G.rm.gl.v, G.lks.v, G.cds.v, G.nts.v, .int .i64 G.tr], .agg #[p.st.ths.v, p.st.prs.v, p.st.pls.v, p.rd.v], .agg #[.int .i64 m.p, .int .i64 m.k, .int .i64 m.n]] w (fun e w' => ∃ x : Value, (∃ u0, SlI u0 x (ReadsV G.p p.x m).2) ∧ RetF w (.tuple #[x, .int .i64 (ReadsV G.p p.x m).1]) (roI x (ReadsV G.p p.x m).2) e w') := by
 have krd := hp.rd
 refine enter Tryz.func51 rfl rfl (Nat.le_of_ble_eq_true rfl) ?_
 refine Nz 0 ?_
 refine Wb 0 rfl rfl (fun _ => rfl) (fun _ => rfl) fun b3 hb3 => ?_
 refine Wb 0 rfl rfl (fun _ => rfl) (fun _ => rfl) fun b4 hb4 => ?_
 refine Wb 2 rfl rfl (fun _ => rfl) (fun _ => rfl) fun b5 hb5 => ?_
 refine Wd (Qc (Nz 0 ?_))
 refine Wk 0 (Bb 2) ?_
 refine Wk 0 (Bb 1) ?_
 refine Wk 0 (Bb 0) ?_
 refine Wc rfl rfl ent49 (fun u hu => StepR_c G u (hG.st hu) hn p (hp.toSt hu) m) (fun _ => rfl) ?_; rintro z ⟨hzx, uz, hzok⟩
 obtain ⟨hza, hzb, hzc⟩ := hzok.st.ones
 have hzd := Sl.one hzok.rd
 refine Wz 3 ?_
 refine Wl 0 zv68 (fun _ => rfl) (fun _ => rfl) fun b8 hb8 => ?_
 refine Wv 1 0 ?_
 refine Wd (Qc (Cs (Nz 2 ?_)))
 refine Wd (Qc (CS.cond rfl ?_ ?_))<;>intro hc1<;>try simp only [bq] at hc1
 ·
  refine Nz 3 ?_
  refine Wd (Qc (Cr (Qr ?_)))
  exact out2 rfl rfl rfl (by
    have hv : ReadsV G.p p.x m = ((StepGV G.p p.x m).1, []) := if_neg hc1
    rw [hv]
    exact retIn (f := fun v => .tuple #[v, .int .i64 ((StepGV G.p p.x m).1)]) rfl rfl)
 ·
  have hS : (StepGV G.p p.x m).1 = 0 := hc1
  have hP := goodp_of (step_pos hS)
  have hnn := hP.nn
  have hpl := hP.ln
  have hzr : z.rd.l = (StepGV G.p p.x m).2.2 := congrArg Prod.snd hzx
  have hzl : z.rd.l.length = p.rd.l.length := by rw [hzr]; exact step_len hS
  have hzk := hzok.rd
  refine Ck (Qc (Nz 1 ?_))
  refine Wd (Qc (Cs (Nz 1 ?_)))
  refine Wd (Qc (Ce ?_))
  refine CS.weak (fun _ hu => hu.osl0 (e := 3) (size := 1)) ?_
  refine CS.loopM (σ := Int × Value) [22, 23, 24, 25, 26, 27, 28, 29, 30, 31, 32, 33, 34, 35, 36, 37, 38, 39, 40, 41, 42, 43, 44, 45] (fun s => [(11, .int .i64 s.1), (10, s.2)]) (fun s => [oints 3 s.2 (filI s.1 (fun i => nth z.rd.l i && !nth p.rd.l i)), blk b8 [z.st.ths.v, z.st.prs.v, z.st.pls.v, z.rd.v] 68, roS fun u => PosOk u z, blk b5 [.int .i64 m.p, .int .i64 m.k, .int .i64 m.n] 91, blk b4 [p.st.ths.v, p.st.prs.v, p.st.pls.v, p.rd.v] 68, blk b3 [G.rm.pls.v, G.rm.ths.v, G.rm.prs.v, G.rm.wys.v, G.rm.acs.v, G.rm.aus.v, .int .i64 G.rm.ply, G.rm.gl.v, G.lks.v, G.cds.v, G.nts.v, .int .i64 G.tr] 36]) (fun s => 0 ≤ s.1 ∧ s.1 ≤ z.rd.l.length) (fun s => (z.rd.l.length - s.1).toNat) (0, .slice none 0 0) (fun _ _ => rfl) rfl rfl ⟨by simp, by first | (simp; done) | (simp; omega)⟩ ?_
  intro a t hs
  obtain ⟨ha1, ha2⟩ := hs
  have hfl := fun p => filI_len (n := a.1) (p := p) ha1
  refine Cs (Nz 2 ?_)
  refine Wk 0 (Ba 1) ?_
  refine Wk 1 Nc ?_
  refine Wd (Qc (CS.cond rfl ?_ ?_))<;>intro hc2<;>try simp only [bq] at hc2
  ·
   have hfa := hfl (fun i => nth z.rd.l i && !nth p.rd.l i)
   refine Ck (Qc (Cs (Ce (Nz 1 ?_))))
   refine Wk 1 (Ba 1) ?_
   refine Wk 0 Xc ?_
   refine Wk 1 (det_ldPB (jj := 2) rfl (fun u (h : PosOk u z) => h.rd) rfl rfl ⟨by omega, by omega⟩ rfl tk4) ?_
   refine Wt 0 rfl rfl (fun hg => Ff) ?_
   refine Wt 0 rfl rfl (fun hg => Ba 4) ?_
   refine Wt 0 rfl rfl (fun hg => Fm) ?_
   refine Wt 0 rfl rfl (fun hg => Xc (eg_ hg rfl)) ?_
   refine Wt 0 rfl rfl (fun hg => Ub) ?_
   refine Wt 0 rfl rfl (fun hg => Fn) ?_
   refine Wk 0 Pa ?_
   refine Wd (Qc (CS.cond rfl ?_ ?_))<;>intro hc3<;>try simp only [bq] at hc3
   ·
    refine Ny 2 ?_
    refine WS.buildI1 sl42 zv3 rfl (fun _ => rfl) ?_; intro v44
    refine WS.appendI (j := 1) sl42 zv3 rfl rfl rfl (fun u hu => oints_SlI hu (j := 0) rfl) (by first | omega | (simp; omega) | (simp only [List.length_append, List.length_singleton, List.length_map, List.length_cons, List.length_nil] at *; omega)) (by first | omega | (simp; omega) | (simp only [List.length_append, List.length_singleton, List.length_map, List.length_cons, List.length_nil] at *; omega)) (fun _ => rfl) (fun _ => rfl) ?_; intro v45; refine WS.oc (j := 1) rfl (fun hv45 => ?_)
    refine Wz 1 ?_
    refine Wd (Qb (Qc (Ny 1 ?_)))
    refine Wk 1 Za ?_
    refine Wd ?_
    refine QS.sel [1, 1, 1, 1, 1, 1] rfl ?_
    exact QS.head ((a.1 + 1, v45)) rfl (by first | simp only [filI_yes (p := (fun i => nth z.rd.l i && !nth p.rd.l i)) ha1 (by simp only [Bool.and_eq_true, Bool.not_eq_true']; exact hc3)] | simp only [← filI_no (p := (fun i => nth z.rd.l i && !nth p.rd.l i)) ha1 (by simp only [Bool.and_eq_false_iff, Bool.not_eq_false']; exact hc3)]) ⟨⟨by simp; omega, by simp; omega⟩, by simp; omega⟩
   ·
    refine Ck (Qb (Qc (Ny 1 ?_)))
    refine Wk 1 Za ?_
    exact Wd (QS.head ((a.1 + 1, a.2)) rfl (by first | simp only [filI_yes (p := (fun i => nth z.rd.l i && !nth p.rd.l i)) ha1 (by simp only [Bool.and_eq_true, Bool.not_eq_true']; exact hc3)] | simp only [← filI_no (p := (fun i => nth z.rd.l i && !nth p.rd.l i)) ha1 (by simp only [Bool.and_eq_false_iff, Bool.not_eq_false']; exact hc3)]) ⟨⟨by simp; omega, by simp; omega⟩, by simp; omega⟩)
  ·
   have hae : a.1 = z.rd.l.length := by omega
   refine Cv (Qe (Qe (Qx (Qc (Nz 3 ?_)))))
   refine Wd (Qc (Cr ?_))
   exact out2 rfl rfl rfl (by
     have hv : ReadsV G.p p.x m = (0, filI a.1 (fun i => nth z.rd.l i && !nth p.rd.l i)) := by rw [hae, hzr]; exact if_pos hS
     rw [hv]
     exact retIe (f := fun v => .tuple #[v, .int .i64 0]) (j := 0) rfl rfl rfl)
end Go.Proofs.YtaeagngfhceceaaGreatDoor
set_option maxHeartbeats 8000000
namespace Go.Proofs.YtaeagngfhceceaaGreatDoor
open Go.RowKit Go.Proofs
set_option maxRecDepth 100000
set_option linter.unusedVariables false
set_option linter.unusedSimpArgs false
theorem ReadsI_c (G : Game) (w : World) (hG : GameOk w G) (g : Sl ByteArray) (hW : GOk w g) (hn : NearG G) (p : Pos) (hp : PosOk w p) (m : Move) :
  Calls Tryz.prog 50 #[.agg #[G.rm.pls.v, G.rm.ths.v, G.rm.prs.v, G.rm.wys.v, G.rm.acs.v, G.rm.aus.v, .int .i64 G.rm.ply, G.rm.gl.v, G.lks.v, G.cds.v, G.nts.v, .int .i64 G.tr], .agg #[p.st.ths.v, p.st.prs.v, p.st.pls.v, p.rd.v], .agg #[.int .i64 m.p, .int .i64 m.k, .int .i64 m.n]] w (fun e w' => ∃ x : Value, (∃ u0, SlI u0 x (ReadsV G.p p.x m).2) ∧ RetF w (.tuple #[x, .int .i64 (ReadsV G.p p.x m).1]) (roI x (ReadsV G.p p.x m).2) e w') := by
 have krd := hp.rd
 refine enter Tryz.func50 rfl rfl (Nat.le_of_ble_eq_true rfl) ?_
 refine Nz 0 ?_
 refine Wb 0 rfl rfl (fun _ => rfl) (fun _ => rfl) fun b3 hb3 => ?_
 refine Wb 0 rfl rfl (fun _ => rfl) (fun _ => rfl) fun b4 hb4 => ?_
 refine Wb 2 rfl rfl (fun _ => rfl) (fun _ => rfl) fun b5 hb5 => ?_
 refine Wd (Qc (Nz 0 ?_))
 refine Wk 0 (Bb 2) ?_
 refine Wk 0 (Bb 1) ?_
 refine Wk 0 (Bb 0) ?_
 refine Wc rfl rfl ent48 (fun u hu => StepI_c G u (hG.st hu) g (hW.st hu) hn p (hp.toSt hu) m) (fun _ => rfl) ?_; rintro z ⟨hzx, uz, hzok⟩
 obtain ⟨hza, hzb, hzc⟩ := hzok.st.ones
 have hzd := Sl.one hzok.rd
 refine Wz 3 ?_
 refine Wl 0 zv68 (fun _ => rfl) (fun _ => rfl) fun b8 hb8 => ?_
 refine Wv 1 0 ?_
 refine Wd (Qc (Cs (Nz 2 ?_)))
 refine Wd (Qc (CS.cond rfl ?_ ?_))<;>intro hc1<;>try simp only [bq] at hc1
 ·
  refine Nz 3 ?_
  refine Wd (Qc (Cr (Qr ?_)))
  exact out2 rfl rfl rfl (by
    have hv : ReadsV G.p p.x m = ((StepGV G.p p.x m).1, []) := if_neg hc1
    rw [hv]
    exact retIn (f := fun v => .tuple #[v, .int .i64 ((StepGV G.p p.x m).1)]) rfl rfl)
 ·
  have hS : (StepGV G.p p.x m).1 = 0 := hc1
  have hP := goodp_of (step_pos hS)
  have hnn := hP.nn
  have hpl := hP.ln
  have hzr : z.rd.l = (StepGV G.p p.x m).2.2 := congrArg Prod.snd hzx
  have hzl : z.rd.l.length = p.rd.l.length := by rw [hzr]; exact step_len hS
  have hzk := hzok.rd
  refine Ck (Qc (Cs (Nz 1 ?_)))
  refine Wk 0 (Ba 0) ?_
  refine Wk 1 Nc ?_
  refine Wd (Qc (Ce ?_))
  refine CS.weak (fun _ hu => hu.osl0 (e := 3) (size := 1)) ?_
  refine CS.loopM (σ := Int × Value) [9, 10, 25, 26, 27, 28, 29, 30, 31, 32, 33, 34, 35, 36, 37, 38, 39, 40, 41, 42] (fun s => [(24, .int .i64 s.1), (6, s.2)]) (fun s => [oints 3 s.2 (filI s.1 (fun i => nth z.rd.l i && !nth p.rd.l i)), blk b8 [z.st.ths.v, z.st.prs.v, z.st.pls.v, z.rd.v] 68, roS fun u => PosOk u z, blk b5 [.int .i64 m.p, .int .i64 m.k, .int .i64 m.n] 91, blk b4 [p.st.ths.v, p.st.prs.v, p.st.pls.v, p.rd.v] 68, blk b3 [G.rm.pls.v, G.rm.ths.v, G.rm.prs.v, G.rm.wys.v, G.rm.acs.v, G.rm.aus.v, .int .i64 G.rm.ply, G.rm.gl.v, G.lks.v, G.cds.v, G.nts.v, .int .i64 G.tr] 36]) (fun s => 0 ≤ s.1 ∧ s.1 ≤ z.rd.l.length) (fun s => (z.rd.l.length - s.1).toNat) (0, .slice none 0 0) (fun _ _ => rfl) rfl rfl ⟨by simp, by first | (simp; done) | (simp; omega)⟩ ?_
  intro a t hs
  obtain ⟨ha1, ha2⟩ := hs
  have hfl := fun p => filI_len (n := a.1) (p := p) ha1
  refine Nz 1 ?_
  refine Wd (Qc (Cs (CS.cond rfl ?_ ?_)))<;>intro hc2<;>try simp only [bq] at hc2
  ·
   have hfa := hfl (fun i => nth z.rd.l i && !nth p.rd.l i)
   refine Ck (Qc (Cs (Ce (Nz 1 ?_))))
   refine Wk 0 Xc ?_
   refine Wk 2 (det_ldPB (jj := 2) rfl (fun u (h : PosOk u z) => h.rd) rfl rfl ⟨by omega, by omega⟩ rfl tk4) ?_
   refine Wd (Qc (Nz 2 ?_))
   refine Wt 0 rfl rfl (fun hg => Ff) ?_
   refine Wt 0 rfl rfl (fun hg => Ba 4) ?_
   refine Wt 0 rfl rfl (fun hg => Fm) ?_
   refine Wt 0 rfl rfl (fun hg => Xc (eg_ hg rfl)) ?_
   refine Wt 0 rfl rfl (fun hg => Ub) ?_
   refine Wt 0 rfl rfl (fun hg => Fn) ?_
   refine Wk 0 Pa ?_
   refine Wd (Qc (CS.cond rfl ?_ ?_))<;>intro hc3<;>try simp only [bq] at hc3
   ·
    refine Ny 2 ?_
    refine WS.buildI1 sl42 zv3 rfl (fun _ => rfl) ?_; intro v40
    refine WS.appendI (j := 1) sl42 zv3 rfl rfl rfl (fun u hu => oints_SlI hu (j := 0) rfl) (by first | omega | (simp; omega) | (simp only [List.length_append, List.length_singleton, List.length_map, List.length_cons, List.length_nil] at *; omega)) (by first | omega | (simp; omega) | (simp only [List.length_append, List.length_singleton, List.length_map, List.length_cons, List.length_nil] at *; omega)) (fun _ => rfl) (fun _ => rfl) ?_; intro v41; refine WS.oc (j := 1) rfl (fun hv41 => ?_)
    refine Wz 1 ?_
    refine Wd (Qb (Qc (Ny 0 ?_)))
    refine Wk 1 Za ?_
    refine Wd ?_
    refine QS.sel [1, 1, 1, 1, 1, 1] rfl ?_
    exact QS.head ((a.1 + 1, v41)) rfl (by first | simp only [filI_yes (p := (fun i => nth z.rd.l i && !nth p.rd.l i)) ha1 (by simp only [Bool.and_eq_true, Bool.not_eq_true']; exact hc3)] | simp only [← filI_no (p := (fun i => nth z.rd.l i && !nth p.rd.l i)) ha1 (by simp only [Bool.and_eq_false_iff, Bool.not_eq_false']; exact hc3)]) ⟨⟨by simp; omega, by simp; omega⟩, by simp; omega⟩
   ·
    refine Ck (Qb (Qc (Ny 0 ?_)))
    refine Wk 1 Za ?_
    exact Wd (QS.head ((a.1 + 1, a.2)) rfl (by first | simp only [filI_yes (p := (fun i => nth z.rd.l i && !nth p.rd.l i)) ha1 (by simp only [Bool.and_eq_true, Bool.not_eq_true']; exact hc3)] | simp only [← filI_no (p := (fun i => nth z.rd.l i && !nth p.rd.l i)) ha1 (by simp only [Bool.and_eq_false_iff, Bool.not_eq_false']; exact hc3)]) ⟨⟨by simp; omega, by simp; omega⟩, by simp; omega⟩)
  ·
   have hae : a.1 = z.rd.l.length := by omega
   refine Cv (Qe (Qe (Qx (Qc (Nz 3 ?_)))))
   refine Wd (Qc (Cr ?_))
   exact out2 rfl rfl rfl (by
     have hv : ReadsV G.p p.x m = (0, filI a.1 (fun i => nth z.rd.l i && !nth p.rd.l i)) := by rw [hae, hzr]; exact if_pos hS
     rw [hv]
     exact retIe (f := fun v => .tuple #[v, .int .i64 0]) (j := 0) rfl rfl rfl)
end Go.Proofs.YtaeagngfhceceaaGreatDoor
