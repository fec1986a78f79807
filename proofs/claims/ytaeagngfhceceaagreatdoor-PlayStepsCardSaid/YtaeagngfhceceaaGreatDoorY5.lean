/- Merged texts of this proof (walks and plain laws), printed by a program of the prover. -/
import Derived.Test.YtaeagngfhceceaaGreatDoorY0
import Derived.Test.YtaeagngfhceceaaGreatDoorY1
import Derived.Test.YtaeagngfhceceaaGreatDoorZb
import Derived.Test.YtaeagngfhceceaaGreatDoorProg
import Derived.KernelRfl
import Derived.Test.YtaeagngfhceceaaGreatDoorZc
import Derived.Test.YtaeagngfhceceaaGreatDoorZo
import Derived.Test.YtaeagngfhceceaaGreatDoorZe
import Derived.Test.YtaeagngfhceceaaGreatDoorZl
namespace Go.Proofs.YtaeagngfhceceaaGreatDoor
set_option linter.unusedVariables false
set_option linter.unusedSimpArgs false
open Go.RowKit
section
variable {P : Program} {ro : Option Nat} {n0 : Nat} {w0 : World} {ds : List Deferred} {ops : Array Oper} {Q : Exit → Act → World → Prop} {L : List SA}
  {rest : List Oper} {l : List Value} {d : Option Tmp} {ty : TypeId} {ps : String} {af : Array Edge} {g : Option (Nat × Bool)} {C : World → Prop}
end
theorem clu_len {G : Game} (hV : GoodG G) (rd : List Bool) (lk : Int) : (cluN G.p rd lk).length ≤ 16 := by
  have := hV.nn
  rw [cluN_p]
  have := filI_len (n := (G.nts.l.length : Int)) (p := fun i => nth rd i && decide ((nth G.nts.l i).lk = lk)) (by omega)
  omega
end Go.Proofs.YtaeagngfhceceaaGreatDoor
namespace Go.Proofs.YtaeagngfhceceaaGreatDoor
open Go.Proofs
theorem ent90 : Ent Tryz.prog 90 := ent_of Tryz.func90 (by kernel_rfl) rfl
end Go.Proofs.YtaeagngfhceceaaGreatDoor
set_option maxHeartbeats 8000000
namespace Go.Proofs.YtaeagngfhceceaaGreatDoor
open Go.RowKit Go.Proofs
set_option maxRecDepth 100000
set_option linter.unusedVariables false
set_option linter.unusedSimpArgs false
theorem clues_c (G : Game) (w : World) (hG : GameOk w G) (p : Pos) (hp : PosOk w p) (hl : p.rd.l.length = G.nts.l.length) (hnn : G.nts.l.length ≤ 1000) (lk : Int) :
  Calls Tryz.prog 90 #[.agg #[G.rm.pls.v, G.rm.ths.v, G.rm.prs.v, G.rm.wys.v, G.rm.acs.v, G.rm.aus.v, .int .i64 G.rm.ply, G.rm.gl.v, G.lks.v, G.cds.v, G.nts.v, .int .i64 G.tr], .agg #[p.st.ths.v, p.st.prs.v, p.st.pls.v, p.rd.v], .int .i64 lk] w (fun e w' => ∃ x : Value, (∃ u0, SlI u0 x (cluN G.p p.rd.l lk)) ∧ RetF w x (roI x (cluN G.p p.rd.l lk)) e w') := by
 have knt := hG.nts
 have krd := hp.rd
 refine enter Tryz.func90 rfl rfl (Nat.le_of_ble_eq_true rfl) ?_
 refine Nz 0 ?_
 refine Wb 0 rfl rfl (fun _ => rfl) (fun _ => rfl) fun b3 hb3 => ?_
 refine Wb 1 rfl rfl (fun _ => rfl) (fun _ => rfl) fun b4 hb4 => ?_
 refine Wd (Qc (Nz 1 ?_))
 refine Wd (Qc (Cs (Nz 1 ?_)))
 refine Wd (Qc (Ce ?_))
 refine CS.weak (fun _ hu => hu.osl0 (e := 3) (size := 1)) ?_
 refine CS.loopM (σ := Int × Value) [9, 10, 11, 12, 13, 14, 15, 16, 17, 18, 19, 20, 21, 22, 23, 24, 25, 26, 27, 28, 29, 30, 31, 32, 33, 34] (fun s => [(8, .int .i64 s.1), (7, s.2)]) (fun s => [oints 3 s.2 (filI s.1 (fun i => nth p.rd.l i && decide ((nth G.nts.l i).lk = lk))), blk b4 [p.st.ths.v, p.st.prs.v, p.st.pls.v, p.rd.v] 68, blk b3 [G.rm.pls.v, G.rm.ths.v, G.rm.prs.v, G.rm.wys.v, G.rm.acs.v, G.rm.aus.v, .int .i64 G.rm.ply, G.rm.gl.v, G.lks.v, G.cds.v, G.nts.v, .int .i64 G.tr] 36]) (fun s => 0 ≤ s.1 ∧ s.1 ≤ G.nts.l.length) (fun s => (G.nts.l.length - s.1).toNat) (0, .slice none 0 0) (fun _ _ => rfl) rfl rfl ⟨by simp, by first | (simp; done) | (simp; omega)⟩ ?_
 intro a t hs
 obtain ⟨ha1, ha2⟩ := hs
 have hfl := fun p => filI_len (n := a.1) (p := p) ha1
 refine Cs (Nz 2 ?_)
 refine Wk 0 (Ba 2) ?_
 refine Wk 1 Nc ?_
 refine Wd (Qc (CS.cond rfl ?_ ?_))<;>intro hc1<;>try simp only [bq] at hc1
 ·
  have hfa := hfl (fun i => nth p.rd.l i && decide ((nth G.nts.l i).lk = lk))
  refine Ck (Qc (Cs (Ce (Nz 1 ?_))))
  refine Wk 1 (Ba 1) ?_
  refine Wk 0 Xc ?_
  refine Wk 1 Ub ?_
  refine Wt 0 rfl rfl (fun hg => Ff) ?_
  refine Wt 0 rfl rfl (fun hg => Ba 2) ?_
  refine Wt 0 rfl rfl (fun hg => Fm) ?_
  refine Wt 0 rfl rfl (fun hg => Xc (eg_ hg rfl)) ?_
  refine Wt 0 rfl rfl (fun hg => Ff) ?_
  refine Wt 0 rfl rfl (fun hg => Uc 11 2) ?_
  refine Wt 0 rfl rfl (fun hg => Fm) ?_
  refine Wt 0 rfl rfl (fun hg => Fq) ?_
  refine Wk 0 Pa ?_
  refine Wd (Qc (CS.cond rfl ?_ ?_))<;>intro hc2<;>try simp only [bq] at hc2
  ·
   refine Ny 2 ?_
   refine WS.buildI1 sl42 zv3 rfl (fun _ => rfl) ?_; intro v33
   refine WS.appendI (j := 1) sl42 zv3 rfl rfl rfl (fun u hu => oints_SlI hu (j := 0) rfl) (by first | omega | (simp; omega) | (simp only [List.length_append, List.length_singleton, List.length_map, List.length_cons, List.length_nil] at *; omega)) (by first | omega | (simp; omega) | (simp only [List.length_append, List.length_singleton, List.length_map, List.length_cons, List.length_nil] at *; omega)) (fun _ => rfl) (fun _ => rfl) ?_; intro v34; refine WS.oc (j := 1) rfl (fun hv34 => ?_)
   refine Wz 1 ?_
   refine Wd (Qb (Qc (Ny 1 ?_)))
   refine Wk 1 Za ?_
   refine Wd ?_
   refine QS.sel [1, 1, 1] rfl ?_
   exact QS.head ((a.1 + 1, v34)) rfl (by first | simp only [filI_yes (p := (fun i => nth p.rd.l i && decide ((nth G.nts.l i).lk = lk))) ha1 (by simp only [Bool.and_eq_true, decide_eq_true_eq]; exact hc2)] | simp only [← filI_no (p := (fun i => nth p.rd.l i && decide ((nth G.nts.l i).lk = lk))) ha1 (by simp only [Bool.and_eq_false_iff, decide_eq_false_iff_not]; exact hc2)]) ⟨⟨by simp; omega, by simp; omega⟩, by simp; omega⟩
  ·
   refine Ck (Qb (Qc (Ny 1 ?_)))
   refine Wk 1 Za ?_
   exact Wd (QS.head ((a.1 + 1, a.2)) rfl (by first | simp only [filI_yes (p := (fun i => nth p.rd.l i && decide ((nth G.nts.l i).lk = lk))) ha1 (by simp only [Bool.and_eq_true, decide_eq_true_eq]; exact hc2)] | simp only [← filI_no (p := (fun i => nth p.rd.l i && decide ((nth G.nts.l i).lk = lk))) ha1 (by simp only [Bool.and_eq_false_iff, decide_eq_false_iff_not]; exact hc2)]) ⟨⟨by simp; omega, by simp; omega⟩, by simp; omega⟩)
 ·
  have hae : a.1 = G.nts.l.length := by omega
  refine Cv (Qe (Qe (Qx (Qc (Nz 2 ?_)))))
  exact Wd (Qc (Cr (out1 rfl rfl (retIe (j := 0) rfl (by rw [cluN_p, ← hae]) rfl))))
end Go.Proofs.YtaeagngfhceceaaGreatDoor
