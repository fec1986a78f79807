/- Merged texts of this proof (walks and plain laws), printed by a program of the prover. -/
import Derived.Test.YtaeagngfhceceaaGreatDoorY2
import Derived.Test.YtaeagngfhceceaaGreatDoorY6
import Derived.Test.YtaeagngfhceceaaGreatDoorY9
import Derived.Test.YtaeagngfhceceaaGreatDoorY14
import Derived.Test.YtaeagngfhceceaaGreatDoorZb
import Derived.Test.YtaeagngfhceceaaGreatDoorProg
import Derived.KernelRfl
import Derived.Test.YtaeagngfhceceaaGreatDoorZc
import Derived.Test.YtaeagngfhceceaaGreatDoorZo
import Derived.Test.YtaeagngfhceceaaGreatDoorZe
import Derived.Test.YtaeagngfhceceaaGreatDoorZl
namespace Go.Proofs.YtaeagngfhceceaaGreatDoor
open Go.Proofs
theorem ent101 : Ent Tryz.prog 101 := ent_of Tryz.func101 (by kernel_rfl) rfl
end Go.Proofs.YtaeagngfhceceaaGreatDoor
set_option maxHeartbeats 8000000
namespace Go.Proofs.YtaeagngfhceceaaGreatDoor
open Go.RowKit Go.Proofs
set_option maxRecDepth 100000
set_option linter.unusedVariables false
set_option linter.unusedSimpArgs false
theorem aboutR_c (G : Game) (w : World) (hG : GameOk w G) (hnn : G.nts.l.length ≤ 1000) (lk : Int) :
  Calls Tryz.prog 101 #[.agg #[G.rm.pls.v, G.rm.ths.v, G.rm.prs.v, G.rm.wys.v, G.rm.acs.v, G.rm.aus.v, .int .i64 G.rm.ply, G.rm.gl.v, G.lks.v, G.cds.v, G.nts.v, .int .i64 G.tr], .int .i64 lk] w (fun e w' => ∃ x : Value, (∃ u0, SlI u0 x (allN G.p lk)) ∧ RetF w x (roI x (allN G.p lk)) e w') := by
 have knt := hG.nts
 refine enter Tryz.func101 rfl rfl (Nat.le_of_ble_eq_true rfl) ?_
 refine Nz 0 ?_
 refine Wb 1 rfl rfl (fun _ => rfl) (fun _ => rfl) fun b2 hb2 => ?_
 refine Wd (Qc (Nz 1 ?_))
 refine Wd (Qc (Cs (Nz 1 ?_)))
 refine Wd (Qc (Ce ?_))
 refine CS.weak (fun _ hu => hu.osl0 (e := 3) (size := 1)) ?_
 refine CS.loopM (σ := Int × Value) [7, 8, 9, 10, 11, 12, 13, 14, 15, 16, 17, 18, 19, 20, 21, 22, 23, 24, 25] (fun s => [(6, .int .i64 s.1), (5, s.2)]) (fun s => [oints 3 s.2 (filI s.1 (fun i => decide ((nth G.nts.l i).lk = lk))), blk b2 [G.rm.pls.v, G.rm.ths.v, G.rm.prs.v, G.rm.wys.v, G.rm.acs.v, G.rm.aus.v, .int .i64 G.rm.ply, G.rm.gl.v, G.lks.v, G.cds.v, G.nts.v, .int .i64 G.tr] 36]) (fun s => 0 ≤ s.1 ∧ s.1 ≤ G.nts.l.length) (fun s => (G.nts.l.length - s.1).toNat) (0, .slice none 0 0) (fun _ _ => rfl) rfl rfl ⟨by simp, by first | (simp; done) | (simp; omega)⟩ ?_
 intro a t hs
 obtain ⟨ha1, ha2⟩ := hs
 have hfl := fun p => filI_len (n := a.1) (p := p) ha1
 refine Cs (Nz 2 ?_)
 refine Wk 0 (Ba 1) ?_
 refine Wk 1 Nc ?_
 refine Wd (Qc (CS.cond rfl ?_ ?_))<;>intro hc1<;>try simp only [bq] at hc1
 ·
  have hfa := hfl (fun i => decide ((nth G.nts.l i).lk = lk))
  refine Ck (Qc (Cs (Ce (Nz 1 ?_))))
  refine Wk 1 (Ba 1) ?_
  refine Wk 1 Xc ?_
  refine Wk 2 (Uc 11 2) ?_
  refine Wd (Qc (CS.cond rfl ?_ ?_))<;>intro hc2<;>try simp only [bq] at hc2
  ·
   refine Ny 2 ?_
   refine WS.buildI1 sl42 zv3 rfl (fun _ => rfl) ?_; intro v24
   refine WS.appendI (j := 1) sl42 zv3 rfl rfl rfl (fun u hu => oints_SlI hu (j := 0) rfl) (by first | omega | (simp; omega) | (simp only [List.length_append, List.length_singleton, List.length_map, List.length_cons, List.length_nil] at *; omega)) (by first | omega | (simp; omega) | (simp only [List.length_append, List.length_singleton, List.length_map, List.length_cons, List.length_nil] at *; omega)) (fun _ => rfl) (fun _ => rfl) ?_; intro v25; refine WS.oc (j := 1) rfl (fun hv25 => ?_)
   refine Wz 1 ?_
   refine Wd (Qb (Qc (Ny 1 ?_)))
   refine Wk 1 Za ?_
   refine Wd ?_
   refine QS.sel [1, 1] rfl ?_
   exact QS.head ((a.1 + 1, v25)) rfl (by first | simp only [filI_yes (p := (fun i => decide ((nth G.nts.l i).lk = lk))) ha1 (by exact decide_eq_true hc2)] | simp only [← filI_no (p := (fun i => decide ((nth G.nts.l i).lk = lk))) ha1 (by exact decide_eq_false hc2)]) ⟨⟨by simp; omega, by simp; omega⟩, by simp; omega⟩
  ·
   refine Ck (Qb (Qc (Ny 1 ?_)))
   refine Wk 1 Za ?_
   exact Wd (QS.head ((a.1 + 1, a.2)) rfl (by first | simp only [filI_yes (p := (fun i => decide ((nth G.nts.l i).lk = lk))) ha1 (by exact decide_eq_true hc2)] | simp only [← filI_no (p := (fun i => decide ((nth G.nts.l i).lk = lk))) ha1 (by exact decide_eq_false hc2)]) ⟨⟨by simp; omega, by simp; omega⟩, by simp; omega⟩)
 ·
  have hae : a.1 = G.nts.l.length := by omega
  refine Cv (Qe (Qe (Qx (Qc (Nz 2 ?_)))))
  exact Wd (Qc (Cr (out1 rfl rfl (retIe (j := 0) rfl (by rw [allN_p, ← hae]) rfl))))
end Go.Proofs.YtaeagngfhceceaaGreatDoor
