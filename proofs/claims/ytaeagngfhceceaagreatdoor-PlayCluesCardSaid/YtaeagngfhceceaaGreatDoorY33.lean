/- Merged texts of this proof (walks and plain laws), printed by a program of the prover. -/
import Derived.Test.YtaeagngfhceceaaGreatDoorY0
import Derived.Test.YtaeagngfhceceaaGreatDoorY1
import Derived.Test.YtaeagngfhceceaaGreatDoorY2
import Derived.Test.YtaeagngfhceceaaGreatDoorY5
import Derived.Test.YtaeagngfhceceaaGreatDoorY6
import Derived.Test.YtaeagngfhceceaaGreatDoorZb
import Derived.Test.YtaeagngfhceceaaGreatDoorProg
import Derived.KernelRfl
import Derived.Test.YtaeagngfhceceaaGreatDoorZc
import Derived.Test.YtaeagngfhceceaaGreatDoorZn
import Derived.Test.YtaeagngfhceceaaGreatDoorZk
import Derived.Test.YtaeagngfhceceaaGreatDoorZo
import Derived.Test.YtaeagngfhceceaaGreatDoorZp
import Derived.Test.YtaeagngfhceceaaGreatDoorZg
import Derived.Test.YtaeagngfhceceaaGreatDoorZq
namespace Go.Proofs.YtaeagngfhceceaaGreatDoor
set_option linter.unusedVariables false
set_option linter.unusedSimpArgs false
open Go.RowKit
def CluesV (G : GP) (x : PX) (lk : Int) : Int × List Int := if lockG G x lk = 0 then (0, cluN G x.2 lk) else (lockG G x lk, [])
theorem Game.p_lks (g : Game) : g.p.lks = g.lks.l := rfl
end Go.Proofs.YtaeagngfhceceaaGreatDoor
namespace Go.Proofs.YtaeagngfhceceaaGreatDoor
open Go.Proofs
theorem ent32 : Ent Tryz.prog 32 := ent_of Tryz.func32 (by kernel_rfl) rfl
theorem ent33 : Ent Tryz.prog 33 := ent_of Tryz.func33 (by kernel_rfl) rfl
theorem ent35 : Ent Tryz.prog 35 := ent_of Tryz.func35 (by kernel_rfl) rfl
theorem ent88 : Ent Tryz.prog 88 := ent_of Tryz.func88 (by kernel_rfl) rfl
theorem ent89 : Ent Tryz.prog 89 := ent_of Tryz.func89 (by kernel_rfl) rfl
end Go.Proofs.YtaeagngfhceceaaGreatDoor
set_option maxHeartbeats 8000000
namespace Go.Proofs.YtaeagngfhceceaaGreatDoor
open Go.RowKit Go.Proofs
set_option maxRecDepth 100000
set_option linter.unusedVariables false
set_option linter.unusedSimpArgs false
theorem locked_c (G : Game) (w : World) (hG : GameOk w G) (hn : NearG G) (p : Pos) (hp : PosOk w p) (lk : Int) :
  Calls Tryz.prog 89 #[.agg #[G.rm.pls.v, G.rm.ths.v, G.rm.prs.v, G.rm.wys.v, G.rm.acs.v, G.rm.aus.v, .int .i64 G.rm.ply, G.rm.gl.v, G.lks.v, G.cds.v, G.nts.v, .int .i64 G.tr], .agg #[p.st.ths.v, p.st.prs.v, p.st.pls.v, p.rd.v], .int .i64 lk] w (RetB w (.int .i64 (lockG G.p p.x lk))) := by
 have klk := hG.lks
 have llk := hG.lks.le
 refine enter Tryz.func89 rfl rfl (Nat.le_of_ble_eq_true rfl) ?_
 refine Nz 0 ?_
 refine Wb 0 rfl rfl (fun _ => rfl) (fun _ => rfl) fun b3 hb3 => ?_
 refine Wb 1 rfl rfl (fun _ => rfl) (fun _ => rfl) fun b4 hb4 => ?_
 refine Wd (Qc (Nz 0 ?_))
 refine Wk 0 (Bb 1) ?_
 refine Wk 0 (Bb 0) ?_
 refine Wk 1 (Cb rfl rfl ent52 (fun u hu => RPos_c G u (hG.st hu) hn p (hp.toSt hu))) ?_
 refine Wd (Qc (Cs (Nz 2 ?_)))
 refine Wd (Qc (CS.cond rfl ?_ ?_))<;>intro hc1<;>try simp only [bq] at hc1
 ·
  refine Nz 2 ?_
  exact Wd (Qc (Cr (Qr (out1 rfl rfl (retBe (by rw [lockG, or0_n rfl hc1]))))))
 ·
  refine Ck (Qc (Cs (Nz 2 ?_)))
  refine Wk 0 (Ba 1) ?_
  refine Wk 0 Nc ?_
  refine Wk 0 Zb ?_
  refine Wk 1 (Cb rfl rfl ent61 (fun u hu => gfrom_c _ _ _ u)) ?_
  refine Wd (Qc (CS.cond rfl ?_ ?_))<;>intro hc2<;>try simp only [bq] at hc2
  ·
   refine Nz 1 ?_
   exact Wd (Qc (Cr (Qr (out1 rfl rfl (retBe (by rw [lockG, or0_z hc1, Game.p_lks, if_neg (show ¬ (decide (0 ≤ lk) && decide (lk ≤ (G.lks.l.length : Int) - 1)) = true from by simp only [Bool.and_eq_true, decide_eq_true_eq]; omega)]))))))
  ·
   refine Ck (Qc (Nz 1 ?_))
   exact Wd (Qc (Cr (out1 rfl rfl (retBe (by rw [lockG, or0_z hc1, Game.p_lks, if_pos (show (decide (0 ≤ lk) && decide (lk ≤ (G.lks.l.length : Int) - 1)) = true from by simp only [Bool.and_eq_true, decide_eq_true_eq]; omega)])))))
end Go.Proofs.YtaeagngfhceceaaGreatDoor
set_option maxHeartbeats 8000000
namespace Go.Proofs.YtaeagngfhceceaaGreatDoor
open Go.RowKit Go.Proofs
set_option maxRecDepth 100000
set_option linter.unusedVariables false
set_option linter.unusedSimpArgs false
section
variable {P : Program} {n0 : Nat} {w0 : World} {L : List SA} {l : List Value} {d : Option Tmp} {ty : TypeId} {ps : String} {af : Array Edge} {g : Option (Nat × Bool)}
end
theorem CluesR_c (G : Game) (w : World) (hG : GameOk w G) (hn : NearG G) (p : Pos) (hp : PosOk w p) (lk : Int) :
  Calls Tryz.prog 33 #[.agg #[G.rm.pls.v, G.rm.ths.v, G.rm.prs.v, G.rm.wys.v, G.rm.acs.v, G.rm.aus.v, .int .i64 G.rm.ply, G.rm.gl.v, G.lks.v, G.cds.v, G.nts.v, .int .i64 G.tr], .agg #[p.st.ths.v, p.st.prs.v, p.st.pls.v, p.rd.v], .int .i64 lk] w (fun e w' => ∃ x : Value, (∃ u0, SlI u0 x (CluesV G.p p.x lk).2) ∧ RetF w (.tuple #[x, .int .i64 (CluesV G.p p.x lk).1]) (roI x (CluesV G.p p.x lk).2) e w') := by
 refine enter Tryz.func33 rfl rfl (Nat.le_of_ble_eq_true rfl) ?_
 refine Nz 0 ?_
 refine Wb 0 rfl rfl (fun _ => rfl) (fun _ => rfl) fun b3 hb3 => ?_
 refine Wb 2 rfl rfl (fun _ => rfl) (fun _ => rfl) fun b4 hb4 => ?_
 refine Wd (Qc (Nz 0 ?_))
 refine Wk 0 (Bb 1) ?_
 refine Wk 1 (Bb 0) ?_
 refine Wk 1 (Cb rfl rfl ent89 (fun u hu => locked_c G u (hG.st hu) hn p (hp.toSt hu) _)) ?_
 refine Wd (Qc (Cs (Nz 2 ?_)))
 refine Wd (Qc (CS.cond rfl ?_ ?_))<;>intro hc1<;>try simp only [bq] at hc1
 ·
  refine Nz 3 ?_
  refine Wd (Qc (Cr (Qr ?_)))
  exact out2 rfl rfl rfl (by
    have hv : CluesV G.p p.x lk = (lockG G.p p.x lk, []) := if_neg hc1
    rw [hv]
    exact retIn (f := fun v => .tuple #[v, .int .i64 (lockG G.p p.x lk)]) rfl rfl)
 ·
  have hq := lockG_pos hc1
  have hP := goodp_of hq
  have hnn := hP.nn
  have hin := lockG_in hc1
  refine Ck (Qc (Nz 0 ?_))
  refine Wk 0 (Bb 1) ?_
  refine Wk 1 (Bb 0) ?_
  refine Wc rfl rfl ent90 (fun u hu => clues_c G u (hG.st hu) p (hp.toSt hu) hP.ln (by omega) _) (fun _ => rfl) ?_; rintro vc ⟨uc, hvc⟩
  refine Wz 2 ?_
  refine Wd (Qc (Cr ?_))
  exact out2 rfl rfl rfl (by
    have hv : CluesV G.p p.x lk = (0, cluN G.p p.rd.l lk) := if_pos hc1
    rw [hv]
    exact retIp (v := vc) (f := fun v => .tuple #[v, .int .i64 0]) (fun S u hs => Star.ro (j := 0) rfl hs) rfl)
theorem ReadingsR_c (G : Game) (w : World) (hG : GameOk w G) (hn : NearG G) (p : Pos) (hp : PosOk w p) (lk : Int) :
  Calls Tryz.prog 35 #[.agg #[G.rm.pls.v, G.rm.ths.v, G.rm.prs.v, G.rm.wys.v, G.rm.acs.v, G.rm.aus.v, .int .i64 G.rm.ply, G.rm.gl.v, G.lks.v, G.cds.v, G.nts.v, .int .i64 G.tr], .agg #[p.st.ths.v, p.st.prs.v, p.st.pls.v, p.rd.v], .int .i64 lk] w (RetB w (.tuple #[.int .i64 (ReadingsV G.p p.x lk).2, .int .i64 (ReadingsV G.p p.x lk).1])) := by
 refine enter Tryz.func35 rfl rfl (Nat.le_of_ble_eq_true rfl) ?_
 refine Nz 0 ?_
 refine Wb 0 rfl rfl (fun _ => rfl) (fun _ => rfl) fun b3 hb3 => ?_
 refine Wb 2 rfl rfl (fun _ => rfl) (fun _ => rfl) fun b4 hb4 => ?_
 refine Wd (Qc (Nz 0 ?_))
 refine Wk 0 (Bb 1) ?_
 refine Wk 1 (Bb 0) ?_
 refine Wk 1 (Cb rfl rfl ent89 (fun u hu => locked_c G u (hG.st hu) hn p (hp.toSt hu) _)) ?_
 refine Wd (Qc (Cs (Nz 2 ?_)))
 refine Wd (Qc (CS.cond rfl ?_ ?_))<;>intro hc1<;>try simp only [bq] at hc1
 ·
  refine Nz 3 ?_
  exact Wd (Qc (Cr (Qr (out2 rfl rfl rfl (retBe (by rw [show ReadingsV G.p p.x lk = (lockG G.p p.x lk, 0) from if_neg hc1]))))))
 ·
  have hq := lockG_pos hc1
  have hP := goodp_of hq
  have hnn := hP.nn
  have hin := lockG_in hc1
  refine Ck (Qc (Cs ?_))
  refine CS.drawnAll (k := 9) mixed rfl rfl ?_
  refine Ak 0 [1] rfl (Bb 1) ?_
  refine Ak 2 [] rfl (Bb 1) ?_
  refine Ak 3 [4] rfl (Bb 0) ?_
  refine Ao 5 rfl ?_
  refine Wc rfl rfl ent90 (fun u hu => clues_c G u (hG.st hu) p (hp.toSt hu) hP.ln (by omega) _) (fun _ => rfl) ?_; rintro vc ⟨uc, hvc⟩
  refine Wd (Qa ?_)
  refine Ao 6 rfl ?_
  refine Wk 0 (Cb rfl rfl ent92 (fun u hu => readingsR_c G u (hG.st hu) hP.toGoodG _ hin.1 hin.2 _ _ (hu.ro (j := 0) rfl) clu_of (Nat.le_trans (clu_len hP.toGoodG _ _) (by decide)))) ?_
  refine Wd (Qa ?_)
  refine Ar [7,8] ?_
  refine Ae ?_
  exact Qc (Cr (out2 rfl rfl rfl (retBe (by rw [show ReadingsV G.p p.x lk = (0, readN G.p lk (cluN G.p p.rd.l lk)) from if_pos hc1]))))
end Go.Proofs.YtaeagngfhceceaaGreatDoor
set_option maxHeartbeats 8000000
namespace Go.Proofs.YtaeagngfhceceaaGreatDoor
open Go.RowKit Go.Proofs
set_option maxRecDepth 100000
set_option linter.unusedVariables false
set_option linter.unusedSimpArgs false
theorem CluesF_c (p : Pos) (w : World) (hp : PosOk w p) (b : Nat) (e : TypeId) (hb : BlkAt w b [p.st.ths.v, p.st.prs.v, p.st.pls.v, p.rd.v] e) (i : Int) (h0 : 0 ≤ i) (h1 : i < p.rd.l.length) :
  Calls Tryz.prog 88 #[.int .i64 i, .pointer (some ⟨b, 0, none⟩)] w (RetB w (.bool (nth p.rd.l i))) := by
 have krd := hp.rd
 refine enter Tryz.func88 rfl rfl (Nat.le_of_ble_eq_true rfl) ?_
 refine Nz 1 ?_
 refine Wd (Qc (Nz 1 ?_))
 refine Wk 1 Ga ?_
 refine Wk 0 Xc ?_
 refine Wk 1 Ub ?_
 exact Wd (Qc (Cr (out1 rfl rfl retB)))
theorem CluesI_c (G : Game) (w : World) (hG : GameOk w G) (g : Sl ByteArray) (hW : GOk w g) (hn : NearG G) (p : Pos) (hp : PosOk w p) (lk : Int) :
  Calls Tryz.prog 32 #[.agg #[G.rm.pls.v, G.rm.ths.v, G.rm.prs.v, G.rm.wys.v, G.rm.acs.v, G.rm.aus.v, .int .i64 G.rm.ply, G.rm.gl.v, G.lks.v, G.cds.v, G.nts.v, .int .i64 G.tr], .agg #[p.st.ths.v, p.st.prs.v, p.st.pls.v, p.rd.v], .int .i64 lk] w (fun e w' => ∃ x : Value, (∃ u0, SlI u0 x (CluesV G.p p.x lk).2) ∧ RetF w (.tuple #[x, .int .i64 (CluesV G.p p.x lk).1]) (roI x (CluesV G.p p.x lk).2) e w') := by
 refine enter Tryz.func32 rfl rfl (Nat.le_of_ble_eq_true rfl) ?_
 refine Nz 0 ?_
 refine Wb 0 rfl rfl (fun _ => rfl) (fun _ => rfl) fun b3 hb3 => ?_
 refine Wb 2 rfl rfl (fun _ => rfl) (fun _ => rfl) fun b4 hb4 => ?_
 refine Wd (Qc (Cs (Nz 0 ?_)))
 refine Wk 0 (Bb 1) ?_
 refine Wk 1 (Bb 0) ?_
 refine Wk 1 (Cb rfl rfl ent87 (fun u hu => checkLock_c G u (hG.st hu) g (hW.st hu) hn p (hp.toSt hu) _)) ?_
 refine Wd (Qc (Nz 2 ?_))
 refine Wd (Qc (CS.cond rfl ?_ ?_))<;>intro hc1<;>try simp only [bq] at hc1
 ·
  refine Nz 3 ?_
  refine Wd (Qc (Cr (Qr ?_)))
  exact out2 rfl rfl rfl (by
    have hv : CluesV G.p p.x lk = (lockG G.p p.x lk, []) := if_neg hc1
    rw [hv]
    exact retIn (f := fun v => .tuple #[v, .int .i64 (lockG G.p p.x lk)]) rfl rfl)
 ·
  have hq := lockG_pos hc1
  have hP := goodp_of hq
  have hnn := hP.nn
  have hin := lockG_in hc1
  have hpl := hP.ln
  refine Ck (Qc (Nz 0 ?_))
  refine Wk 1 (Bb 1) ?_
  refine Wk 0 (det_makeFunc rfl) ?_
  refine Wc rfl rfl ent64 (fun u hu => about_c G u (hG.st hu) (by omega) lk _ [.pointer (some ⟨b4, 0, none⟩)] (fun i ↦ nth p.rd.l i) ent88 (fun u2 h2 i a0 a1 ↦ CluesF_c p u2 ((hp.toSt hu).ext h2) _ _ ((st_blk hu (j := 0) rfl).ext h2) i a0 (by omega))) (fun _ => rfl) ?_; rintro ⟨v23, v24⟩ ⟨hv23, hv24⟩
  refine WS.unpack ?_
  refine Wz 5 ?_
  refine Wd (Qc (Nz 3 ?_))
  refine Wd (Qc (Cr ?_))
  exact out2 rfl rfl rfl (by
    have hv : CluesV G.p p.x lk = (0, cluN G.p p.rd.l lk) := if_pos hc1
    rw [hv]
    exact retIe (f := fun v => .tuple #[v, .int .i64 0]) (j := 0) rfl (about_clu _ _ _) rfl)
end Go.Proofs.YtaeagngfhceceaaGreatDoor
