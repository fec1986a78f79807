/- Merged texts of this proof (walks and plain laws), printed by a program of the prover. -/
import Derived.Test.YtaeagngfhceceaaGreatDoorY0
import Derived.Test.YtaeagngfhceceaaGreatDoorY1
import Derived.Test.YtaeagngfhceceaaGreatDoorY5
import Derived.Test.YtaeagngfhceceaaGreatDoorY7
import Derived.Test.YtaeagngfhceceaaGreatDoorY26
import Derived.Test.YtaeagngfhceceaaGreatDoorZb
import Derived.Test.YtaeagngfhceceaaGreatDoorProg
import Derived.KernelRfl
import Derived.Test.YtaeagngfhceceaaGreatDoorZc
import Derived.Test.YtaeagngfhceceaaGreatDoorZp
import Derived.Test.YtaeagngfhceceaaGreatDoorZg
import Derived.Test.YtaeagngfhceceaaGreatDoorZt
import Derived.Test.YtaeagngfhceceaaGreatDoorZu
namespace Go.Proofs.YtaeagngfhceceaaGreatDoor
open Go.Proofs
theorem ent38 : Ent Tryz.prog 38 := ent_of Tryz.func38 (by kernel_rfl) rfl
theorem ent39 : Ent Tryz.prog 39 := ent_of Tryz.func39 (by kernel_rfl) rfl
end Go.Proofs.YtaeagngfhceceaaGreatDoor
set_option maxHeartbeats 8000000
namespace Go.Proofs.YtaeagngfhceceaaGreatDoor
open Go.RowKit Go.Proofs
set_option maxRecDepth 100000
set_option linter.unusedVariables false
set_option linter.unusedSimpArgs false
section
variable {P : Program} {n0 : Nat} {w0 : World} {L : List SA} {l : List Value} {d : Option Tmp} {ty : TypeId} {ps : String} {af : Array Edge} {g : Option (Nat × Bool)}
end
theorem OpensR_c (G : Game) (w : World) (hG : GameOk w G) (hn : NearG G) (p : Pos) (hp : PosOk w p) :
  Calls Tryz.prog 38 #[.agg #[G.rm.pls.v, G.rm.ths.v, G.rm.prs.v, G.rm.wys.v, G.rm.acs.v, G.rm.aus.v, .int .i64 G.rm.ply, G.rm.gl.v, G.lks.v, G.cds.v, G.nts.v, .int .i64 G.tr], .agg #[p.st.ths.v, p.st.prs.v, p.st.pls.v, p.rd.v]] w (RetBs w (OpensV G.p p.x).2 fun v => .tuple #[v, .int .i64 (OpensV G.p p.x).1]) := by
 have klk := hG.lks
 refine enter Tryz.func38 rfl rfl (Nat.le_of_ble_eq_true rfl) ?_
 refine Nz 0 ?_
 refine Wb 0 rfl rfl (fun _ => rfl) (fun _ => rfl) fun b2 hb2 => ?_
 refine Wb 2 rfl rfl (fun _ => rfl) (fun _ => rfl) fun b3 hb3 => ?_
 refine Wd (Qc (Nz 0 ?_))
 refine Wk 0 (Bb 1) ?_
 refine Wk 0 (Bb 0) ?_
 refine Wk 1 (Cb rfl rfl ent52 (fun u hu => RPos_c G u (hG.st hu) hn p (hp.toSt hu))) ?_
 refine Wd (Qc (Cs (Nz 2 ?_)))
 refine Wd (Qc (CS.cond rfl ?_ ?_))<;>intro hc1<;>try simp only [bq] at hc1
 ·
  refine Nz 3 ?_
  refine Wd (Qc (Cr (Qr ?_)))
  exact out2 rfl rfl rfl (by
    have hv : OpensV G.p p.x = (posG G.p p.x, []) := if_neg hc1
    rw [hv]
    exact fun u hu => retBs0 (f := fun v => .tuple #[v, .int .i64 (posG G.p p.x)]) hu)
 ·
  have hq : posG G.p p.x = 0 := hc1
  have hP := goodp_of hq
  have hnl := hP.nl
  refine Ck (Qc (Nz 1 ?_))
  refine Wd (Qc (Cs (Nz 1 ?_)))
  refine Wd (Qc (Ce ?_))
  refine CS.weak (fun _ hu => hu.osl0 (e := 4) (size := 1)) ?_
  refine CS.loopM (σ := Int × Value) [15, 16, 17, 18, 19, 20, 21, 22, 23, 24, 25, 26, 27, 28] (fun s => [(8, .int .i64 s.1), (7, s.2)]) (fun s => [oT cBool 4 s.2 ((iotaI s.1.toNat).map (openB G.p p.rd.l)), blk b3 [p.st.ths.v, p.st.prs.v, p.st.pls.v, p.rd.v] 68, blk b2 [G.rm.pls.v, G.rm.ths.v, G.rm.prs.v, G.rm.wys.v, G.rm.acs.v, G.rm.aus.v, .int .i64 G.rm.ply, G.rm.gl.v, G.lks.v, G.cds.v, G.nts.v, .int .i64 G.tr] 36]) (fun s => 0 ≤ s.1 ∧ s.1 ≤ G.lks.l.length) (fun s => (G.lks.l.length - s.1).toNat) (0, .slice none 0 0) (fun _ _ => rfl) rfl rfl ⟨by simp, by simp⟩ ?_
  intro a t hs
  obtain ⟨ha1, ha2⟩ := hs
  refine Cs (Nz 2 ?_)
  refine Wk 0 (Ba 2) ?_
  refine Wk 1 Nc ?_
  refine Wd (Qc (CS.cond rfl ?_ ?_))<;>intro hc2<;>try simp only [bq] at hc2
  ·
   have hil := iota_len (n := a.1.toNat)
   refine Ck (Qc (Cs (Ce (Ny 1 ?_))))
   refine Wk 0 (Bb 2) ?_
   refine Wk 1 (Bb 1) ?_
   refine Wk 0 (Cb rfl rfl ent94 (fun u hu => openR_c G u (hG.st hu) hP.toGoodG p (hp.toSt hu) hP.ln a.1 ha1 (by omega))) ?_
   refine WS.buildB1 (b := openB G.p p.rd.l a.1) sl66 zv4 rfl (fun _ => rfl) ?_; intro v27
   refine WS.appendT1 (j := 1) (jz := 0) sl66 zv4 rfl (by decide) rfl rfl rfl rfl (w := w) trivial (by simp; omega) (by simp; omega) (fun _ => rfl) (fun _ => rfl) ?_; intro v28 hv28
   refine Wz 1 ?_
   refine Wd (Qb (Qc (Ny 1 ?_)))
   refine Wk 1 Za ?_
   refine Wd ?_
   refine QS.sel [1, 1, 1] rfl ?_
   exact QS.head ((a.1 + 1, v28)) rfl (by simp only [iota_map ha1]) ⟨⟨by simp; omega, by simp; omega⟩, by simp; omega⟩
  ·
   have hae : a.1.toNat = G.lks.l.length := by omega
   refine Cv (Qe (Qe (Qx (Qc (Nz 3 ?_)))))
   refine Wd (Qc (Cr ?_))
   exact out2 rfl rfl rfl (by
     have hv : OpensV G.p p.x = (0, (iotaI a.1.toNat).map (openB G.p p.rd.l)) := by rw [hae]; exact if_pos hq
     rw [hv]
     exact fun u hu => retBs (f := fun v => .tuple #[v, .int .i64 0]) (j := 0) rfl hu)
end Go.Proofs.YtaeagngfhceceaaGreatDoor
set_option maxHeartbeats 8000000
namespace Go.Proofs.YtaeagngfhceceaaGreatDoor
open Go.RowKit Go.Proofs
set_option maxRecDepth 100000
set_option linter.unusedVariables false
set_option linter.unusedSimpArgs false
theorem sameBools_c (x y : Sl Bool) (w : World) (hx : SlT cBool w x) (hy : SlT cBool w y) :
  Calls Tryz.prog 39 #[x.v, y.v] w (RetB w (.bool (decide (x.l = y.l)))) := by
 have lx := hx.le
 have ly := hy.le
 refine enter Tryz.func39 rfl rfl (Nat.le_of_ble_eq_true rfl) ?_
 refine Nz 1 ?_
 refine Wd (Qc (Cs (Nz 1 ?_)))
 refine Wk 1 Nc ?_
 refine Wk 1 Nc ?_
 refine Wd (Qc (CS.cond rfl ?_ ?_))<;>intro hc1<;>try simp only [bq] at hc1
 ·
  refine Nz 1 ?_
  exact Wd (Qc (Cr (Qr (out1 rfl rfl (retBe (bool_f fun h => hc1 (by rw [h])))))))
 ·
  refine Ck (Qc (Cs (Nz 1 ?_)))
  refine Wd (Qc (Ce ?_))
  refine CS.loopM (σ := Int) [4, 11, 12, 13, 14, 15, 16, 17, 18, 19, 20, 21, 22, 23, 24, 25] (fun s => [(5, .int .i64 s)]) (fun _ => _) (fun s => 0 ≤ s ∧ s ≤ x.l.length ∧ ∀ j : Int, 0 ≤ j → j < s → nth x.l j = nth y.l j) (fun s => (x.l.length - s).toNat) 0 (fun _ _ => rfl) rfl rfl ⟨by omega, by omega, fun j _ _ => by omega⟩ ?_
  intro a t hs
  obtain ⟨ha1, ha2, ha3⟩ := hs
  refine Cs (Nz 2 ?_)
  refine Wk 1 Nc ?_
  refine Wd (Qc (CS.cond rfl ?_ ?_))<;>intro hc2<;>try simp only [bq] at hc2
  ·
   refine Ck (Qc (Cs (Ce (Cs (Dr mixed 2 ?_)))))
   refine Dk 0 Xc ?_
   refine Dk 2 Ub ?_
   refine Dk 0 Xc ?_
   refine Dk 0 Ub ?_
   refine Dk 0 (det_neb rfl rfl Tryz.underlying4) ?_
   refine Dd (Qc (CS.cond rfl ?_ ?_))<;>intro hc3<;>try simp only [bq] at hc3
   ·
    refine Nz 1 ?_
    exact Wd (Qc (Cr (Qs (Qr (Qr (Qs (Qr (out1 rfl rfl (retBe (bool_f fun h => hc3 (by rw [h])))))))))))
   ·
    refine Ck (Qb (Qc (Ny 1 ?_)))
    refine Wk 1 Za ?_
    refine Wd ?_
    exact QS.head (a + 1) rfl rfl ⟨⟨by omega, by omega, fun j h0 h1 => by
       rcases (show j < a ∨ j = a by omega) with h | h
       ·
        exact ha3 j h0 h
       ·
        rw [h]; exact hc3⟩, by omega⟩
  ·
   refine Cv (Qe (Qe (Qx (Qc (Nz 1 ?_)))))
   exact Wd (Qc (Cr (out1 rfl rfl (retBe (bool_t (nth_extG (by omega) fun i h0 h1 => ha3 i h0 (by omega)))))))
end Go.Proofs.YtaeagngfhceceaaGreatDoor
