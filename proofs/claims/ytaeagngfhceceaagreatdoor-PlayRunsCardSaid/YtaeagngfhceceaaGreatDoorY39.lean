/- Merged texts of this proof (walks and plain laws), printed by a program of the prover. -/
import Derived.Test.YtaeagngfhceceaaGreatDoorY0
import Derived.Test.YtaeagngfhceceaaGreatDoorY1
import Derived.Test.YtaeagngfhceceaaGreatDoorY2
import Derived.Test.YtaeagngfhceceaaGreatDoorY3
import Derived.Test.YtaeagngfhceceaaGreatDoorY4
import Derived.Test.YtaeagngfhceceaaGreatDoorY5
import Derived.Test.YtaeagngfhceceaaGreatDoorY7
import Derived.Test.YtaeagngfhceceaaGreatDoorY8
import Derived.Test.YtaeagngfhceceaaGreatDoorY9
import Derived.Test.YtaeagngfhceceaaGreatDoorY10
import Derived.Test.YtaeagngfhceceaaGreatDoorY11
import Derived.Test.YtaeagngfhceceaaGreatDoorY12
import Derived.Test.YtaeagngfhceceaaGreatDoorY13
import Derived.Test.YtaeagngfhceceaaGreatDoorY15
import Derived.Test.YtaeagngfhceceaaGreatDoorY17
import Derived.Test.YtaeagngfhceceaaGreatDoorY19
import Derived.Test.YtaeagngfhceceaaGreatDoorY29
import Derived.Test.YtaeagngfhceceaaGreatDoorY30
import Derived.Test.YtaeagngfhceceaaGreatDoorZb
import Derived.Test.YtaeagngfhceceaaGreatDoorProg
import Derived.KernelRfl
import Derived.Test.YtaeagngfhceceaaGreatDoorZc
import Derived.Test.YtaeagngfhceceaaGreatDoorZp
import Derived.Test.YtaeagngfhceceaaGreatDoorZg
namespace Go.Proofs.YtaeagngfhceceaaGreatDoor
open Go.Proofs
theorem ent41 : Ent Tryz.prog 41 := ent_of Tryz.func41 (by kernel_rfl) rfl
end Go.Proofs.YtaeagngfhceceaaGreatDoor
set_option maxHeartbeats 8000000
namespace Go.Proofs.YtaeagngfhceceaaGreatDoor
open Go.RowKit Go.Proofs
set_option maxRecDepth 100000
set_option linter.unusedVariables false
set_option linter.unusedSimpArgs false
section
variable {P : Program} {n0 : Nat} {w0 : World} {L : List SA} {l : List Value} {d : Option Tmp} {ty : TypeId} {ps : String} {af : Array Edge} {g : Option (Nat × Bool)}
end
theorem RunR_c (G : Game) (w : World) (hG : GameOk w G) (hn : NearG G) (p : Pos) (hp : PosOk w p) (ms : Sl Move) (hk : SlT cMove w ms) :
  Calls Tryz.prog 41 #[.agg #[G.rm.pls.v, G.rm.ths.v, G.rm.prs.v, G.rm.wys.v, G.rm.acs.v, G.rm.aus.v, .int .i64 G.rm.ply, G.rm.gl.v, G.lks.v, G.cds.v, G.nts.v, .int .i64 G.tr], .agg #[p.st.ths.v, p.st.prs.v, p.st.pls.v, p.rd.v], ms.v] w (RetP w (RunGV G.p p.x ms.l).2.2 fun v => .tuple #[v, .int .i64 (RunGV G.p p.x ms.l).2.1, .int .i64 (RunGV G.p p.x ms.l).1]) := by
 have lms := hk.le
 refine enter Tryz.func41 rfl rfl (Nat.le_of_ble_eq_true rfl) ?_
 refine Nz 0 ?_
 refine Wb 0 rfl rfl (fun _ => rfl) (fun _ => rfl) fun b3 hb3 => ?_
 refine Wb 0 rfl rfl (fun _ => rfl) (fun _ => rfl) fun b4 hb4 => ?_
 refine Wl 2 zv68 (fun _ => rfl) (fun _ => rfl) fun b6 hb6 => ?_
 refine Wd (Qc (Nz 0 ?_))
 refine Wk 0 (Bb 2) ?_
 refine Wk 0 (Bb 1) ?_
 refine Wk 1 (Cb rfl rfl ent52 (fun u hu => RPos_c G u (hG.st hu) hn p (hp.toSt hu))) ?_
 refine Wd (Qc (Cs (Nz 2 ?_)))
 refine Wd (Qc (CS.cond rfl ?_ ?_))<;>intro hc1<;>try simp only [bq] at hc1
 ·
  have hS : ¬ posG G.p p.x = 0 := hc1
  refine Nz 0 ?_
  refine Wk 1 (Db plc68 zv68) ?_
  refine Wv 2 0 ?_
  refine Wd (Qc (Cr (Qr ?_)))
  exact outR (resctt rfl (cell_rvN (j := 0) rfl rfl tk68) rfl rfl) (by
    have hv : RunGV G.p p.x ms.l = (posG G.p p.x, 0, noP) := if_neg hS
    rw [hv]
    exact fun u hu => retP0 (f := fun v => .tuple #[v, .int .i64 (0), .int .i64 (posG G.p p.x)]) hu)
 ·
  have hS : posG G.p p.x = 0 := hc1
  have hP := goodp_of hS
  refine Ck (Qc (Cs (Nz 1 ?_)))
  refine Wk 1 Nc ?_
  refine Wd (Qc (CS.cond rfl ?_ ?_))<;>intro hc2<;>try simp only [bq] at hc2
  ·
   refine Nz 0 ?_
   refine Wk 0 (Db plc68 zv68) ?_
   refine Wv 2 0 ?_
   refine Wd (Qc (Cr (Qr ?_)))
   exact outR (resctt rfl (cell_rvN (j := 0) rfl rfl tk68) rfl rfl) (by
     have hv : RunGV G.p p.x ms.l = (2, 0, noP) := (if_pos hS).trans (if_pos (by omega))
     rw [hv]
     exact fun u hu => retP0 (f := fun v => .tuple #[v, .int .i64 (0), .int .i64 (2)]) hu)
  ·
   refine Ck (Qc (Nz 0 ?_))
   refine Wk 0 (Bb 1) ?_
   refine Wc rfl rfl ent29 (fun u hu => CopyPos_c p u (hp.toSt hu) hP.small) (fun _ => rfl) ?_; rintro y ⟨hyx, uy, hyok⟩
   obtain ⟨hya, hyb, hyc⟩ := hyok.st.ones
   have hyd := Sl.one hyok.rd
   refine Wl 0 zv68 (fun _ => rfl) (fun _ => rfl) fun b10 hb10 => ?_
   refine Wv 0 0 ?_
   refine Wd (Qc (Cs (Nz 1 ?_)))
   refine Wd (Qc (Ce ?_))
   refine CS.sel [1, 0, 0, 0, 0] rfl ?_
   refine CS.loopM (σ := Int × Pos) [7, 8, 12, 13, 27, 28, 29, 30, 31, 32, 33, 34, 35, 36, 37, 38, 39, 40, 41, 42, 43, 44, 45, 46, 47, 48] (fun s => [(11, .int .i64 s.1)]) (fun s => [roS fun u => PosOk u s.2, blk b10 [s.2.st.ths.v, s.2.st.prs.v, s.2.st.pls.v, s.2.rd.v] 68, blk b6 [.slice none 0 0, .slice none 0 0, .slice none 0 0, .slice none 0 0] 68, blk b4 [p.st.ths.v, p.st.prs.v, p.st.pls.v, p.rd.v] 68, blk b3 [G.rm.pls.v, G.rm.ths.v, G.rm.prs.v, G.rm.wys.v, G.rm.acs.v, G.rm.aus.v, .int .i64 G.rm.ply, G.rm.gl.v, G.lks.v, G.cds.v, G.nts.v, .int .i64 G.tr] 36]) (fun s => 0 ≤ s.1 ∧ s.1 ≤ ms.l.length ∧ (∃ u0, PosOk u0 s.2) ∧ RunGV G.p p.x ms.l = runGL G.p (ms.l.drop s.1.toNat) s.1 s.2.x) (fun s => (ms.l.length - s.1).toNat) (0, y) (fun _ _ => rfl) rfl rfl ⟨by simp, by simp, ⟨_, hyok⟩, by rw [hyx]; exact (if_pos hS).trans (if_neg (by omega))⟩ ?_
   intro s t hs
   obtain ⟨hs1, hs2, ⟨us, hsok⟩, hs4⟩ := hs
   obtain ⟨hsa, hsb, hsc⟩ := hsok.st.ones
   have hsd := Sl.one hsok.rd
   refine Cs (Nz 2 ?_)
   refine Wk 1 Nc ?_
   refine Wd (Qc (CS.cond rfl ?_ ?_))<;>intro hc3<;>try simp only [bq] at hc3
   ·
    refine Ck (Qc (Cs (Ce (Cs ?_))))
    refine CS.drawnAll (k := 13) mixed rfl rfl ?_
    refine Ak 0 [] rfl (Bb 4) ?_
    refine Ak 1 [2,3] rfl (Bb 1) ?_
    refine Ak 4 [] rfl Xc ?_
    refine Ak 5 [] rfl Ua ?_
    refine AS.two (i := 6) (j := 10) (by kernel_rfl) rfl rfl (by first | exact fun _ h => h | exact fun _ h => h.sub (by repeat first | exact List.Sublist.refl _ | apply List.Sublist.cons_cons | apply List.Sublist.cons)) rfl rfl ?_ ?_
    ·
     refine Wc rfl rfl ent49 (fun u hu => StepR_c G u (hG.st hu) hn s.2 (hu.ro (j := 0) rfl) (nth ms.l s.1)) (fun _ => rfl) ?_; rintro t2 ⟨ht2x, ut2, ht2ok⟩
     obtain ⟨ht2a, ht2b, ht2c⟩ := ht2ok.st.ones
     have ht2d := Sl.one ht2ok.rd
     refine Wd (Qa ?_)
     refine Ar [7,8,9] ?_
     refine Ao 10 rfl ?_
     refine Wl 0 zv68 (fun _ => rfl) (fun _ => rfl) fun b12 hb12 => ?_
     refine Wd (Qa ?_)
     refine Ao 11 rfl ?_
     refine Wv 0 0 ?_
     refine Wd (Qa ?_)
     refine Ar [12] ?_
     refine Ae ?_
     refine Qc (Cs (Nz 2 ?_))
     refine Wd (Qc (CS.cond rfl ?_ ?_))<;>intro hc4<;>try simp only [bq] at hc4
     ·
      have hE := hc4
      refine Nz 0 ?_
      refine Wk 2 (Db plc68 zv68) ?_
      refine Wv 2 4 ?_
      refine Wd (Qc (Cr (Qr (Qs (Qr (Qr (Qs (Qr ?_))))))))
      exact outR (resctt rfl (cell_rvN (j := 4) rfl rfl tk68) rfl rfl) (by
        have hv : RunGV G.p p.x ms.l = ((StepGV G.p s.2.x (nth ms.l s.1)).1, s.1, noP) := by rw [hs4, drop_cons hs1 (by omega), runGL, if_neg hE]
        rw [hv]
        exact fun u hu => retP0 (f := fun v => .tuple #[v, .int .i64 (s.1), .int .i64 ((StepGV G.p s.2.x (nth ms.l s.1)).1)]) hu)
     ·
      have hE := hc4
      refine Ck (Qc (Ny 0 ?_))
      refine Wk 0 (Bb 0) ?_
      refine Wv 0 3 ?_
      refine Wd (Qb (Qc (Ny 1 ?_)))
      refine Wk 1 Za ?_
      refine Wd ?_
      refine QS.sel [1, 2, 2, 2, 2] rfl ?_
      skip
      exact QS.head ((s.1 + 1, t2)) rfl rfl ⟨⟨by simp; omega, by simp; omega, ⟨_, ht2ok⟩, by
          rw [hs4, drop_cons hs1 (by omega), runGL, if_pos hE, ht2x]⟩, by simp; omega⟩
    ·
     refine Wl 0 zv68 (fun _ => rfl) (fun _ => rfl) fun b12 hb12 => ?_
     refine Wd (Qa ?_)
     refine Ao 6 rfl ?_
     refine Wc rfl rfl ent49 (fun u hu => StepR_c G u (hG.st hu) hn s.2 (hu.ro (j := 1) rfl) (nth ms.l s.1)) (fun _ => rfl) ?_; rintro t2 ⟨ht2x, ut2, ht2ok⟩
     obtain ⟨ht2a, ht2b, ht2c⟩ := ht2ok.st.ones
     have ht2d := Sl.one ht2ok.rd
     refine Wd (Qa ?_)
     refine Ar [7,8,9] ?_
     refine Ao 11 rfl ?_
     refine Wv 0 1 ?_
     refine Wd (Qa ?_)
     refine Ar [12] ?_
     refine Ae ?_
     refine Qc (Cs (Nz 2 ?_))
     refine Wd (Qc (CS.cond rfl ?_ ?_))<;>intro hc5<;>try simp only [bq] at hc5
     ·
      have hE := hc5
      refine Nz 0 ?_
      refine Wk 2 (Db plc68 zv68) ?_
      refine Wv 2 4 ?_
      refine Wd (Qc (Cr (Qr (Qs (Qr (Qr (Qs (Qr ?_))))))))
      exact outR (resctt rfl (cell_rvN (j := 4) rfl rfl tk68) rfl rfl) (by
        have hv : RunGV G.p p.x ms.l = ((StepGV G.p s.2.x (nth ms.l s.1)).1, s.1, noP) := by rw [hs4, drop_cons hs1 (by omega), runGL, if_neg hE]
        rw [hv]
        exact fun u hu => retP0 (f := fun v => .tuple #[v, .int .i64 (s.1), .int .i64 ((StepGV G.p s.2.x (nth ms.l s.1)).1)]) hu)
     ·
      have hE := hc5
      refine Ck (Qc (Ny 0 ?_))
      refine Wk 0 (Bb 1) ?_
      refine Wv 0 3 ?_
      refine Wd (Qb (Qc (Ny 1 ?_)))
      refine Wk 1 Za ?_
      refine Wd ?_
      refine QS.sel [0, 2, 2, 2, 2] rfl ?_
      skip
      exact QS.head ((s.1 + 1, t2)) rfl rfl ⟨⟨by simp; omega, by simp; omega, ⟨_, ht2ok⟩, by
          rw [hs4, drop_cons hs1 (by omega), runGL, if_pos hE, ht2x]⟩, by simp; omega⟩
   ·
    refine Cv (Qe (Qe (Qx (Qc (Nz 0 ?_)))))
    refine Wk 0 (Bb 1) ?_
    refine Wv 2 2 ?_
    refine Wd (Qc (Cr ?_))
    exact outR (resctt rfl (cell_rvN (j := 2) rfl rfl tk68) rfl rfl) (by
      have hv : RunGV G.p p.x ms.l = (0, 0, s.2.x) := by rw [hs4, List.drop_of_length_le (by omega)]; rfl
      rw [hv]
      exact fun u hu => retPr (f := fun v => .tuple #[v, .int .i64 0, .int .i64 0]) (j := 0) rfl rfl hu)
end Go.Proofs.YtaeagngfhceceaaGreatDoor
