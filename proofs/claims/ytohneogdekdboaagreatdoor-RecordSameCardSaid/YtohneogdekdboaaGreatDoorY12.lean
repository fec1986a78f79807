/- Merged texts of this proof (walks and plain laws), printed by a program of the prover. -/
import Derived.Test.YtohneogdekdboaaGreatDoorY0
import Derived.Test.YtohneogdekdboaaGreatDoorY2
import Derived.Test.YtohneogdekdboaaGreatDoorY3
import Derived.Test.YtohneogdekdboaaGreatDoorY4
import Derived.Test.YtohneogdekdboaaGreatDoorY7
import Derived.Test.YtohneogdekdboaaGreatDoorZb
import Derived.Test.YtohneogdekdboaaGreatDoorProg
import Derived.KernelRfl
import Derived.Test.YtohneogdekdboaaGreatDoorZc
import Derived.Test.YtohneogdekdboaaGreatDoorZf
import Derived.Test.YtohneogdekdboaaGreatDoorZn
import Derived.Test.YtohneogdekdboaaGreatDoorZk
import Derived.Test.YtohneogdekdboaaGreatDoorZo
import Derived.Test.YtohneogdekdboaaGreatDoorZv
import Derived.Test.YtohneogdekdboaaGreatDoorZw
namespace Go.Proofs.YtohneogdekdboaaGreatDoor
open Go.Proofs
theorem Jz2 : Ent Tryz.prog 28 := Jac Tryz.func28 (by kernel_rfl) rfl
theorem Kae : Ent Tryz.prog 54 := Jac Tryz.func54 (by kernel_rfl) rfl
end Go.Proofs.YtohneogdekdboaaGreatDoor
set_option maxHeartbeats 8000000
namespace Go.Proofs.YtohneogdekdboaaGreatDoor
open Go.RowKit Go.Proofs
set_option maxRecDepth 100000
set_option linter.unusedVariables false
set_option linter.unusedSimpArgs false
theorem Jrx (z y : Stt) (w : World) (hz : SttOk w z) (hy : SttOk w y) :
  Calls Tryz.prog 54 #[.agg #[z.ths.v, z.prs.v, z.pls.v], .agg #[y.ths.v, y.prs.v, y.pls.v]] w (RetB w (.bool (decide (z.ths.l = y.ths.l) && decide (z.prs.l = y.prs.l) && decide (z.pls.l = y.pls.l)))) := by
 have zth := hz.ths.ints
 have zpr := hz.prs.ints
 have zpl := hz.pls.ints
 have yth := hy.ths.ints
 have ypr := hy.prs.ints
 have ypl := hy.pls.ints
 refine enter Tryz.func54 rfl rfl (Nat.le_of_ble_eq_true rfl) ?_
 refine Nz 0 ?_
 refine Wb 0 rfl rfl (fun _ => rfl) (fun _ => rfl) fun b2 hb2 => ?_
 refine Wb 1 rfl rfl (fun _ => rfl) (fun _ => rfl) fun b3 hb3 => ?_
 refine Wd (Qc (Nz 1 ?_))
 refine Wk 1 (Ba 1) ?_
 refine Wk 0 (Ba 0) ?_
 refine Wk 1 (Cb rfl rfl Jjt (fun u hu => Jbz _ _ _ _ u (zth.st hu) (yth.st hu))) ?_
 refine Wt 0 rfl rfl (fun hg => Ff) ?_
 refine Wt 0 rfl rfl (fun hg => Ba 1) ?_
 refine Wt 0 rfl rfl (fun hg => Ff) ?_
 refine Wt 0 rfl rfl (fun hg => Ba 0) ?_
 refine Wt 0 rfl rfl (fun hg => Cb rfl (ec_ (eg_ hg rfl) (ec_ (eg_ hg rfl) en_)) Jjt (fun u hu => Jbz _ _ _ _ u (zpr.st hu) (ypr.st hu))) ?_
 refine Wk 1 Pa ?_
 refine Wt 0 rfl rfl (fun hg => Ff) ?_
 refine Wt 0 rfl rfl (fun hg => Ba 1) ?_
 refine Wt 0 rfl rfl (fun hg => Ff) ?_
 refine Wt 0 rfl rfl (fun hg => Ba 0) ?_
 refine Wt 0 rfl rfl (fun hg => Cb rfl (ec_ (eg_ hg rfl) (ec_ (eg_ hg rfl) en_)) Jjt (fun u hu => Jbz _ _ _ _ u (zpl.st hu) (ypl.st hu))) ?_
 refine Wk 1 Pa ?_
 exact Wd (Qc (Cr (out1 rfl rfl (Jab rfl))))
theorem Jvx (p y : Pos) (w : World) (hp : PosOk w p) (hy : PosOk w y) :
  Calls Tryz.prog 28 #[.agg #[p.st.ths.v, p.st.prs.v, p.st.pls.v, p.rd.v], .agg #[y.st.ths.v, y.st.prs.v, y.st.pls.v, y.rd.v]] w (RetB w (.bool (decide (p.x = y.x)))) := by
 have krd := hp.rd
 have yrd := hy.rd
 have lrd := krd.le
 have lry := yrd.le
 refine enter Tryz.func28 rfl rfl (Nat.le_of_ble_eq_true rfl) ?_
 refine Nz 0 ?_
 refine Wb 0 rfl rfl (fun _ => rfl) (fun _ => rfl) fun b2 hb2 => ?_
 refine Wb 1 rfl rfl (fun _ => rfl) (fun _ => rfl) fun b3 hb3 => ?_
 refine Wd (Qc (Cs (Nz 1 ?_)))
 refine Wk 1 (Bc 1) ?_
 refine Wk 0 (Bc 0) ?_
 refine Wk 2 (Cb rfl rfl Kae (fun u hu => Jrx p.st y.st u (hp.st.st hu) (hy.st.st hu))) ?_
 refine Wf 0 rfl rfl (fun hg => Ff) ?_
 refine Wf 0 rfl rfl (fun hg => Ba 1) ?_
 refine Wf 0 rfl rfl (fun hg => Nc (eg_ hg rfl)) ?_
 refine Wf 0 rfl rfl (fun hg => Ff) ?_
 refine Wf 0 rfl rfl (fun hg => Ba 0) ?_
 refine Wf 0 rfl rfl (fun hg => Nc (eg_ hg rfl)) ?_
 refine Wf 0 rfl rfl (fun hg => Fr) ?_
 refine Wk 0 Po ?_
 refine Wd (Qc (CS.cond rfl ?_ ?_))<;>intro hc1<;>try simp only [bq] at hc1
 ·
  refine Nz 1 ?_
  refine Wd (Qc (Cr (Qr ?_)))
  exact out1 rfl rfl (Jab (Jhg fun h => by
     have h1 := congrArg (fun q : PX => q.1) h
     have h2 := congrArg (fun q : PX => q.2) h
     simp only [Pos.x, Stt.x, Prod.mk.injEq] at h1 h2
     rw [h1.1, h1.2.1, h1.2.2, h2] at hc1
     simp at hc1))
 have hsx : p.st.x = y.st.x := by simp only [Stt.x, Prod.mk.injEq]; simp_all
 have hln : p.rd.l.length = y.rd.l.length := by omega
 refine Ck (Qc (Cs (Nz 1 ?_)))
 refine Wd (Qc (Ce ?_))
 refine CS.loopM (σ := Int) [4, 21, 22, 23, 24, 25, 26, 27, 28, 29, 30, 31, 32, 33, 34, 35, 36, 37, 38] (fun s => [(5, .int .i64 s)]) (fun _ => _) (fun s => 0 ≤ s ∧ s ≤ p.rd.l.length ∧ ∀ j : Int, 0 ≤ j → j < s → nth p.rd.l j = nth y.rd.l j) (fun s => (p.rd.l.length - s).toNat) 0 (fun _ _ => rfl) rfl rfl ⟨by omega, by omega, fun j _ _ => by omega⟩ ?_
 intro a t hs
 obtain ⟨ha1, ha2, ha3⟩ := hs
 refine Cs (Nz 2 ?_)
 refine Wk 0 (Ba 1) ?_
 refine Wk 1 Nc ?_
 refine Wd (Qc (CS.cond rfl ?_ ?_))<;>intro hc2<;>try simp only [bq] at hc2
 ·
  refine Ck (Qc (Cs (Ce (Cs (Dr Jai 1 ?_)))))
  refine Dk 1 (Ba 1) ?_
  refine Dk 0 Xc ?_
  refine Dk 1 Ub ?_
  refine Dk 1 (Ba 0) ?_
  refine Dk 0 Xc ?_
  refine Dk 0 Ub ?_
  refine Dk 0 (Jqv rfl rfl Tryz.underlying4) ?_
  refine Dd (Qc (CS.cond rfl ?_ ?_))<;>intro hc3<;>try simp only [bq] at hc3
  ·
   refine Nz 1 ?_
   exact Wd (Qc (Cr (Qs (Qr (Qr (Qs (Qr (out1 rfl rfl (Jab (Jhg fun h => hc3 (by have h2 := congrArg (fun q : PX => q.2) h; simp only [Pos.x] at h2; rw [h2])))))))))))
  refine Ck (Qb (Qc (Ny 1 ?_)))
  refine Wk 1 Za ?_
  refine Wd ?_
  exact QS.head (a + 1) rfl rfl ⟨⟨by omega, by omega, fun j h0 h1 => by
     rcases (show j < a ∨ j = a by omega) with h | h
     ·
      exact ha3 j h0 h
     rw [h]; exact hc3⟩, by omega⟩
 refine Cv (Qe (Qe (Qx (Qc (Nz 1 ?_)))))
 exact Wd (Qc (Cr (out1 rfl rfl (Jab (Joz (by unfold Pos.x; rw [hsx, Job hln fun i h0 h1 => ha3 i h0 (by omega)]))))))
theorem Jjz (p y : Pos) (w : World) (hp : PosOk w p) (hy : PosOk w y) (h : p.x = y.x) :
  Calls Tryz.prog 28 #[.agg #[p.st.ths.v, p.st.prs.v, p.st.pls.v, p.rd.v], .agg #[y.st.ths.v, y.st.prs.v, y.st.pls.v, y.rd.v]] w (RetB w (.bool true)) := by
 have q := Jvx p y w hp hy
 rwa [decide_eq_true h] at q
end Go.Proofs.YtohneogdekdboaaGreatDoor
