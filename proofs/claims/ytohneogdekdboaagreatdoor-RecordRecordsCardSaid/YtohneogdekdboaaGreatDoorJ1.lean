/- Contracts of functions, printed by a program of the prover (gen.py). -/
import Derived.Test.YtohneogdekdboaaGreatDoorXe
import Derived.Test.YtohneogdekdboaaGreatDoorY0
import Derived.Test.YtohneogdekdboaaGreatDoorY1
import Derived.Test.YtohneogdekdboaaGreatDoorY5
import Derived.Test.YtohneogdekdboaaGreatDoorY10
import Derived.Test.YtohneogdekdboaaGreatDoorY11
set_option maxHeartbeats 8000000
namespace Go.Proofs.YtohneogdekdboaaGreatDoor
open Go.RowKit Go.Proofs
set_option maxRecDepth 100000
set_option linter.unusedVariables false
set_option linter.unusedSimpArgs false
theorem Jlp (G : Game) (w : World) (hG : GameOk w G) (g : Sl ByteArray) (hW : GOk w g) (ms : Sl Timed) (hk : SlT cTimed w ms) :
  Calls Tryz.prog 3 #[.agg #[G.rm.pls.v, G.rm.ths.v, G.rm.prs.v, G.rm.wys.v, G.rm.acs.v, G.rm.aus.v, .int .i64 G.rm.ply, G.rm.gl.v, G.lks.v, G.cds.v, G.nts.v, .int .i64 G.tr], ms.v] w (RetB w (.bool true)) := by
 have lls := hk.le
 have hone := hk.one
 refine enter Tryz.func3 rfl rfl (Nat.le_of_ble_eq_true rfl) ?_
 refine Nz 0 ?_
 refine Wb 1 rfl rfl (fun _ => rfl) (fun _ => rfl) fun b2 hb2 => ?_
 refine Wd (Qc (Cs (Nz 0 ?_)))
 refine Wk 0 (Bb 0) ?_
 refine Wk 1 (Cb rfl rfl ent9 (fun u hu => Jmd G u (hG.st hu))) ?_
 refine Wf 0 rfl rfl (fun hg => Fm) ?_
 refine Wf 0 rfl rfl (fun hg => Nc (eg_ hg rfl)) ?_
 refine Wf 0 rfl rfl (fun hg => Fg) ?_
 refine Wk 0 Po ?_
 refine Wd (Qc (CS.cond rfl ?_ ?_))<;>intro hc1<;>try simp only [bq] at hc1
 ·
  refine Nz 0 ?_
  refine Wk 1 (Cb rfl rfl Jft (fun u hu => Jbu u g (hW.st hu))) ?_
  exact Wd (Qc (Cr (Qr (out1 rfl rfl retB))))
 have hn : NearG G := Jb6.1 hc1.1
 refine Ck (Qc (Nz 0 ?_))
 refine Wk 0 (Bb 0) ?_
 refine Wc rfl rfl Jnh (fun u hu => Jfs G u (hG.st hu) hn) (fun _ => rfl) ?_; rintro c ⟨hcp, uc, hcok⟩
 have hnc := Jhi hcp hn
 have o1 := Sl.one hcok.rm.pls
 have o2 := Sl.one hcok.rm.ths
 have o3 := Sl.one hcok.rm.prs
 have o4 := Sl.one hcok.rm.wys
 have o5 := Sl.one hcok.rm.acs
 have o6 := Sl.one hcok.rm.aus
 have o7 := Sl.one hcok.rm.gl
 have o8 := Sl.one hcok.lks
 have o9 := Sl.one hcok.cds
 have o10 := Sl.one hcok.nts
 refine WS.build0 sl37 zv77 (fun _ => rfl) ?_; intro v22
 refine Wz 1 ?_
 refine WS.append0 (j := 0) (news := Jaw cTimed ms.l) (m := ms.l.length) sl37 zv77 rfl (by decide) rfl rfl rfl (fun u hu => (hk.st hu).sp) hone (by omega) (by omega) (fun _ => rfl) (fun _ => rfl) ?_; intro v24
 refine Wc rfl rfl Jw8 (fun u hu => (by have q := Jgl c u (hu.ro (j := 1) rfl) hnc g (hW.st hu) ⟨v24, ms.l⟩ ⟨Jbe hu (j := 0) rfl, fun _ _ ↦ trivial⟩ (by show ms.l.length ≤ 1000; omega); rw [hcp] at q; exact q)) (fun _ => rfl) ?_; rintro v25 ⟨u25, h25⟩
 refine Wz 7 ?_
 refine Wd (Qc (Nz 0 ?_))
 refine Wk 1 (Bb 3) ?_
 refine Wc rfl rfl J8w (fun u hu => Jo6 G u (hG.st hu) hn ms (hk.st hu) (by omega)) (fun _ => rfl) ?_; rintro v32 ⟨u32, h32⟩
 refine Wz 7 ?_
 refine Wd (Qc (Nz 2 ?_))
 refine Wk 1 (Cb rfl rfl J5q (fun u hu => Jx1 ⟨v25, _⟩ ⟨v32, _⟩ u (hu.ro (j := 1) rfl) (hu.ro (j := 0) rfl))) ?_
 refine Wt 0 rfl rfl (fun hg => Fm) ?_
 refine Wt 0 rfl rfl (fun hg => Fm) ?_
 refine Wt 0 rfl rfl (fun hg => Fq) ?_
 refine Wk 1 Pa ?_
 refine Wt 0 rfl rfl (fun hg => Fm) ?_
 refine Wt 0 rfl rfl (fun hg => Fm) ?_
 refine Wt 0 rfl rfl (fun hg => Fq) ?_
 refine Wk 1 Pa ?_
 refine Wt 0 rfl rfl (fun hg => Cb rfl rfl Jft (fun u hu => Jbu u g (hW.st hu))) ?_
 refine Wk 1 Pa ?_
 exact Wd (Qc (Cr (out1 rfl rfl (Jab (by simp)))))
end Go.Proofs.YtohneogdekdboaaGreatDoor
