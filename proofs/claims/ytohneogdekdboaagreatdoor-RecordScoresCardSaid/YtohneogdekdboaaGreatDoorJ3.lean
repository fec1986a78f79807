/- Contracts of functions, printed by a program of the prover (gen.py). -/
import Derived.Test.YtohneogdekdboaaGreatDoorXe
import Derived.Test.YtohneogdekdboaaGreatDoorY1
import Derived.Test.YtohneogdekdboaaGreatDoorY2
import Derived.Test.YtohneogdekdboaaGreatDoorY4
import Derived.Test.YtohneogdekdboaaGreatDoorY6
import Derived.Test.YtohneogdekdboaaGreatDoorY13
import Derived.Test.YtohneogdekdboaaGreatDoorY14
import Derived.Test.YtohneogdekdboaaGreatDoorY18
set_option maxHeartbeats 8000000
namespace Go.Proofs.YtohneogdekdboaaGreatDoor
open Go.RowKit Go.Proofs
set_option maxRecDepth 100000
set_option linter.unusedVariables false
set_option linter.unusedSimpArgs false
theorem Jlw (G : Game) (w : World) (hG : GameOk w G) (g : Sl ByteArray) (hW : GOk w g) (l : Sl Entr) (hk : SlT cEntry w l) (pen : Int) :
  Calls Tryz.prog 5 #[.agg #[G.rm.pls.v, G.rm.ths.v, G.rm.prs.v, G.rm.wys.v, G.rm.acs.v, G.rm.aus.v, .int .i64 G.rm.ply, G.rm.gl.v, G.lks.v, G.cds.v, G.nts.v, .int .i64 G.tr], l.v, .int .i64 pen] w (RetB w (.bool true)) := by
 have lls := hk.le
 refine enter Tryz.func5 rfl rfl (Nat.le_of_ble_eq_true rfl) ?_
 refine Nz 0 ?_
 refine Wb 1 rfl rfl (fun _ => rfl) (fun _ => rfl) fun b3 hb3 => ?_
 refine Wd (Qc (Cs (Nz 0 ?_)))
 refine Wk 0 (Bb 0) ?_
 refine Wk 1 (Cb rfl rfl ent9 (fun u hu => Jmd G u (hG.st hu))) ?_
 refine Wf 0 rfl rfl (fun hg => Fm) ?_
 refine Wf 0 rfl rfl (fun hg => Nc (eg_ hg rfl)) ?_
 refine Wf 0 rfl rfl (fun hg => Fg) ?_
 refine Wk 0 Po ?_
 refine Wd (Qc (CS.cond rfl ?_ ?_))<;>intro hc1<;>try simp only [bq] at hc1
 ·
  refine Nz 0 ?_
  refine Wk 1 (Cb rfl rfl Jft (fun u hu => Jbu u g (hW.st hu))) ?_
  exact Wd (Qc (Cr (Qr (out1 rfl rfl retB))))
 have hn : NearG G := Jb6.1 hc1.1
 refine Ck (Qc (Nz 0 ?_))
 refine Wk 0 (Bb 0) ?_
 refine Wc rfl rfl Jnh (fun u hu => Jfs G u (hG.st hu) hn) (fun _ => rfl) ?_; rintro c ⟨hcp, uc, hcok⟩
 have hnc := Jhi hcp hn
 have o1 := Sl.one hcok.rm.pls
 have o2 := Sl.one hcok.rm.ths
 have o3 := Sl.one hcok.rm.prs
 have o4 := Sl.one hcok.rm.wys
 have o5 := Sl.one hcok.rm.acs
 have o6 := Sl.one hcok.rm.aus
 have o7 := Sl.one hcok.rm.gl
 have o8 := Sl.one hcok.lks
 have o9 := Sl.one hcok.cds
 have o10 := Sl.one hcok.nts
 refine Wz 1 ?_
 refine Wc rfl rfl Jhe (fun u hu => Jbs l u (hk.st hu) (by omega)) (fun _ => rfl) ?_; rintro v31 ⟨u31, h31⟩
 refine Wk 7 (Cb rfl rfl J05 (fun u hu => (by have q := Jg8 c u (hu.ro (j := 1) rfl) hnc g (hW.st hu) ⟨v31, l.l⟩ (hu.ro (j := 0) rfl); rw [hcp] at q; exact q))) ?_
 refine Wd (Qc (Nz 0 ?_))
 refine Wk 1 (Bb 2) ?_
 refine Wk 7 (Cb rfl rfl J67 (fun u hu => Jl7 G u (hG.st hu) hn l (hk.st hu))) ?_
 refine Wd (Qc (Nz 0 ?_))
 refine Wk 0 (Bb 2) ?_
 refine Wc rfl rfl Jnh (fun u hu => Jfs G u (hG.st hu) hn) (fun _ => rfl) ?_; rintro c ⟨hcp, uc, hcok⟩
 have hnc := Jhi hcp hn
 have o1 := Sl.one hcok.rm.pls
 have o2 := Sl.one hcok.rm.ths
 have o3 := Sl.one hcok.rm.prs
 have o4 := Sl.one hcok.rm.wys
 have o5 := Sl.one hcok.rm.acs
 have o6 := Sl.one hcok.rm.aus
 have o7 := Sl.one hcok.rm.gl
 have o8 := Sl.one hcok.lks
 have o9 := Sl.one hcok.cds
 have o10 := Sl.one hcok.nts
 refine Wz 1 ?_
 refine Wc rfl rfl Jhe (fun u hu => Jbs l u (hk.st hu) (by omega)) (fun _ => rfl) ?_; rintro v47 ⟨u47, h47⟩
 refine Wz 1 ?_
 refine Wk 5 (Cb rfl rfl J56 (fun u hu => (by have q := Jkt c u (hu.ro (j := 1) rfl) hnc g (hW.st hu) ⟨v47, l.l⟩ (hu.ro (j := 0) rfl) pen; rw [hcp] at q; exact q))) ?_
 refine Wd (Qc (Nz 0 ?_))
 refine Wk 2 (Bb 4) ?_
 refine Wk 5 (Cb rfl rfl Kav (fun u hu => Jqh G u (hG.st hu) hn l (hk.st hu) pen)) ?_
 refine Wd (Qc (Cs (Nz 4 ?_)))
 refine Wf 0 rfl rfl (fun hg => Fm) ?_
 refine Wf 0 rfl rfl (fun hg => Fm) ?_
 refine Wf 0 rfl rfl (fun hg => Fr) ?_
 refine Wk 1 Po ?_
 refine Wf 0 rfl rfl (fun hg => Fm) ?_
 refine Wf 0 rfl rfl (fun hg => Fm) ?_
 refine Wf 0 rfl rfl (fun hg => Fr) ?_
 refine Wk 1 Po ?_
 refine Wf 0 rfl rfl (fun hg => Fm) ?_
 refine Wf 0 rfl rfl (fun hg => Fm) ?_
 refine Wf 0 rfl rfl (fun hg => Fr) ?_
 refine Wk 1 Po ?_
 refine Wf 0 rfl rfl (fun hg => Fm) ?_
 refine Wf 0 rfl rfl (fun hg => Fm) ?_
 refine Wf 0 rfl rfl (fun hg => Fr) ?_
 refine Wk 0 Po ?_
 refine Wd (Qc (CS.cond rfl ?_ ?_))<;>intro hc2<;>try simp only [bq] at hc2
 ·
  exact absurd hc2 (by simp)
 refine Ck (Qc (Cs (Nz 3 ?_)))
 refine Wf 0 rfl rfl (fun hg => Fm) ?_
 refine Wf 0 rfl rfl (fun hg => Fq) ?_
 refine Wk 0 Po ?_
 refine Wd (Qc (CS.cond rfl ?_ ?_))<;>intro hc3<;>try simp only [bq] at hc3
 ·
  refine Nz 0 ?_
  refine Wk 1 (Cb rfl rfl Jft (fun u hu => Jbu u g (hW.st hu))) ?_
  exact Wd (Qc (Cr (Qr (out1 rfl rfl retB))))
 have hS : (Jdi G.p l.l pen).1 = 0 ∧ ¬ pen = 10000 := by first | exact hc3 | (simp at hc3; exact hc3)
 obtain ⟨hE, hp, hen⟩ := J1w hS.1
 obtain ⟨b1, b2, b3, b4⟩ := Jny hE hen
 have hpm := Jq1 hp.1 hp.2 b3 b4
 have hs1 := Jif hE hp hen
 have hp1 : 0 ≤ pen + 1 ∧ pen + 1 ≤ 10000 := by omega
 have hs2 := Jif hE hp1 hen
 have ht := Jgp hE hen
 have hm : (pen + 1) * (Jaj G.p l.l).2.2.hi = pen * (Jaj G.p l.l).2.2.hi + (Jaj G.p l.l).2.2.hi := by rw [Int.add_mul, Int.one_mul]
 refine Ck (Qc (Nz 0 ?_))
 refine Wk 0 (Bb 4) ?_
 refine Wc rfl rfl Jnh (fun u hu => Jfs G u (hG.st hu) hn) (fun _ => rfl) ?_; rintro c ⟨hcp, uc, hcok⟩
 have hnc := Jhi hcp hn
 have o1 := Sl.one hcok.rm.pls
 have o2 := Sl.one hcok.rm.ths
 have o3 := Sl.one hcok.rm.prs
 have o4 := Sl.one hcok.rm.wys
 have o5 := Sl.one hcok.rm.acs
 have o6 := Sl.one hcok.rm.aus
 have o7 := Sl.one hcok.rm.gl
 have o8 := Sl.one hcok.lks
 have o9 := Sl.one hcok.cds
 have o10 := Sl.one hcok.nts
 refine Wz 1 ?_
 refine Wc rfl rfl Jhe (fun u hu => Jbs l u (hk.st hu) (by omega)) (fun _ => rfl) ?_; rintro v93 ⟨u93, h93⟩
 refine Wz 1 ?_
 refine Wk 0 Za ?_
 refine Wk 5 (Cb rfl rfl J56 (fun u hu => (by have q := Jkt c u (hu.ro (j := 1) rfl) hnc g (hW.st hu) ⟨v93, l.l⟩ (hu.ro (j := 0) rfl) (pen + 1); rw [hcp] at q; exact q))) ?_
 refine Wd (Qc (Nz 3 ?_))
 refine Wt 0 rfl rfl (fun hg => Fm) ?_
 refine Wt 0 rfl rfl (fun hg => Fm) ?_
 refine Wt 0 rfl rfl (fun hg => Fh) ?_
 refine Wk 1 Pa ?_
 refine Wt 0 rfl rfl (fun hg => Fm) ?_
 refine Wt 0 rfl rfl (fun hg => Fm) ?_
 refine Wt 0 rfl rfl (fun hg => Fh) ?_
 refine Wk 1 Pa ?_
 refine Wt 0 rfl rfl (fun hg => Cb rfl rfl Jft (fun u hu => Jbu u g (hW.st hu))) ?_
 refine Wk 1 Pa ?_
 exact Wd (Qc (Cr (out1 rfl rfl (Jab (by rw [hs1, hs2, ht, hm]; simp; omega)))))
end Go.Proofs.YtohneogdekdboaaGreatDoor
