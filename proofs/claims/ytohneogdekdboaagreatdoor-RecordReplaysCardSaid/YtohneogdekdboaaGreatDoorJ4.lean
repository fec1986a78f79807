/- Contracts of functions, printed by a program of the prover (gen.py). -/
import Derived.Test.YtohneogdekdboaaGreatDoorXe
import Derived.Test.YtohneogdekdboaaGreatDoorY0
import Derived.Test.YtohneogdekdboaaGreatDoorY1
import Derived.Test.YtohneogdekdboaaGreatDoorY2
import Derived.Test.YtohneogdekdboaaGreatDoorY3
import Derived.Test.YtohneogdekdboaaGreatDoorY4
import Derived.Test.YtohneogdekdboaaGreatDoorY6
import Derived.Test.YtohneogdekdboaaGreatDoorY7
import Derived.Test.YtohneogdekdboaaGreatDoorY8
import Derived.Test.YtohneogdekdboaaGreatDoorY10
import Derived.Test.YtohneogdekdboaaGreatDoorY12
import Derived.Test.YtohneogdekdboaaGreatDoorY13
import Derived.Test.YtohneogdekdboaaGreatDoorY16
set_option maxHeartbeats 8000000
namespace Go.Proofs.YtohneogdekdboaaGreatDoor
open Go.RowKit Go.Proofs
set_option maxRecDepth 100000
set_option linter.unusedVariables false
set_option linter.unusedSimpArgs false
theorem Jkx (G : Game) (w : World) (hG : GameOk w G) (g : Sl ByteArray) (hW : GOk w g) (l : Sl Entr) (hk : SlT cEntry w l) :
  Calls Tryz.prog 6 #[.agg #[G.rm.pls.v, G.rm.ths.v, G.rm.prs.v, G.rm.wys.v, G.rm.acs.v, G.rm.aus.v, .int .i64 G.rm.ply, G.rm.gl.v, G.lks.v, G.cds.v, G.nts.v, .int .i64 G.tr], l.v] w (RetB w (.bool true)) := by
 have lls := hk.le
 refine enter Tryz.func6 rfl rfl (Nat.le_of_ble_eq_true rfl) ?_
 refine Nz 0 ?_
 refine Wb 1 rfl rfl (fun _ => rfl) (fun _ => rfl) fun b2 hb2 => ?_
 refine Wd (Qc (Cs (Nz 0 ?_)))
 refine Wk 0 (Bb 0) ?_
 refine Wk 1 (Cb rfl rfl ent9 (fun u hu => Jmd G u (hG.st hu))) ?_
 refine Wf 0 rfl rfl (fun hg => Fm) ?_
 refine Wf 0 rfl rfl (fun hg => Nc (eg_ hg rfl)) ?_
 refine Wf 0 rfl rfl (fun hg => Fg) ?_
 refine Wk 0 Po ?_
 refine Wd (Qc (CS.cond rfl ?_ ?_))<;>intro hc1<;>try simp only [bq] at hc1
 ·
  refine Nz 0 ?_
  refine Wk 1 (Cb rfl rfl Jft (fun u hu => Jbu u g (hW.st hu))) ?_
  exact Wd (Qc (Cr (Qr (out1 rfl rfl retB))))
 have hn : NearG G := Jb6.1 hc1.1
 refine Ck (Qc (Nz 0 ?_))
 refine Wk 0 (Bb 0) ?_
 refine Wc rfl rfl Jnh (fun u hu => Jfs G u (hG.st hu) hn) (fun _ => rfl) ?_; rintro c ⟨hcp, uc, hcok⟩
 have hnc := Jhi hcp hn
 have o1 := Sl.one hcok.rm.pls
 have o2 := Sl.one hcok.rm.ths
 have o3 := Sl.one hcok.rm.prs
 have o4 := Sl.one hcok.rm.wys
 have o5 := Sl.one hcok.rm.acs
 have o6 := Sl.one hcok.rm.aus
 have o7 := Sl.one hcok.rm.gl
 have o8 := Sl.one hcok.lks
 have o9 := Sl.one hcok.cds
 have o10 := Sl.one hcok.nts
 refine Wz 1 ?_
 refine Wc rfl rfl Jhe (fun u hu => Jbs l u (hk.st hu) (by omega)) (fun _ => rfl) ?_; rintro v27 ⟨u27, h27⟩
 refine Wc rfl rfl Jrz (fun u hu => (by have q := Jcu c u (hu.ro (j := 1) rfl) hnc g (hW.st hu) ⟨v27, l.l⟩ (hu.ro (j := 0) rfl); rw [hcp] at q; exact q)) (fun _ => rfl) ?_; rintro ⟨ra, p⟩ ⟨hra, hpx, up, hra1, hpok⟩
 dsimp only at hra hpx hra1 hpok
 obtain ⟨hpa, hpb, hpc⟩ := hpok.st.ones
 have hpd := Sl.one hpok.rd
 refine Wz 4 ?_
 refine Wl 1 zv61 (fun _ => rfl) (fun _ => rfl) fun b6 hb6 => ?_
 refine Wv 1 0 ?_
 refine Wd (Qc (Nz 0 ?_))
 refine Wk 1 (Bb 4) ?_
 refine Wc rfl rfl Kal (fun u hu => Jo9 G u (hG.st hu) hn l (hk.st hu)) (fun _ => rfl) ?_; rintro ⟨rb, q⟩ ⟨hrb, hqx, uq, hrb1, hqok⟩
 dsimp only at hrb hqx hrb1 hqok
 obtain ⟨hqa, hqb, hqc⟩ := hqok.st.ones
 have hqd := Sl.one hqok.rd
 refine Wz 4 ?_
 refine Wl 1 zv61 (fun _ => rfl) (fun _ => rfl) fun b9 hb9 => ?_
 refine Wv 1 0 ?_
 refine Wd (Qc (Nz 0 ?_))
 refine Wk 0 (Bb 6) ?_
 refine Wc rfl rfl Jnh (fun u hu => Jfs G u (hG.st hu) hn) (fun _ => rfl) ?_; rintro c ⟨hcp, uc, hcok⟩
 have hnc := Jhi hcp hn
 have o1 := Sl.one hcok.rm.pls
 have o2 := Sl.one hcok.rm.ths
 have o3 := Sl.one hcok.rm.prs
 have o4 := Sl.one hcok.rm.wys
 have o5 := Sl.one hcok.rm.acs
 have o6 := Sl.one hcok.rm.aus
 have o7 := Sl.one hcok.rm.gl
 have o8 := Sl.one hcok.lks
 have o9 := Sl.one hcok.cds
 have o10 := Sl.one hcok.nts
 refine Wz 1 ?_
 refine Wc rfl rfl Jhe (fun u hu => Jbs l u (hk.st hu) (by omega)) (fun _ => rfl) ?_; rintro v43 ⟨u43, h43⟩
 refine Wk 5 (Cb rfl rfl J41 (fun u hu => (by have q := Jmz c u (hu.ro (j := 1) rfl) hnc g (hW.st hu) ⟨v43, l.l⟩ (hu.ro (j := 0) rfl); rw [hcp] at q; exact q))) ?_
 refine Wd (Qc (Nz 0 ?_))
 refine Wk 1 (Bb 8) ?_
 refine Wk 5 (Cb rfl rfl Kbe (fun u hu => Jz3 G u (hG.st hu) hn l (hk.st hu))) ?_
 refine Wd (Qc (Nz 2 ?_))
 refine Wk 1 (Cb rfl rfl Kbi (fun u hu => Jt4 ra rb u (hu.ro (j := 5) rfl).1 (hu.ro (j := 3) rfl).1)) ?_
 refine Wt 0 rfl rfl (fun hg => Bb 4) ?_
 refine Wt 0 rfl rfl (fun hg => Bb 2) ?_
 refine Wt 0 rfl rfl (fun hg => Cb rfl (ec_ (eg_ hg rfl) (ec_ (eg_ hg rfl) en_)) Jz2 (fun u hu => Jjz p q u (hu.ro (j := 5) rfl).2 (hu.ro (j := 3) rfl).2 (hpx.trans hqx.symm))) ?_
 refine Wk 1 Pa ?_
 refine Wt 0 rfl rfl (fun hg => Fm) ?_
 refine Wt 0 rfl rfl (fun hg => Fm) ?_
 refine Wt 0 rfl rfl (fun hg => Fq) ?_
 refine Wk 1 Pa ?_
 refine Wt 0 rfl rfl (fun hg => Fm) ?_
 refine Wt 0 rfl rfl (fun hg => Fm) ?_
 refine Wt 0 rfl rfl (fun hg => Jkh (eg_ hg rfl) (eg_ hg rfl) Tryz.underlying4) ?_
 refine Wk 1 Pa ?_
 refine Wt 0 rfl rfl (fun hg => Fm) ?_
 refine Wt 0 rfl rfl (fun hg => Fm) ?_
 refine Wt 0 rfl rfl (fun hg => Fq) ?_
 refine Wk 1 Pa ?_
 refine Wt 0 rfl rfl (fun hg => Cb rfl rfl Jft (fun u hu => Jbu u g (hW.st hu))) ?_
 refine Wk 1 Pa ?_
 exact Wd (Qc (Cr (out1 rfl rfl (Jab (by rw [hra, hrb]; simp)))))
end Go.Proofs.YtohneogdekdboaaGreatDoor
