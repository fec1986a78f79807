/- Contracts of functions, printed by a program of the prover (gen.py). -/
import Derived.Test.YtkekjhcmephhjaaGreatDoorZm
import Derived.Test.YtkekjhcmephhjaaGreatDoorZp
set_option maxHeartbeats 8000000
namespace Go.Proofs.YtkekjhcmephhjaaGreatDoor
open Go.RowKit Go.Proofs
set_option maxRecDepth 100000
set_option linter.unusedVariables false
set_option linter.unusedSimpArgs false
theorem Jja (t0:ByteArray) (w:World) (g:Sl ByteArray) (hG:GOk w g) (gk:Sl ByteArray) (hK:KOk w gk) (hM:MaxOk w) :
  Calls Tryz.prog 3 #[.string t0] w (RetB w (.bool true)):=by
 refine enter Tryz.func3 rfl rfl (Nat.le_of_ble_eq_true rfl) ?_
 refine Nz 1 ?_
 refine Wd (Qc (Cs (Nz 1 ?_)))
 refine Wk 1 (Jau Tryz.underlying9 rfl) ?_
 refine Wd (Qc (CS.cond rfl ?_ ?_))<;>intro hc1<;>try simp only [bq] at hc1
 ·
  refine Nz 0 ?_
  refine Wk 1 (Cb rfl rfl ent5 (fun u hu=>Joo u g (hG.st hu))) ?_
  exact Wd (Qc (Cr (Qr (out1 rfl rfl retB))))
 refine Ck (Qc (Nz 1 ?_))
 refine Wc rfl rfl ent6 (fun u hu=>Jus t0 u g (hG.st hu) gk (hK.st hu) (hM.st hu) (by omega)) (fun _=>rfl) ?_; rintro y ⟨hye,uy,hyok⟩
 have y0:=Sl.one hyok.pls
 have y1:=Sl.one hyok.ths
 have y2:=Sl.one hyok.prs
 have y3:=Sl.one hyok.wys
 have y4:=Sl.one hyok.acs
 have y5:=Sl.one hyok.aus
 have y6:=Sl.one hyok.gl
 refine Wz 4 ?_
 refine Wl 0 zv32 (fun _=>rfl) (fun _=>rfl) fun b3 hb3=>?_
 refine Wv 2 0 ?_
 refine Wd (Qc (Nz 1 ?_))
 refine Wc rfl rfl ent7 (fun u hu=>Jr9 t0 u (by omega)) (fun _=>rfl) ?_; rintro z ⟨hze,uz,hzok⟩
 have z0:=Sl.one hzok.pls
 have z1:=Sl.one hzok.ths
 have z2:=Sl.one hzok.prs
 have z3:=Sl.one hzok.wys
 have z4:=Sl.one hzok.acs
 have z5:=Sl.one hzok.aus
 have z6:=Sl.one hzok.gl
 refine Wz 4 ?_
 refine Wl 0 zv32 (fun _=>rfl) (fun _=>rfl) fun b6 hb6=>?_
 refine Wv 2 0 ?_
 refine Wd (Qc (Nz 0 ?_))
 refine Wk 0 (by first | exact Jad (j:=2) rfl rfl tk32 | exact Jac (j:=2) rfl rfl (by rfl) tk32 | exact Ja2 rfl (by assumption) (by rfl) tk32 | exact Jae (n:=8) (j:=2) rfl rfl rfl rfl tk32) ?_
 refine Wk 0 (by first | exact Jad (j:=0) rfl rfl tk32 | exact Jac (j:=0) rfl rfl (by rfl) tk32 | exact Ja2 rfl (by assumption) (by rfl) tk32 | exact Jae (n:=8) (j:=0) rfl rfl rfl rfl tk32) ?_
 refine Wk 1 (Cb rfl rfl ent8 (fun u hu=>Jug y z u (hu.ro (j:=3) rfl) (hu.ro (j:=1) rfl))) ?_
 refine Wt 0 rfl rfl (fun hg=>Fm) ?_
 refine Wt 0 rfl rfl (fun hg=>Fm) ?_
 refine Wt 0 rfl rfl (fun hg=>Fq) ?_
 refine Wk 1 Pa ?_
 refine Wt 0 rfl rfl (fun hg=>Fm) ?_
 refine Wt 0 rfl rfl (fun hg=>Fm) ?_
 refine Wt 0 rfl rfl (fun hg=>Fq) ?_
 refine Wk 1 Pa ?_
 refine Wt 0 rfl rfl (fun hg=>Cb rfl rfl ent5 (fun u hu=>Joo u g (hG.st hu))) ?_
 refine Wk 1 Pa ?_
 exact Wd (Qc (Cr (out1 rfl rfl (Jai (by rw [show clB (y.e=z.e)=true from Jb6.2 (hye.trans hze.symm)]; simp)))))
end Go.Proofs.YtkekjhcmephhjaaGreatDoor
