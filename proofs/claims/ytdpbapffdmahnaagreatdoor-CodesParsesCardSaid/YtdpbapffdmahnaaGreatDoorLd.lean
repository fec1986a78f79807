/- Contracts of functions, printed by a program of the prover (gen.py). -/
import Derived.Test.YtdpbapffdmahnaaGreatDoorZz
import Derived.Test.YtdpbapffdmahnaaGreatDoorZe
set_option maxHeartbeats 8000000
namespace Go.Proofs.YtdpbapffdmahnaaGreatDoor
open Go.RowKit Go.Proofs
set_option maxRecDepth 100000
set_option linter.unusedVariables false
set_option linter.unusedSimpArgs false
theorem Jew (lw ls:Int) (t0:ByteArray) (w:World) (hM:MaxOk w) (hW:WOk w) :
  Calls Tryz.prog 4 #[.agg #[.int .i64 lw,.int .i64 ls],.string t0] w (RetB w (.bool true)):=by
 refine enter Tryz.func4 rfl rfl (Nat.le_of_ble_eq_true rfl) ?_
 refine Nz 0 ?_
 refine Wb 1 rfl rfl (fun _=>rfl) (fun _=>rfl) fun b2 hb2=>?_
 refine Wd (Qc (Cs (Nz 1 ?_)))
 refine Wk 2 (Jav Tryz.underlying9 rfl) ?_
 refine Wt 0 rfl rfl (fun hg=>Fm) ?_
 refine Wt 0 rfl rfl (fun hg=>Jav Tryz.underlying9 (eg_ hg rfl)) ?_
 refine Wt 0 rfl rfl (fun hg=>Fk) ?_
 refine Wk 0 Pa ?_
 refine Wd (Qc (CS.cond rfl ?_ ?_))<;>intro hc1<;>try simp only [bq] at hc1
 ·
  refine Nz 0 ?_
  refine Wk 1 (Cb rfl rfl Jm2 (fun u hu=>Jim u)) ?_
  exact Wd (Qc (Cr (Qr (out1 rfl rfl retB))))
 refine Ck (Qc (Nz 0 ?_))
 refine Wk 1 (by first | exact Jab (j:=0) rfl rfl tk45 | exact Jac (j:=0) rfl rfl (by rfl) tk45 | exact Jae rfl (by assumption) (by rfl) tk45 | exact Jai (n:=2) (j:=0) rfl rfl rfl rfl tk45) ?_
 refine Wc rfl rfl Joc (fun u hu=>Jjw lw ls t0 u (hM.st hu) (hW.st hu)) (fun _=>rfl) ?_; rintro g1 ⟨hg1,u1,hs1⟩
 refine Wz 3 ?_
 refine Wl 0 zv47 (fun _=>rfl) (fun _=>rfl) fun b5 hb5=>?_
 refine WS.storeW (j:=0) rfl rfl rfl rfl (Ja7 hg1) tk47 rfl rfl ?_
 refine Wz 1 ?_
 refine Wd (Qc (Nz 0 ?_))
 refine Wk 1 (by first | exact Jab (j:=2) rfl rfl tk45 | exact Jac (j:=2) rfl rfl (by rfl) tk45 | exact Jae rfl (by assumption) (by rfl) tk45 | exact Jai (n:=2) (j:=2) rfl rfl rfl rfl tk45) ?_
 refine Wc rfl rfl Jop (fun u hu=>Jkl lw ls t0 u) (fun _=>rfl) ?_; rintro g2 ⟨hg2,u2,hs2⟩
 refine Wz 3 ?_
 refine Wl 0 zv47 (fun _=>rfl) (fun _=>rfl) fun b7 hb7=>?_
 refine WS.storeW (j:=0) rfl rfl rfl rfl (Ja7 hg2) tk47 rfl rfl ?_
 refine Wz 1 ?_
 refine Wd (Qc (Nz 4 ?_))
 refine Wt 0 rfl rfl (fun hg=>by first | exact Jas rfl (by assumption) (by (try simp only [bq] at hg); omega) tk47 | exact Jab (j:=2) rfl rfl tk47 | exact Jac (j:=2) rfl rfl (by rfl) tk47 | exact Jae rfl (by assumption) (by rfl) tk47 | exact Jai (n:=7) (j:=2) rfl rfl rfl rfl tk47) ?_
 refine Wt 0 rfl rfl (fun hg=>by first | exact Jas rfl (by assumption) (by (try simp only [bq] at hg); omega) tk47 | exact Jab (j:=0) rfl rfl tk47 | exact Jac (j:=0) rfl rfl (by rfl) tk47 | exact Jae rfl (by assumption) (by rfl) tk47 | exact Jai (n:=7) (j:=0) rfl rfl rfl rfl tk47) ?_
 refine Wt 0 rfl rfl (fun hg=>Cb rfl (ec_ (eg_ hg rfl) (ec_ (eg_ hg rfl) en_)) Jnb (fun u hu=>Jel (Jbu lw ls t0).2 (Jbu lw ls t0).2 g1 g2 u (hu.roI (j:=3) rfl) (hu.roI (j:=1) rfl))) ?_
 refine Wk 1 Pa ?_
 refine Wt 0 rfl rfl (fun hg=>Cb rfl rfl Jm2 (fun u hu=>Jim u)) ?_
 refine Wk 1 Pa ?_
 exact Wd (Qc (Cr (out1 rfl rfl (Jaq (by simp)))))
end Go.Proofs.YtdpbapffdmahnaaGreatDoor
