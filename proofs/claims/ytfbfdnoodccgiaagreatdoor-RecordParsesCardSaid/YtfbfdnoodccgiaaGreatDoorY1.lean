/- Contracts of functions, printed by a program of the prover (gen.py). -/
import Derived.Test.YtfbfdnoodccgiaaGreatDoorXi
import Derived.Test.YtfbfdnoodccgiaaGreatDoorXe
set_option maxHeartbeats 8000000
namespace Go.Proofs.YtfbfdnoodccgiaaGreatDoor
open Go.RowKit Go.Proofs
set_option maxRecDepth 100000
set_option linter.unusedVariables false
set_option linter.unusedSimpArgs false
theorem Jhc (t0:ByteArray) (w:World) (g:Sl ByteArray) (hW:GOk w g) (hM:MaxOk w) {m:Nat} {es:List MapEntry} {c:Nat} (hS:ShpOk w m es c) :
  Calls Tryz.prog 3 #[.string t0] w (RetB w (.bool true)):=by
 refine enter Tryz.func3 rfl rfl (Nat.le_of_ble_eq_true rfl) ?_
 refine Nz 1 ?_
 refine Wd (Qc (Cs (Nz 1 ?_)))
 refine Wk 1 (Jau Tryz.underlying9 rfl) ?_
 refine Wd (Qc (CS.cond rfl ?_ ?_))<;>intro hc1<;>try simp only [bq] at hc1
 ·
  refine Nz 0 ?_
  refine Wk 1 (Cb rfl rfl ent5 (fun u hu=>Jnh u g (hW.st hu))) ?_
  exact Wd (Qc (Cr (Qr (out1 rfl rfl retB))))
 refine Ck (Qc (Nz 1 ?_))
 refine Wc rfl rfl ent6 (fun u hu=>Jvs t0 u (hM.st hu) (hS.st hu) (by omega)) (fun _=>rfl) ?_; rintro v15 ⟨u15,h15⟩
 refine Wz 7 ?_
 refine Wd (Qc (Nz 1 ?_))
 refine Wc rfl rfl ent7 (fun u hu=>Jqx t0 u (by omega)) (fun _=>rfl) ?_; rintro v21 ⟨u21,h21⟩
 refine Wz 7 ?_
 refine Wd (Qc (Nz 2 ?_))
 refine Wk 1 (Cb rfl rfl ent8 (fun u hu=>Jz2 ⟨v15,_⟩ ⟨v21,_⟩ u (hu.ro (j:=1) rfl) (hu.ro (j:=0) rfl))) ?_
 refine Wt 0 rfl rfl (fun hg=>Fm) ?_
 refine Wt 0 rfl rfl (fun hg=>Fm) ?_
 refine Wt 0 rfl rfl (fun hg=>Fq) ?_
 refine Wk 1 Pa ?_
 refine Wt 0 rfl rfl (fun hg=>Fm) ?_
 refine Wt 0 rfl rfl (fun hg=>Fm) ?_
 refine Wt 0 rfl rfl (fun hg=>Fq) ?_
 refine Wk 1 Pa ?_
 refine Wt 0 rfl rfl (fun hg=>Cb rfl rfl ent5 (fun u hu=>Jnh u g (hW.st hu))) ?_
 refine Wk 1 Pa ?_
 exact Wd (Qc (Cr (out1 rfl rfl (Jad (by simp)))))
end Go.Proofs.YtfbfdnoodccgiaaGreatDoor
