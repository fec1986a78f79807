/- Merged texts of this proof (walks and plain laws), printed by a program of the prover. -/
import Derived.Test.YtbboikncaihafaaGreatDoorXf
import Derived.Test.YtbboikncaihafaaGreatDoorXb
import Derived.Test.YtbboikncaihafaaGreatDoorZb
import Derived.Test.YtbboikncaihafaaGreatDoorXe
set_option maxHeartbeats 8000000
namespace Go.Proofs.YtbboikncaihafaaGreatDoor
open Go.RowKit Go.Proofs
set_option maxRecDepth 100000
set_option linter.unusedVariables false
set_option linter.unusedSimpArgs false
theorem Jz4 (a:Int) (w:World) :
  Calls Tryz.prog 131 #[.int .i64 a] w (RetB w (.bool false)):=by
 refine enter Tryz.func131 rfl rfl (Nat.le_of_ble_eq_true rfl) ?_
 refine Nz 1 ?_
 refine Wd (Qc (Nz 4 ?_))
 exact Wd (Qc (Cr (out1 rfl rfl (Jab (by simp)))))
theorem Jpg (a b:Int) (w:World) :
  Calls Tryz.prog 68 #[.int .i64 a,.int .i64 b] w (RetB w (.int .i64 (cmpK a b))):=by
 refine enter Tryz.func68 rfl rfl (Nat.le_of_ble_eq_true rfl) ?_
 refine Nz 1 ?_
 refine Wd (Qc (Nz 1 ?_))
 refine Wk 1 (Cb rfl rfl J3m (fun u hu=>Jz4 _ u)) ?_
 refine Wd (Qc (Nz 1 ?_))
 refine Wk 1 (Cb rfl rfl J3m (fun u hu=>Jz4 _ u)) ?_
 refine Wd (Qc (Cs (Nz 1 ?_)))
 refine Wd (Qc (CS.cond rfl ?_ ?_))<;>intro hc1<;>try simp only [bq] at hc1
 ·
  exact absurd hc1 (by simp)
 refine Ck (Qc (Cs (Nz 1 ?_)))
 refine Wd (Qc (CS.cond rfl ?_ ?_))<;>intro hc2<;>try simp only [bq] at hc2
 ·
  exact absurd hc2 (by simp)
 refine Ck (Qc (Cs (Nz 3 ?_)))
 refine Wd (Qc (CS.cond rfl ?_ ?_))<;>intro hc3<;>try simp only [bq] at hc3
 ·
  refine Nz 1 ?_
  exact Wd (Qc (Cr (Qr (out1 rfl rfl (Jab (by unfold cmpK; grind))))))
 refine Ck (Qc (Cs (Nz 3 ?_)))
 refine Wd (Qc (CS.cond rfl ?_ ?_))<;>intro hc4<;>try simp only [bq] at hc4
 ·
  refine Nz 1 ?_
  exact Wd (Qc (Cr (Qr (out1 rfl rfl (Jab (by unfold cmpK; grind))))))
 refine Ck (Qc (Nz 1 ?_))
 exact Wd (Qc (Cr (out1 rfl rfl (Jab (by unfold cmpK; grind)))))
end Go.Proofs.YtbboikncaihafaaGreatDoor
