/- Merged texts of this proof (walks and plain laws), printed by a program of the prover. -/
import Derived.Test.YtohneogdekdboaaGreatDoorY0
import Derived.Test.YtohneogdekdboaaGreatDoorZb
import Derived.Test.YtohneogdekdboaaGreatDoorProg
import Derived.KernelRfl
import Derived.Test.YtohneogdekdboaaGreatDoorZc
import Derived.Test.YtohneogdekdboaaGreatDoorXa
import Derived.Test.YtohneogdekdboaaGreatDoorXb
namespace Go.Proofs.YtohneogdekdboaaGreatDoor
open Go.Proofs
theorem J5q : Ent Tryz.prog 14 := Jac Tryz.func14 (by kernel_rfl) rfl
end Go.Proofs.YtohneogdekdboaaGreatDoor
set_option maxHeartbeats 8000000
namespace Go.Proofs.YtohneogdekdboaaGreatDoor
open Go.RowKit Go.Proofs
set_option maxRecDepth 100000
set_option linter.unusedVariables false
set_option linter.unusedSimpArgs false
theorem Jx1 (x y : Sl Entr) (w : World) (hx : SlT cEntry w x) (hy : SlT cEntry w y) :
  Calls Tryz.prog 14 #[x.v, y.v] w (RetB w (.bool (decide (x.l = y.l)))) := by
 refine enter Tryz.func14 rfl rfl (Nat.le_of_ble_eq_true rfl) ?_
 refine Nz 1 ?_
 refine Wd (Qc (Nz 2 ?_))
 refine Wk 2 (Cb rfl rfl J75 (fun u hu => J28 _ _ u (hx.st hu) (hy.st hu))) ?_
 exact Wd (Qc (Cr (out1 rfl rfl (Jab (congrArg Value.bool (decide_eq_decide.2 (Jn7 _ _ _ (Int.le_refl 0))))))))
end Go.Proofs.YtohneogdekdboaaGreatDoor
