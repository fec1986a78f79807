/- Merged texts of this proof (walks and plain laws), printed by a program of the prover. -/
import Derived.Test.YtaeagngfhceceaaGreatDoorZn
import Derived.Test.YtaeagngfhceceaaGreatDoorZk
import Derived.Test.YtaeagngfhceceaaGreatDoorZb
import Derived.Test.YtaeagngfhceceaaGreatDoorZe
import Derived.Test.YtaeagngfhceceaaGreatDoorZl
set_option maxHeartbeats 8000000
namespace Go.Proofs.YtaeagngfhceceaaGreatDoor
open Go.RowKit Go.Proofs
set_option maxRecDepth 100000
set_option linter.unusedVariables false
set_option linter.unusedSimpArgs false
theorem hasLock_c (G : Game) (w : World) (hG : GameOk w G) (lk : Int) :
  Calls Tryz.prog 66 #[.agg #[G.rm.pls.v, G.rm.ths.v, G.rm.prs.v, G.rm.wys.v, G.rm.acs.v, G.rm.aus.v, .int .i64 G.rm.ply, G.rm.gl.v, G.lks.v, G.cds.v, G.nts.v, .int .i64 G.tr], .int .i64 lk] w (RetB w (.int .i64 (if (decide (0 ≤ lk) && decide (lk ≤ (G.lks.l.length : Int) - 1)) = true then 0 else 1))) := by
 have klk := hG.lks
 have llk := hG.lks.le
 refine enter Tryz.func66 rfl rfl (Nat.le_of_ble_eq_true rfl) ?_
 refine Nz 0 ?_
 refine Wb 1 rfl rfl (fun _ => rfl) (fun _ => rfl) fun b2 hb2 => ?_
 refine Wd (Qc (Cs (Nz 2 ?_)))
 refine Wk 0 (Ba 0) ?_
 refine Wk 0 Nc ?_
 refine Wk 0 Zb ?_
 refine Wk 1 (Cb rfl rfl ent105 (fun u hu => gwithin_c _ _ _ u)) ?_
 refine Wd (Qc (CS.cond rfl ?_ ?_))<;>intro hc1<;>try simp only [bq] at hc1
 ·
  refine Nz 1 ?_
  exact Wd (Qc (Cr (Qr (out1 rfl rfl (retBe (by rw [if_neg (by simp only [Bool.and_eq_true, decide_eq_true_eq]; omega)]))))))
 ·
  refine Ck (Qc (Nz 1 ?_))
  exact Wd (Qc (Cr (out1 rfl rfl (retBe (by rw [if_pos (by simp only [Bool.and_eq_true, decide_eq_true_eq]; omega)])))))
end Go.Proofs.YtaeagngfhceceaaGreatDoor
set_option maxHeartbeats 8000000
namespace Go.Proofs.YtaeagngfhceceaaGreatDoor
open Go.RowKit Go.Proofs
set_option maxRecDepth 100000
set_option linter.unusedVariables false
set_option linter.unusedSimpArgs false
end Go.Proofs.YtaeagngfhceceaaGreatDoor
