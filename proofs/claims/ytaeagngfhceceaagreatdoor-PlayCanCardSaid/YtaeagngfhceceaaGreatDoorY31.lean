/- Merged texts of this proof (walks and plain laws), printed by a program of the prover. -/
import Derived.Test.YtaeagngfhceceaaGreatDoorY0
import Derived.Test.YtaeagngfhceceaaGreatDoorY1
import Derived.Test.YtaeagngfhceceaaGreatDoorY3
import Derived.Test.YtaeagngfhceceaaGreatDoorY4
import Derived.Test.YtaeagngfhceceaaGreatDoorY5
import Derived.Test.YtaeagngfhceceaaGreatDoorY7
import Derived.Test.YtaeagngfhceceaaGreatDoorY8
import Derived.Test.YtaeagngfhceceaaGreatDoorY13
import Derived.Test.YtaeagngfhceceaaGreatDoorY20
import Derived.Test.YtaeagngfhceceaaGreatDoorZb
import Derived.Test.YtaeagngfhceceaaGreatDoorProg
import Derived.KernelRfl
import Derived.Test.YtaeagngfhceceaaGreatDoorZc
import Derived.Test.YtaeagngfhceceaaGreatDoorZh
import Derived.Test.YtaeagngfhceceaaGreatDoorZg
import Derived.Test.YtaeagngfhceceaaGreatDoorZm
namespace Go.Proofs.YtaeagngfhceceaaGreatDoor
open Go.Proofs
theorem ent31 : Ent Tryz.prog 31 := ent_of Tryz.func31 (by kernel_rfl) rfl
end Go.Proofs.YtaeagngfhceceaaGreatDoor
set_option maxHeartbeats 8000000
namespace Go.Proofs.YtaeagngfhceceaaGreatDoor
open Go.RowKit Go.Proofs
set_option maxRecDepth 100000
set_option linter.unusedVariables false
set_option linter.unusedSimpArgs false
theorem SameMoves_c (a b : Sl Move) (w : World) (ha : SlT cMove w a) (hb : SlT cMove w b) :
  Calls Tryz.prog 31 #[a.v, b.v] w (RetB w (.bool (clB (a.l = b.l)))) := by
 have la := ha.le
 have lb := hb.le
 refine enter Tryz.func31 rfl rfl (Nat.le_of_ble_eq_true rfl) ?_
 refine Nz 1 ?_
 refine Wd (Qc (Cs (Nz 1 ?_)))
 refine Wk 1 Nc ?_
 refine Wk 1 Nc ?_
 refine Wd (Qc (CS.cond rfl ?_ ?_))<;>intro hc1<;>try simp only [bq] at hc1
 ·
  refine Nz 1 ?_
  exact Wd (Qc (Cr (Qr (out1 rfl rfl (retBe (by rw [clB_f (fun h => hc1 (by rw [h]))]))))))
 ·
  refine Ck (Qc (Cs (Nz 1 ?_)))
  refine Wd (Qc (Ce ?_))
  refine CS.loopM (σ := Int) [4, 11, 12, 13, 14, 15, 16, 17, 18, 19, 20, 21, 22, 23, 24, 25] (fun s => [(5, .int .i64 s)]) (fun _ => _) (fun s => 0 ≤ s ∧ s ≤ a.l.length ∧ ∀ j : Int, 0 ≤ j → j < s → nth a.l j = nth b.l j) (fun s => (a.l.length - s).toNat) 0 (fun _ _ => rfl) rfl rfl ⟨by omega, by omega, fun j _ _ => by omega⟩ ?_
  intro s t hs
  obtain ⟨hs1, hs2, hs3⟩ := hs
  refine Cs (Nz 2 ?_)
  refine Wk 1 Nc ?_
  refine Wd (Qc (CS.cond rfl ?_ ?_))<;>intro hc2<;>try simp only [bq] at hc2
  ·
   refine Ck (Qc (Cs (Ce (Cs (Dr mixed 2 ?_)))))
   refine Dk 0 Xc ?_
   refine Dk 2 Ua ?_
   refine Dk 0 Xc ?_
   refine Dk 0 Ua ?_
   refine Dk 0 (det_neAgg agMove rfl rfl (cmp_move (nth a.l s) (nth b.l s))) ?_
   refine Dd (Qc (CS.cond rfl ?_ ?_))<;>intro hc3<;>try simp only [bq] at hc3
   ·
    refine Nz 1 ?_
    exact Wd (Qc (Cr (Qs (Qr (Qr (Qs (Qr (out1 rfl rfl (retBe (by rw [clB_f (fun h => hc3 (by rw [h]))]))))))))))
   ·
    refine Ck (Qb (Qc (Ny 1 ?_)))
    refine Wk 1 Za ?_
    refine Wd ?_
    exact QS.head (s + 1) rfl rfl ⟨⟨by omega, by omega, fun j h0 h1 => by
       rcases (show j < s ∨ j = s by omega) with h | h
       ·
        exact hs3 j h0 h
       ·
        rw [h]; exact hc3⟩, by omega⟩
  ·
   refine Cv (Qe (Qe (Qx (Qc (Nz 1 ?_)))))
   exact Wd (Qc (Cr (out1 rfl rfl (retBe (by rw [clB_t (eq_nth hc2 (by omega) hs3)])))))
end Go.Proofs.YtaeagngfhceceaaGreatDoor
