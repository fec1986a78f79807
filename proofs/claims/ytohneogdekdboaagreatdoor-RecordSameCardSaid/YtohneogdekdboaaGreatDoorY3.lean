/- Merged texts of this proof (walks and plain laws), printed by a program of the prover. -/
import Derived.Test.YtohneogdekdboaaGreatDoorZb
import Derived.Test.YtohneogdekdboaaGreatDoorProg
import Derived.KernelRfl
import Derived.Test.YtohneogdekdboaaGreatDoorZc
import Derived.Test.YtohneogdekdboaaGreatDoorZf
namespace Go.Proofs.YtohneogdekdboaaGreatDoor
set_option linter.unusedVariables false
set_option linter.unusedSimpArgs false
open Go.RowKit
theorem Jdg {α β : Type} [Inhabited α] (f : α → β) {l m : List α} {i : Int} (hi : ¬ i < l.length) (hl : l.length = m.length) (h : ∀ j : Int, 0 ≤ j → j < i → f (nth l j) = f (nth m j)) : l.map f = m.map f := by
 apply List.ext_getElem (by simp [hl])
 intro k h1 h2
 have h3 : k < l.length := by simpa using h1
 have h4 : k < m.length := by omega
 have := h k (by omega) (by omega)
 simpa [nth, List.getD, h3, h4] using this
theorem Jkb {α : Type} [Inhabited α] {l m : List α} {i : Int} (hi : ¬ i < l.length) (hl : l.length = m.length) (h : ∀ j : Int, 0 ≤ j → j < i → nth l j = nth m j) : l = m := by
 have := Jdg (fun x => x) hi hl h
 simpa using this
end Go.Proofs.YtohneogdekdboaaGreatDoor
namespace Go.Proofs.YtohneogdekdboaaGreatDoor
open Go.Proofs
theorem Jjt : Ent Tryz.prog 30 := Jac Tryz.func30 (by kernel_rfl) rfl
end Go.Proofs.YtohneogdekdboaaGreatDoor
set_option maxHeartbeats 8000000
namespace Go.Proofs.YtohneogdekdboaaGreatDoor
open Go.RowKit Go.Proofs
set_option maxRecDepth 100000
set_option linter.unusedVariables false
set_option linter.unusedSimpArgs false
theorem Jbz (xs ys : List Int) (v1 v2 : Value) (w : World) (h1 : SlI w v1 xs) (h2 : SlI w v2 ys) :
  Calls Tryz.prog 30 #[v1, v2] w (RetB w (.bool (decide (xs = ys)))) := by
 have hl1 := h1.le
 have hl2 := h2.le
 refine enter Tryz.func30 rfl rfl (Nat.le_of_ble_eq_true rfl) ?_
 refine Nz 1 ?_
 refine Wd (Qc (Cs (Nz 1 ?_)))
 refine Wk 1 Na ?_
 refine Wk 1 Na ?_
 refine Wd (Qc (CS.cond rfl ?_ ?_))<;>intro hc1<;>try simp only [bq] at hc1
 ·
  refine Nz 1 ?_
  exact Wd (Qc (Cr (Qr (out1 rfl rfl (Jab (Jhg fun h => by subst h; omega))))))
 refine Ck (Qc (Cs (Nz 1 ?_)))
 refine Wd (Qc (Ce ?_))
 refine CS.loopM (σ := Int) [4, 11, 12, 13, 14, 15, 16, 17, 18, 19, 20, 21, 22, 23, 24, 25] (fun s => [(5, .int .i64 s)]) (fun _ => _) (fun s => 0 ≤ s ∧ s ≤ xs.length ∧ xs.length = ys.length ∧ ∀ j : Int, 0 ≤ j → j < s → nth xs j = nth ys j) (fun s => (xs.length - s).toNat) 0 (fun _ _ => rfl) rfl rfl ⟨by omega, by omega, by omega, fun j h1 h2 => by omega⟩ ?_
 intro s t hs
 obtain ⟨hs1, hs2, hs3, hs4⟩ := hs
 refine Cs (Nz 2 ?_)
 refine Wk 1 Na ?_
 refine Wd (Qc (CS.cond rfl ?_ ?_))<;>intro hc2<;>try simp only [bq] at hc2
 ·
  refine Ck (Qc (Cs (Ce (Cs (Dr Jai 2 ?_)))))
  refine Dk 0 Xa ?_
  refine Dk 2 Ia ?_
  refine Dk 0 Xa ?_
  refine Dk 1 Ia ?_
  refine Dd (Qc (CS.cond rfl ?_ ?_))<;>intro hc3<;>try simp only [bq] at hc3
  ·
   refine Nz 1 ?_
   exact Wd (Qc (Cr (Qs (Qr (Qr (Qs (Qr (out1 rfl rfl (Jab (Jhg fun h => by subst h; omega))))))))))
  refine Ck (Qb (Qc (Ny 1 ?_)))
  refine Wk 1 Za ?_
  exact Wd (QS.head (s + 1) rfl rfl ⟨⟨by omega, by omega, hs3, fun j h1 h2 => if hj : j = s then by rw [hj]; omega else hs4 j h1 (by omega)⟩, by omega⟩)
 refine Cv (Qe (Qe (Qx (Qc (Nz 1 ?_)))))
 exact Wd (Qc (Cr (out1 rfl rfl (Jab (Joz (Jy7 hs3 fun i h1 h2 => hs4 i h1 (by omega)))))))
end Go.Proofs.YtohneogdekdboaaGreatDoor
