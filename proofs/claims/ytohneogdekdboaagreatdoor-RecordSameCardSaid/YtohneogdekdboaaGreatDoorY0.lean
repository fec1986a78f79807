/- Merged texts of this proof (walks and plain laws), printed by a program of the prover. -/
import Derived.Test.YtohneogdekdboaaGreatDoorZb
import Derived.Test.YtohneogdekdboaaGreatDoorProg
import Derived.KernelRfl
import Derived.Test.YtohneogdekdboaaGreatDoorZc
import Derived.Test.YtohneogdekdboaaGreatDoorXa
import Derived.Test.YtohneogdekdboaaGreatDoorXb
namespace Go.Proofs.YtohneogdekdboaaGreatDoor
open Go.Proofs
theorem J75 : Ent Tryz.prog 42 := Jac Tryz.func42 (by kernel_rfl) rfl
end Go.Proofs.YtohneogdekdboaaGreatDoor
set_option maxHeartbeats 8000000
namespace Go.Proofs.YtohneogdekdboaaGreatDoor
open Go.RowKit Go.Proofs
set_option maxRecDepth 100000
set_option linter.unusedVariables false
set_option linter.unusedSimpArgs false
def Jfh : List Entr → List Entr → Int → Int
 | [], [], _ => -1
 | x :: xs, y :: ys, i => if x = y then Jfh xs ys (i + 1) else i
 | [], _ :: _, i => i
 | _ :: _, [], i => i
theorem Jn7 : ∀ (xs ys : List Entr) (i : Int), 0 ≤ i → (Jfh xs ys i < 0 ↔ xs = ys)
 | [], [], i, h => by simp [Jfh]
 | x :: xs, y :: ys, i, h => by
  unfold Jfh
  by_cases e : x = y
  ·
   rw [if_pos e, Jn7 xs ys (i + 1) (by omega), e]; simp
  rw [if_neg e]
  constructor
  ·
   intro q; omega
  intro q; exact absurd (List.cons.inj q).1 e
 | [], y :: ys, i, h => by simp [Jfh]; omega
 | x :: xs, [], i, h => by simp [Jfh]; omega
theorem Jt7 {xs ys : List Entr} {s : Int} (h0 : 0 ≤ s) (h1 : s < xs.length) (h2 : s < ys.length) (he : nth xs s = nth ys s) : Jfh (xs.drop s.toNat) (ys.drop s.toNat) s = Jfh (xs.drop (s + 1).toNat) (ys.drop (s + 1).toNat) (s + 1) := by
 rw [Jav h0 h1, Jav h0 h2, Jfh, if_pos he]
theorem J1g {xs ys : List Entr} {s : Int} (h0 : 0 ≤ s) (h1 : s < xs.length) (h2 : s < ys.length) (he : ¬ nth xs s = nth ys s) : Jfh (xs.drop s.toNat) (ys.drop s.toNat) s = s := by
 rw [Jav h0 h1, Jav h0 h2, Jfh, if_neg he]
theorem Jpz {xs ys : List Entr} {s : Int} (h0 : 0 ≤ s) (h : (s < xs.length ∧ ¬ s < ys.length) ∨ (¬ s < xs.length ∧ s < ys.length)) : Jfh (xs.drop s.toNat) (ys.drop s.toNat) s = s := by
 rcases h with ⟨h1, h2⟩ | ⟨h1, h2⟩
 ·
  rw [Jav h0 h1, List.drop_of_length_le (l := ys) (by omega), Jfh]
 rw [Jav h0 h2, List.drop_of_length_le (l := xs) (by omega), Jfh]
theorem Jy5 {xs ys : List Entr} {s : Int} (h1 : ¬ s < xs.length) (h2 : ¬ s < ys.length) : Jfh (xs.drop s.toNat) (ys.drop s.toNat) s = -1 := by
 rw [List.drop_of_length_le (l := xs) (by omega), List.drop_of_length_le (l := ys) (by omega), Jfh]
theorem J28 (x y : Sl Entr) (w : World) (hx : SlT cEntry w x) (hy : SlT cEntry w y) :
  Calls Tryz.prog 42 #[x.v, y.v] w (RetB w (.int .i64 (Jfh x.l y.l 0))) := by
 have lx := hx.le
 have ly := hy.le
 refine enter Tryz.func42 rfl rfl (Nat.le_of_ble_eq_true rfl) ?_
 refine Nz 1 ?_
 refine Wd (Qc (Cs (Nz 1 ?_)))
 refine Wd (Qc (Ce ?_))
 refine CS.loopM (σ := Int) [4, 6, 7, 8, 9, 10, 11, 12, 13, 14, 15, 16, 17, 18, 19, 20, 21, 22, 23, 24, 25, 26, 27, 28, 29, 30, 31, 32, 33, 34, 35, 36, 37, 38, 39] (fun s => [(5, .int .i64 s)]) (fun _ => _) (fun s => 0 ≤ s ∧ s ≤ x.l.length ∧ s ≤ y.l.length ∧ Jfh x.l y.l 0 = Jfh (x.l.drop s.toNat) (y.l.drop s.toNat) s) (fun s => (x.l.length - s).toNat) 0 (fun _ _ => rfl) rfl rfl ⟨by omega, by omega, by omega, by simp⟩ ?_
 intro s t hs
 obtain ⟨hs1, hs2, hs3, hs4⟩ := hs
 refine Cs (Nz 2 ?_)
 refine Wk 2 Nc ?_
 refine Wf 0 rfl rfl (fun hg => Fm) ?_
 refine Wf 0 rfl rfl (fun hg => Fm) ?_
 refine Wf 0 rfl rfl (fun hg => Nc (eg_ hg rfl)) ?_
 refine Wf 0 rfl rfl (fun hg => Fl) ?_
 refine Wk 0 Po ?_
 refine Wd (Qc (CS.cond rfl ?_ ?_))<;>intro hc1<;>try simp only [bq] at hc1
 ·
  refine Ck (Qc (Cs (Ce (Cs (Dr Jai 2 ?_)))))
  refine Dk 2 Nc ?_
  refine Df 0 rfl rfl (fun hg => Fm) ?_
  refine Df 0 rfl rfl (fun hg => Fm) ?_
  refine Df 0 rfl rfl (fun hg => Nc (eg_ hg rfl)) ?_
  refine Df 0 rfl rfl (fun hg => Fh) ?_
  refine Dk 1 Po ?_
  refine Df 0 rfl rfl (fun hg => Fm) ?_
  refine Df 0 rfl rfl (fun hg => Fm) ?_
  refine Df 0 rfl rfl (fun hg => Xc (eg_ hg rfl)) ?_
  refine Df 0 rfl rfl (fun hg => Ua) ?_
  refine Df 0 rfl rfl (fun hg => Fm) ?_
  refine Df 0 rfl rfl (fun hg => Fm) ?_
  refine Df 0 rfl rfl (fun hg => Xc (eg_ hg rfl)) ?_
  refine Df 0 rfl rfl (fun hg => Ua) ?_
  refine Df 0 rfl rfl (fun hg => Jek Je2 (eg_ hg rfl) (eg_ hg rfl) (Jc3 (nth x.l s) (nth y.l s))) ?_
  refine Dk 0 Po ?_
  refine Dd (Qc (CS.cond rfl ?_ ?_))<;>intro hc2<;>try simp only [bq] at hc2
  ·
   refine Nz 2 ?_
   refine Wd (Qc (Cr (Qs (Qr (Qr (Qs (Qr ?_)))))))
   exact out1 rfl rfl (Jab (by
      rw [hs4]
      by_cases h1 : s < (x.l.length : Int)
      ·
       by_cases h2 : s < (y.l.length : Int)
       ·
        rw [J1g hs1 h1 h2 (by grind)]
       rw [Jpz hs1 (.inl ⟨h1, h2⟩)]
      rw [Jpz hs1 (.inr ⟨h1, by grind⟩)]))
  have hbb : (s < (x.l.length : Int) ∧ s < (y.l.length : Int)) ∧ nth x.l s = nth y.l s := by grind
  refine Ck (Qb (Qc (Ny 1 ?_)))
  refine Wk 1 Za ?_
  exact Wd (QS.head (s + 1) rfl rfl ⟨⟨by omega, by omega, by omega, by rw [hs4, Jt7 hs1 hbb.1.1 hbb.1.2 hbb.2]⟩, by omega⟩)
 refine Cv (Qe (Qe (Qx (Qc (Nz 1 ?_)))))
 exact Wd (Qc (Cr (out1 rfl rfl (Jab (by rw [hs4, Jy5 (by omega) (by omega)])))))
end Go.Proofs.YtohneogdekdboaaGreatDoor
