/- Contracts of functions, printed by a program of the prover (gen.py). -/
import Derived.Test.YtbboikncaihafaaGreatDoorXg
import Derived.Test.YtbboikncaihafaaGreatDoorXe
set_option maxHeartbeats 8000000
namespace Go.Proofs.YtbboikncaihafaaGreatDoor
open Go.RowKit Go.Proofs
set_option maxRecDepth 100000
set_option linter.unusedVariables false
set_option linter.unusedSimpArgs false
theorem Jhj : ∀ (l : List Entr) (i : Int), Jcf l l i = -1
 | [], i => rfl
 | x :: l, i => by rw [Jcf, if_pos rfl]; exact Jhj l (i + 1)
theorem Jj2 {a b : List Entr} (h : (Jc1 a b).1 = 0) : Jc1 a [] = (0, a) := by
 unfold Jc1 at h ⊢
 split at h
 ·
  cases h
 next hl =>
 split at h
 ·
  next hs =>
  rw [Bool.and_eq_true] at hs
  rw [if_neg (by simp; omega), if_pos (by rw [hs.1]; rfl), Jby]
 cases h
theorem Jgu (w : World) (g : Sl ByteArray) (hW : GOk w g) (x y : Sl Entr) (hx : SlT cEntry w x) (hy : SlT cEntry w y) :
  Calls Tryz.prog 4 #[x.v, y.v] w (RetB w (.bool true)) := by
 have lx := hx.le
 have ly := hy.le
 refine enter Tryz.func4 rfl rfl (Nat.le_of_ble_eq_true rfl) ?_
 refine Nz 1 ?_
 refine Wd (Qc (Cs (Nz 1 ?_)))
 refine Wk 2 Nc ?_
 refine Wf 0 rfl rfl (fun hg => Fm) ?_
 refine Wf 0 rfl rfl (fun hg => Nc (eg_ hg rfl)) ?_
 refine Wf 0 rfl rfl (fun hg => Fg) ?_
 refine Wk 0 Po ?_
 refine Wd (Qc (CS.cond rfl ?_ ?_))<;>intro hc1<;>try simp only [bq] at hc1
 ·
  refine Nz 0 ?_
  refine Wk 1 (Cb rfl rfl Jzx (fun u hu => Jl2 u g (hW.st hu))) ?_
  exact Wd (Qc (Cr (Qr (out1 rfl rfl retB))))
 have hlx : x.l.length ≤ 600 ∧ y.l.length ≤ 600 := by first | omega | (simp at hc1; omega)
 refine Ck (Qc (Nz 1 ?_))
 refine Wc rfl rfl Jkg (fun u hu => Jck x u (hx.st hu) (by omega)) (fun _ => rfl) ?_; rintro v22 ⟨u22, h22⟩
 refine Wz 1 ?_
 refine Wc rfl rfl Jkg (fun u hu => Jck y u (hy.st hu) (by omega)) (fun _ => rfl) ?_; rintro v24 ⟨u24, h24⟩
 refine Wc rfl rfl Jy4 (fun u hu => Jlf ⟨v22, x.l⟩ ⟨v24, y.l⟩ u (hu.ro (j := 1) rfl) (hu.ro (j := 0) rfl) (by show x.l.length ≤ _; omega) (by show y.l.length ≤ _; omega)) (fun _ => rfl) ?_; rintro v25 ⟨u25, h25⟩
 refine Wz 5 ?_
 refine Wd (Qc (Nz 2 ?_))
 refine Wc rfl rfl J0g (fun u hu => Jsl x y u (hx.st hu) (hy.st hu) (by omega) (by omega)) (fun _ => rfl) ?_; rintro v31 ⟨u31, h31⟩
 refine Wz 5 ?_
 refine Wd (Qc (Cs (Nz 2 ?_)))
 refine Wk 2 (Cb rfl rfl Jyk (fun u hu => Jt7 ⟨v25, _⟩ ⟨v31, _⟩ u (hu.ro (j := 1) rfl) (hu.ro (j := 0) rfl))) ?_
 refine Wf 0 rfl rfl (fun hg => Fm) ?_
 refine Wf 0 rfl rfl (fun hg => Fm) ?_
 refine Wf 0 rfl rfl (fun hg => Fr) ?_
 refine Wk 0 Po ?_
 refine Wk 0 (Ja0 (v := .bool false) (congrArg (fun b => some (Value.bool b)) (by simp))) ?_
 refine Wf 0 rfl rfl (fun hg => Fm) ?_
 refine WS.callFg rfl rfl rfl Jkg (fun u hu => Jck x u (hx.st hu) (by omega)) (fun _ => rfl) ?_; rintro v45 ⟨u45, h45⟩
 refine Wf 0 rfl rfl (fun hg => Fm) ?_
 refine WS.callFg rfl rfl rfl Jkg (fun u hu => Jck y u (hy.st hu) (by omega)) (fun _ => rfl) ?_; rintro v47 ⟨u47, h47⟩
 refine Wf 0 rfl rfl (fun hg => Cb rfl rfl Jxz (fun u hu => Jo1 ⟨v45, x.l⟩ ⟨v47, y.l⟩ u (hu.ro (j := 1) rfl) (hu.ro (j := 0) rfl))) ?_
 refine Wf 0 rfl rfl (fun hg => Fm) ?_
 refine Wf 0 rfl rfl (fun hg => Fm) ?_
 refine Wf 0 rfl rfl (fun hg => Cb rfl (ec_ (eg_ hg rfl) (ec_ (eg_ hg rfl) en_)) Jzs (fun u hu => Juh x y u (hx.st hu) (hy.st hu))) ?_
 refine Wf 0 rfl rfl (fun hg => Fr) ?_
 refine Wk 0 Po ?_
 refine Wk 0 (Ja0 (v := .bool false) (congrArg (fun b => some (Value.bool b)) (by simp))) ?_
 refine Wf 0 rfl rfl (fun hg => Fm) ?_
 refine WS.callFg rfl rfl rfl Jkg (fun u hu => Jck x u (hx.st hu) (by omega)) (fun _ => rfl) ?_; rintro v56 ⟨u56, h56⟩
 refine Wf 0 rfl rfl (fun hg => Fm) ?_
 refine WS.callFg rfl rfl rfl Jkg (fun u hu => Jck x u (hx.st hu) (by omega)) (fun _ => rfl) ?_; rintro v58 ⟨u58, h58⟩
 refine Wf 0 rfl rfl (fun hg => Cb rfl rfl Jxz (fun u hu => Jo1 ⟨v56, x.l⟩ ⟨v58, x.l⟩ u (hu.ro (j := 1) rfl) (hu.ro (j := 0) rfl))) ?_
 refine Wf 0 rfl rfl (fun hg => Fr) ?_
 refine Wk 0 Po ?_
 refine Wd (Qc (CS.cond rfl ?_ ?_))<;>intro hc2<;>try simp only [bq] at hc2
 ·
  exact absurd hc2 (by simp [Jhj])
 refine Ck (Qc (Nz 1 ?_))
 refine Wc rfl rfl Jkg (fun u hu => Jck x u (hx.st hu) (by omega)) (fun _ => rfl) ?_; rintro v64 ⟨u64, h64⟩
 refine Wc rfl rfl Jy4 (fun u hu => Jlf ⟨v64, x.l⟩ ⟨.slice none 0 0, []⟩ u (hu.ro (j := 0) rfl) (SlT.nil cEntry u) (by show x.l.length ≤ _; omega) (by decide)) (fun _ => rfl) ?_; rintro v65 ⟨u65, h65⟩
 refine Wz 5 ?_
 refine Wd (Qc (Nz 3 ?_))
 refine Wf 0 rfl rfl (fun hg => Fm) ?_
 refine Wf 0 rfl rfl (fun hg => Fq) ?_
 refine Wf 0 rfl rfl (fun hg => Fm (eg_ hg rfl)) ?_
 refine Wn 0 rfl rfl rfl (fun hg => Fm) ?_
 refine Wn 0 rfl rfl rfl (fun hg => Fm) ?_
 refine Wn 0 rfl rfl rfl (fun hg => Cb rfl (ec_ (eg_ hg rfl) (ec_ (eg_ hg rfl) en_)) Jyk (fun u hu => Jt7 ⟨v65, _⟩ x u (hu.ro (j := 0) rfl) (hx.st hu))) ?_
 refine Wf 0 rfl rfl (fun hg => Jb8 (eg_ hg rfl) (Jim hg rfl) rfl) ?_
 refine Wk 1 Po ?_
 refine Wt 0 rfl rfl (fun hg => Cb rfl rfl Jzx (fun u hu => Jl2 u g (hW.st hu))) ?_
 refine Wk 1 Pa ?_
 refine Wd (Qc (Cr ?_))
 exact out1 rfl rfl (Jac (by
    by_cases h0 : (Jc1 x.l y.l).1 = 0
    ·
     rw [Jj2 h0]; simp [h0]
    simp [h0]))
end Go.Proofs.YtbboikncaihafaaGreatDoor
