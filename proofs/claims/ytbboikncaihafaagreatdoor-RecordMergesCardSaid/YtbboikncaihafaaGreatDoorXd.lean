/- Merged texts of this proof (walks and plain laws), printed by a program of the prover. -/
import Derived.Test.YtbboikncaihafaaGreatDoorXc
set_option maxHeartbeats 8000000
namespace Go.Proofs.YtbboikncaihafaaGreatDoor
open Go.RowKit Go.Proofs
set_option maxRecDepth 100000
set_option linter.unusedVariables false
set_option linter.unusedSimpArgs false
def Jcx (t : Int) (old new : List Int) (k : Int) : List Entr := ((Jdd k.toNat).filter fun j => !decide (nth new j = nth old j)).map fun j => ⟨t, 5, mv0, j, nth new j⟩
theorem Jm9 {t : Int} {old new : List Int} {k : Int} (h : k = new.length) : Jcx t old new k = Jl8 t old new := by subst h; rfl
theorem Jg6 {t : Int} {old new : List Int} {k : Int} (h0 : 0 ≤ k) (h : ¬ nth new k = nth old k) : Jcx t old new k ++ [⟨t, 5, mv0, k, nth new k⟩] = Jcx t old new (k + 1) := by
 unfold Jcx
 rw [Jeg h0, List.filter_append, List.map_append, List.filter_cons, if_pos (by rw [decide_eq_false h]; rfl)]; rfl
theorem Jjv {t : Int} {old new : List Int} {k : Int} (h0 : 0 ≤ k) (h : nth new k = nth old k) : Jcx t old new k = Jcx t old new (k + 1) := by
 unfold Jcx
 rw [Jeg h0, List.filter_append, List.filter_cons, if_neg (by rw [decide_eq_true h]; decide)]; simp
theorem Jg2 {t : Int} {old new : List Int} {k : Int} : (Jcx t old new k).length ≤ k.toNat := by
 unfold Jcx
 rw [List.length_map]
 exact Nat.le_trans (List.length_filter_le _ _) (by rw [Jr9]; exact Nat.le_refl _)
theorem Jlk {G : GP} {m : Timed} {ms : List Timed} {i last : Int} {x : PX} {out : List Entr} (ht : last ≤ m.t ∧ m.t ≤ 1000000) (hs : (Jaj G x m.m).1 = 0) :
  recF G (m :: ms) i last x out = recF G ms (i + 1) m.t (Jaj G x m.m).2 (out ++ ⟨m.t, 1, m.m, 0, 0⟩ :: Jl8 m.t x.1.1 (Jaj G x m.m).2.1.1) := by
 rw [recF, if_pos (by simpa using ht), if_pos hs]
theorem Jop {G : GP} {m : Timed} {ms : List Timed} {i last : Int} {x : PX} {out : List Entr} (ht : last ≤ m.t ∧ m.t ≤ 1000000) (hs : ¬ (Jaj G x m.m).1 = 0) : recF G (m :: ms) i last x out = (29, i, [], x) := by
 rw [recF, if_pos (by simpa using ht), if_neg hs]
theorem Jrp {G : GP} {m : Timed} {ms : List Timed} {i last : Int} {x : PX} {out : List Entr} (ht : ¬ (last ≤ m.t ∧ m.t ≤ 1000000)) : recF G (m :: ms) i last x out = (1, i, [], x) := by
 rw [recF, if_neg (by simpa using ht)]
theorem Jss {G : GP} {ms : List Timed} (h : ¬ (Jai G).1 = 0) : Jav G ms = ((Jai G).1, 0, []) := if_neg h
theorem Jlj {G : GP} {ms : List Timed} {e i : Int} {o : List Entr} {x : PX} (h : (Jai G).1 = 0) (he : ¬ e = 0) (hr : recF G ms 0 0 (Jai G).2 [] = (e, i, o, x)) : Jav G ms = (e, i, []) := by
 unfold Jav; rw [if_pos h, hr]; exact if_neg he
theorem Jsc {G : GP} {ms : List Timed} {o : List Entr} {x : PX} (h : (Jai G).1 = 0) (hr : recF G ms 0 0 (Jai G).2 [] = (0, 0, o, x)) (hl : 500 < (o.length : Int)) : Jav G ms = (2, 0, []) := by
 unfold Jav; rw [if_pos h, hr]; exact (if_pos rfl).trans (if_pos hl)
theorem Jm0 {G : GP} {ms : List Timed} {o : List Entr} {x : PX} (h : (Jai G).1 = 0) (hr : recF G ms 0 0 (Jai G).2 [] = (0, 0, o, x)) (hl : ¬ 500 < (o.length : Int)) : Jav G ms = (0, 0, o) := by
 unfold Jav; rw [if_pos h, hr]; exact (if_pos rfl).trans (if_neg hl)
end Go.Proofs.YtbboikncaihafaaGreatDoor
