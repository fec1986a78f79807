/- Merged texts of this proof (walks and plain laws), printed by a program of the prover. -/
import Derived.Test.YtohneogdekdboaaGreatDoorXc
set_option maxHeartbeats 8000000
namespace Go.Proofs.YtohneogdekdboaaGreatDoor
open Go.RowKit Go.Proofs
set_option maxRecDepth 100000
set_option linter.unusedVariables false
set_option linter.unusedSimpArgs false
theorem Jgs {G : GP} {e : Entr} {l : List Entr} {i last : Int} {f : Film} (h : (Jcc last e && (Jaz G f e).isSome) = false) : Jb1 G (e :: l) i last f = .error i := by
 unfold Jb1
 split
 ·
  rename_i ht
  cases hs : Jaz G f e with
  | none => rfl
  | some f' => rw [hs, ht] at h; cases h
 rfl
theorem Jr0 {G : GP} {l : List Entr} (h : ¬ (Jah G).1 = 0) : Jaj G l = ((Jah G).1, 0, Jax G) := if_neg h
theorem Jqc {G : GP} {l : List Entr} (h : (Jah G).1 = 0) (h2 : 500 < (l.length : Int)) : Jaj G l = (2, 0, Jax G) := (if_pos h).trans (if_pos h2)
theorem Jk4 {G : GP} {l : List Entr} {i : Int} (h : (Jah G).1 = 0) (h2 : ¬ 500 < (l.length : Int)) (h3 : Jb1 G l 0 0 (Jax G) = .error i) : Jaj G l = (120, i, Jax G) := by
 unfold Jaj; rw [if_pos h, if_neg h2, h3]
theorem Jq7 {G : GP} {l : List Entr} {f : Film} (h : (Jah G).1 = 0) (h2 : ¬ 500 < (l.length : Int)) (h3 : Jb1 G l 0 0 (Jax G) = .ok f) : Jaj G l = (0, 0, f) := by
 unfold Jaj; rw [if_pos h, if_neg h2, h3]
def Jc5 (t : Int) (old new : List Int) (k : Int) : List Entr := ((Je1 k.toNat).filter fun j => !decide (nth new j = nth old j)).map fun j => ⟨t, 5, mv0, j, nth new j⟩
theorem Ji6 {t : Int} {old new : List Int} {k : Int} (h : k = new.length) : Jc5 t old new k = Jf5 t old new := by subst h; rfl
theorem Jeg {t : Int} {old new : List Int} {k : Int} (h0 : 0 ≤ k) (h : ¬ nth new k = nth old k) : Jc5 t old new k ++ [⟨t, 5, mv0, k, nth new k⟩] = Jc5 t old new (k + 1) := by
 unfold Jc5
 rw [Jh9 h0, List.filter_append, List.map_append, List.filter_cons, if_pos (by rw [decide_eq_false h]; rfl)]; rfl
theorem Jfj {t : Int} {old new : List Int} {k : Int} (h0 : 0 ≤ k) (h : nth new k = nth old k) : Jc5 t old new k = Jc5 t old new (k + 1) := by
 unfold Jc5
 rw [Jh9 h0, List.filter_append, List.filter_cons, if_neg (by rw [decide_eq_true h]; decide)]; simp
theorem Jej {t : Int} {old new : List Int} {k : Int} : (Jc5 t old new k).length ≤ k.toNat := by
 unfold Jc5
 rw [List.length_map]
 exact Nat.le_trans (List.length_filter_le _ _) (by rw [J0k]; exact Nat.le_refl _)
theorem Jj9 {G : GP} {m : Timed} {ms : List Timed} {i last : Int} {x : PX} {out : List Entr} (ht : last ≤ m.t ∧ m.t ≤ 1000000) (hs : (Jaf G x m.m).1 = 0) :
  recF G (m :: ms) i last x out = recF G ms (i + 1) m.t (Jaf G x m.m).2 (out ++ ⟨m.t, 1, m.m, 0, 0⟩ :: Jf5 m.t x.1.1 (Jaf G x m.m).2.1.1) := by
 rw [recF, if_pos (by simpa using ht), if_pos hs]
theorem Jlr {G : GP} {m : Timed} {ms : List Timed} {i last : Int} {x : PX} {out : List Entr} (ht : last ≤ m.t ∧ m.t ≤ 1000000) (hs : ¬ (Jaf G x m.m).1 = 0) : recF G (m :: ms) i last x out = (29, i, [], x) := by
 rw [recF, if_pos (by simpa using ht), if_neg hs]
theorem Jo5 {G : GP} {m : Timed} {ms : List Timed} {i last : Int} {x : PX} {out : List Entr} (ht : ¬ (last ≤ m.t ∧ m.t ≤ 1000000)) : recF G (m :: ms) i last x out = (1, i, [], x) := by
 rw [recF, if_neg (by simpa using ht)]
theorem Jta {G : GP} {ms : List Timed} (h : ¬ (Jah G).1 = 0) : Jaa G ms = ((Jah G).1, 0, []) := if_neg h
theorem Jh3 {G : GP} {ms : List Timed} {e i : Int} {o : List Entr} {x : PX} (h : (Jah G).1 = 0) (he : ¬ e = 0) (hr : recF G ms 0 0 (Jah G).2 [] = (e, i, o, x)) : Jaa G ms = (e, i, []) := by
 unfold Jaa; rw [if_pos h, hr]; exact if_neg he
theorem Js1 {G : GP} {ms : List Timed} {o : List Entr} {x : PX} (h : (Jah G).1 = 0) (hr : recF G ms 0 0 (Jah G).2 [] = (0, 0, o, x)) (hl : 500 < (o.length : Int)) : Jaa G ms = (2, 0, []) := by
 unfold Jaa; rw [if_pos h, hr]; exact (if_pos rfl).trans (if_pos hl)
theorem Jm1 {G : GP} {ms : List Timed} {o : List Entr} {x : PX} (h : (Jah G).1 = 0) (hr : recF G ms 0 0 (Jah G).2 [] = (0, 0, o, x)) (hl : ¬ 500 < (o.length : Int)) : Jaa G ms = (0, 0, o) := by
 unfold Jaa; rw [if_pos h, hr]; exact (if_pos rfl).trans (if_neg hl)
end Go.Proofs.YtohneogdekdboaaGreatDoor
