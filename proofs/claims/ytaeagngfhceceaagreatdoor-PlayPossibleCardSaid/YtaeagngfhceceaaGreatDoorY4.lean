/- Merged texts of this proof (walks and plain laws), printed by a program of the prover. -/
import Derived.Test.YtaeagngfhceceaaGreatDoorZb
import Derived.Laws.StructEq
import Derived.ChangeKeysEq
namespace Go.Proofs.YtaeagngfhceceaaGreatDoor
set_option linter.unusedVariables false
set_option linter.unusedSimpArgs false
open Go.RowKit
def agf (P : Program) (f : Field) : Option (Nat × Nat) :=
  if f.name == "_" then none else if P.plainKey f.type then
    match P.underlying f.type with
    | some (.int _) => some (f.offset, 0)
    | some .bool => some (f.offset, 1)
    | some .string => some (f.offset, 2)
    | _ => none
  else none
def agl (P : Program) : List Field → Option (List (Nat × Nat))
  | [] => some []
  | f :: fs => match agf P f, agl P fs with
    | some a, some r => some (a :: r)
    | _, _ => none
def agq (P : Program) (T : TypeId) : Option (List (Nat × Nat)) :=
  match P.underlying T with
  | some (.struct fs) => if P.stoodInHeld T || P.eqGuardType P.depth T then none else agl P fs.toList
  | _ => none
def cmp1 : Nat → Option Value → Option Value → Option Bool
  | 0, some (.int .i64 a), some (.int .i64 b) => some (decide (a = b))
  | 1, some (.bool a), some (.bool b) => some (a == b)
  | 2, some (.string a), some (.string b) => some (seq a b)
  | _, _, _ => none
def cmps (xs ys : List Value) : List (Nat × Nat) → Option Bool
  | [] => some true
  | (o, k) :: sp => match cmp1 k xs[o]? ys[o]?, cmps xs ys sp with
    | some a, some r => some (a && r)
    | _, _ => none
section
variable {P : Program}
theorem agf_run {w : World} {f : Field} {o k : Nat} {xs ys : List Value} {b : Bool} {d : Nat} (hf : agf P f = some (o, k)) (hb : cmp1 k xs[o]? ys[o]? = some b) :
    f.name ≠ "_" ∧ ∃ x y, (Go.part f.type xs.toArray f.offset).run P w = .ok x w ∧ (Go.part f.type ys.toArray f.offset).run P w = .ok y w ∧ (Op.equalIn (d + 1) f.type x y).run P w = .ok b w := by
  unfold agf at hf
  split at hf
  · cases hf
  · rename_i hn
    refine ⟨by simpa using hn, ?_⟩
    split at hf
    · rename_i hp
      split at hf
      · rename_i k' hu
        cases hf
        unfold cmp1 at hb
        split at hb <;> first | cases hb | skip
        · rename_i a b' _ hx hy
          refine ⟨_, _, run_part_plain w hp (by simpa using hx), run_part_plain w hp (by simpa using hy), ?_⟩
          rw [run_equalIn_int w d f.type .i64 k' a b' hu]
          by_cases h : a = b' <;> simp [h]
        all_goals simp_all
      · rename_i hu
        cases hf
        unfold cmp1 at hb
        split at hb <;> first | cases hb | skip
        · simp_all
        · rename_i a b' _ hx hy
          refine ⟨_, _, run_part_plain w hp (by simpa using hx), run_part_plain w hp (by simpa using hy), ?_⟩
          exact run_equalIn_bool' w d f.type a b' hu
        all_goals simp_all
      · rename_i hu
        cases hf
        unfold cmp1 at hb
        split at hb <;> first | cases hb | skip
        · simp_all
        · simp_all
        · rename_i a b' _ hx hy
          refine ⟨_, _, run_part_plain w hp (by simpa using hx), run_part_plain w hp (by simpa using hy), ?_⟩
          exact run_equalIn_string w d f.type a b' hu
      · cases hf
    · cases hf
theorem agl_run {w : World} {xs ys : List Value} {d : Nat} : ∀ {fs : List Field} {sp : List (Nat × Nat)} {b : Bool}, agl P fs = some sp → cmps xs ys sp = some b → (Op.eqFields (d + 1) xs.toArray ys.toArray fs).run P w = .ok b w
  | [], sp, b, h, hb => by
    simp [agl] at h; subst h
    simp [cmps] at hb; subst hb
    simp [Op.eqFields]
  | f :: fs, sp, b, h, hb => by
    unfold agl at h
    split at h
    · rename_i a r ha hr
      cases h
      obtain ⟨o, k⟩ := a
      unfold cmps at hb
      split at hb
      · rename_i c r' hc hr'
        cases hb
        obtain ⟨hn, x, y, p1, p2, p3⟩ := agf_run (w := w) (d := d) ha hc
        have ih := agl_run (w := w) (d := d) hr hr'
        simp only [Op.eqFields, hn, ne_eq, not_false_eq_true, if_true, Sem.run_bind, p1, p2, p3, Result.andThen_ok]
        cases c
        · simp
        · simpa using ih
      · cases hb
    · cases h
variable {l : List Value} {d : Option Tmp} {ty : TypeId} {ps : String} {af : Array Edge} {g : Option (Nat × Bool)} {C : World → Prop}
theorem agq_run {w : World} {T : TypeId} {sp : List (Nat × Nat)} {xs ys : List Value} {b : Bool} (hA : agq P T = some sp) (hb : cmps xs ys sp = some b) :
    (∀ (op : BinOp) (x y : Operand), (eqGuard op T x y (.agg xs.toArray) (.agg ys.toArray)).run P w = .ok () w) ∧ (Op.equalIn 10000 T (.agg xs.toArray) (.agg ys.toArray)).run P w = .ok b w := by
  unfold agq at hA
  split at hA
  · rename_i fs hu
    split at hA
    · cases hA
    · rename_i hc
      simp only [Bool.or_eq_true, not_or, Bool.not_eq_true] at hc
      have hf : P.fieldsOf T = fs := by simp [Program.fieldsOf, hu]
      refine ⟨fun op x y => run_eqGuard_agg w op T x y _ _ hc.2, ?_⟩
      rw [run_equalIn_struct w 9999 T _ _ (by rw [hf]; exact hu) hc.1, hf]
      exact agl_run hA hb
  · cases hA
end
end Go.Proofs.YtaeagngfhceceaaGreatDoor
