/- The row of the law CodesFewest: whatever the input, it returns true and the input reads as it did. No conditions. -/
import Derived.Test.YtldagbcceefcdaaL12
import Derived.Test.YtldagbcceefcdaaBridge
import Derived.Test.YtldagbcceefcdaaRows
namespace Go.Proofs.Ytldagbcceefcdaa
open Go.ChangeShapes Go.WideShapes Go.ChangeAt Go.RowKit Go.Proofs Go.Joins
set_option maxRecDepth 100000
set_option linter.unusedVariables false
set_option linter.unusedSimpArgs false

theorem own : ownKnob Try.prog.godebug = none := by kernel_rfl
theorem laidOut : laidOutB Try.prog = true := by kernel_rfl

set_option maxHeartbeats 1000000 in
theorem codesFewest_lifted (os : Os) (started : os.Started) (H : Type) (enc : TypeId × Value → H) :
    ReturnsInHanded {} Try.checked os 15 .any (Rows.codesFewestSpec.pre6 enc Try.prog Try.f15 Rows.codesFewestRow.domain false) (Rows.codesFewestSpec.post enc Try.prog Try.f15 Rows.codesFewestRow.apart Rows.codesFewestRow.fresh Rows.codesFewestRow.handsOn Rows.codesFewestRow.again) := by
  refine returnsInHanded_of_change (C := Try.checked) own started (by kernel_rfl) Try.func15
    (ChangeSpec.witness6 (enc := enc) (C := Try.checked) false ⟨#[], #[.agg #[.int .i64 0, .int .i64 0], .slice none 0 0, .agg #[.slice none 0 0, .slice none 0 0]], []⟩ 8 (by kernel_rfl) (by kernel_rfl) (by kernel_rfl) (by kernel_rfl)) ?_
  intro W base args ds gs before hval0 hW _ _
  have hval : ∀ (j : Nat) t v, Try.f15.params[j]? = some t → args[j]? = some v → Value.okWide Try.prog W .any base t v := hval0
  have hW' := hW
  obtain ⟨p, q, hA0, hV, rfl, hfz, hnd⟩ := hW
  have hA : DataW.TrodAll enc Try.prog W 0 (fun _ => true) true Try.f15.params.toList args.toList ds p := hA0
  rw [Try.params15] at hA hval
  obtain ⟨v0, v1, v2, d0, d1, d2, p0, p1, p2, rfl, rfl, rfl, h0, h1, h2⟩ := trodAll_three hA
  obtain ⟨rfl, rfl⟩ := trodVars_none hV
  obtain ⟨lw, ls, rfl⟩ := read_lock Try.underlying23 (by kernel_rfl) (by kernel_rfl) Try.underlying3 Try.underlying3 (hval 0 23 v0 rfl rfl) h0
  obtain ⟨_, _, _, rfl⟩ := okWide_slice Try.underlying31 (hval 1 31 v1 rfl rfl)
  obtain ⟨_, k1⟩ := h1
  obtain ⟨x1, g1, r1⟩ := read_clues Try.underlying31 (by kernel_rfl) (fun _ _ _ hc => (read_clue Try.underlying36 rfl (by kernel_rfl) (by kernel_rfl) Try.underlying3 Try.underlying3 Try.underlying3 Try.underlying3 Try.underlying3 Try.underlying24 Try.underlying3 (by kernel_rfl) Try.underlying4 hc)) k1
  obtain ⟨⟨c2⟩, rfl, _⟩ := okWide_struct Try.underlying68 (hval 2 68 v2 rfl rfl)
  obtain ⟨_, k2⟩ := h2
  obtain ⟨x2, y2, p2_, q2, e2, r2, z2⟩ := read_pair Try.underlying68 (by kernel_rfl) (by kernel_rfl) (by kernel_rfl) Try.underlying24 Try.underlying24 Try.underlying3 (by kernel_rfl) k2
  change c2 = _ at e2
  subst e2
  refine Calls.mono (CodesFewest_c lw ls x1 g1 _ x2 y2 _ _ W r1 r2 z2) ?_
  rintro e W' ⟨rfl, hb⟩
  exact ⟨_, rfl, law_post laidOut (by kernel_rfl) rfl Try.underlying4 hW' rfl hb rfl rfl rfl⟩
theorem codesFewest_holds : Rows.CodesFewestSaid :=
  OpenClaim.holds_of_wide 15 Try.f15 rfl rfl rfl rfl rfl rfl rfl ⟨rfl, rfl, rfl, rfl, rfl⟩ rfl rfl rfl rfl rfl (by kernel_rfl) Try.func15 (by kernel_rfl)
    (of_decide_eq_true (by kernel_rfl)) (by unfold Func.isWrapper; first | (rw [if_pos (by decide +kernel)]; kernel_rfl) | (rw [if_neg (by decide +kernel)]; exact ⟨rfl, rfl⟩))
    (fun os started H enc _ => codesFewest_lifted os started H enc)

end Go.Proofs.Ytldagbcceefcdaa
