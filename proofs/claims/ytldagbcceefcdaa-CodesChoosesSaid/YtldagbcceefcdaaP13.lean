/- The row of the law CodesChooses: whatever the input, it returns true and the input reads as it did. No conditions. -/
import Derived.Test.YtldagbcceefcdaaL11
import Derived.Test.YtldagbcceefcdaaBridge
import Derived.Test.YtldagbcceefcdaaRows
namespace Go.Proofs.Ytldagbcceefcdaa
open Go.ChangeShapes Go.WideShapes Go.ChangeAt Go.RowKit Go.Proofs Go.Joins
set_option maxRecDepth 100000
set_option linter.unusedVariables false
set_option linter.unusedSimpArgs false

theorem own : ownKnob Try.prog.godebug = none := by kernel_rfl
theorem laidOut : laidOutB Try.prog = true := by kernel_rfl

set_option maxHeartbeats 1000000 in
theorem codesChooses_lifted (os : Os) (started : os.Started) (H : Type) (enc : TypeId × Value → H) :
    ReturnsInHanded {} Try.checked os 13 .any (Rows.codesChoosesSpec.pre6 enc Try.prog Try.f13 Rows.codesChoosesRow.domain false) (Rows.codesChoosesSpec.post enc Try.prog Try.f13 Rows.codesChoosesRow.apart Rows.codesChoosesRow.fresh Rows.codesChoosesRow.handsOn Rows.codesChoosesRow.again) := by
  refine returnsInHanded_of_change (C := Try.checked) own started (by kernel_rfl) Try.func13
    (ChangeSpec.witness6 (enc := enc) (C := Try.checked) false ⟨#[], #[.agg #[.int .i64 0, .int .i64 0], .slice none 0 0, .slice none 0 0], []⟩ 8 (by kernel_rfl) (by kernel_rfl) (by kernel_rfl) (by kernel_rfl)) ?_
  intro W base args ds gs before hval0 hW _ _
  have hval : ∀ (j : Nat) t v, Try.f13.params[j]? = some t → args[j]? = some v → Value.okWide Try.prog W .any base t v := hval0
  have hW' := hW
  obtain ⟨p, q, hA0, hV, rfl, hfz, hnd⟩ := hW
  have hA : DataW.TrodAll enc Try.prog W 0 (fun _ => true) true Try.f13.params.toList args.toList ds p := hA0
  rw [Try.params13] at hA hval
  obtain ⟨v0, v1, v2, d0, d1, d2, p0, p1, p2, rfl, rfl, rfl, h0, h1, h2⟩ := trodAll_three hA
  obtain ⟨rfl, rfl⟩ := trodVars_none hV
  obtain ⟨lw, ls, rfl⟩ := read_lock Try.underlying23 (by kernel_rfl) (by kernel_rfl) Try.underlying3 Try.underlying3 (hval 0 23 v0 rfl rfl) h0
  obtain ⟨_, _, _, rfl⟩ := okWide_slice Try.underlying31 (hval 1 31 v1 rfl rfl)
  obtain ⟨_, k1⟩ := h1
  obtain ⟨x1, g1, r1⟩ := read_clues Try.underlying31 (by kernel_rfl) (fun _ _ _ hc => (read_clue Try.underlying36 rfl (by kernel_rfl) (by kernel_rfl) Try.underlying3 Try.underlying3 Try.underlying3 Try.underlying3 Try.underlying3 Try.underlying24 Try.underlying3 (by kernel_rfl) Try.underlying4 hc)) k1
  obtain ⟨_, _, _, rfl⟩ := okWide_slice Try.underlying24 (hval 2 24 v2 rfl rfl)
  obtain ⟨_, k2⟩ := h2
  obtain ⟨x2, r2⟩ := read_ints Try.underlying24 Try.underlying3 (by kernel_rfl) k2
  refine Calls.mono (CodesChooses_c lw ls x1 g1 _ x2 _ W r1 r2) ?_
  rintro e W' ⟨rfl, hb⟩
  exact ⟨_, rfl, law_post laidOut (by kernel_rfl) rfl Try.underlying4 hW' rfl hb rfl rfl rfl⟩
theorem codesChooses_holds : Rows.CodesChoosesSaid :=
  OpenClaim.holds_of_wide 13 Try.f13 rfl rfl rfl rfl rfl rfl rfl ⟨rfl, rfl, rfl, rfl, rfl⟩ rfl rfl rfl rfl rfl (by kernel_rfl) Try.func13 (by kernel_rfl)
    (of_decide_eq_true (by kernel_rfl)) (by unfold Func.isWrapper; first | (rw [if_pos (by decide +kernel)]; kernel_rfl) | (rw [if_neg (by decide +kernel)]; exact ⟨rfl, rfl⟩))
    (fun os started H enc _ => codesChooses_lifted os started H enc)

end Go.Proofs.Ytldagbcceefcdaa
