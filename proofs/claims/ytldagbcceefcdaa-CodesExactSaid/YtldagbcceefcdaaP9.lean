/- The row of the law CodesExact: whatever the input, it returns true and the input reads as it did. No conditions. -/
import Derived.Test.YtldagbcceefcdaaL7
import Derived.Test.YtldagbcceefcdaaBridge2
import Derived.Test.YtldagbcceefcdaaRows
namespace Go.Proofs.Ytldagbcceefcdaa
open Go.ChangeShapes Go.WideShapes Go.ChangeAt Go.RowKit Go.Proofs Go.Joins
set_option maxRecDepth 100000
set_option linter.unusedVariables false
set_option linter.unusedSimpArgs false

theorem own : ownKnob Try.prog.godebug = none := by kernel_rfl
theorem laidOut : laidOutB Try.prog = true := by kernel_rfl

set_option maxHeartbeats 1000000 in
theorem codesExact_lifted (os : Os) (started : os.Started) (H : Type) (enc : TypeId × Value → H) :
    ReturnsInHanded {} Try.checked os 8 .any (Rows.codesExactSpec.pre6 enc Try.prog Try.f8 Rows.codesExactRow.domain false) (Rows.codesExactSpec.post enc Try.prog Try.f8 Rows.codesExactRow.apart Rows.codesExactRow.fresh Rows.codesExactRow.handsOn Rows.codesExactRow.again) := by
  refine returnsInHanded_of_change (C := Try.checked) own started (by kernel_rfl) Try.func8
    (ChangeSpec.witness6 (enc := enc) (C := Try.checked) false ⟨#[], #[.agg #[.int .i64 0, .int .i64 0], .slice none 0 0, .agg #[.int .i64 0, .int .i64 0, .int .i64 0, .int .i64 0, .int .i64 0, .slice none 0 0, .bool false, .slice none 0 0]], []⟩ 8 (by kernel_rfl) (by kernel_rfl) (by kernel_rfl) (by kernel_rfl)) ?_
  intro W base args ds gs before hval0 hW _ _
  have hval : ∀ (j : Nat) t v, Try.f8.params[j]? = some t → args[j]? = some v → Value.okWide Try.prog W .any base t v := hval0
  have hW' := hW
  obtain ⟨p, q, hA0, hV, rfl, hfz, hnd⟩ := hW
  have hA : DataW.TrodAll enc Try.prog W 0 (fun _ => true) true Try.f8.params.toList args.toList ds p := hA0
  rw [Try.params8] at hA hval
  obtain ⟨v0, v1, v2, d0, d1, d2, p0, p1, p2, rfl, rfl, rfl, h0, h1, h2⟩ := trodAll_three hA
  obtain ⟨rfl, rfl⟩ := trodVars_none hV
  obtain ⟨lw, ls, rfl⟩ := read_lock Try.underlying23 (by kernel_rfl) (by kernel_rfl) Try.underlying3 Try.underlying3 (hval 0 23 v0 rfl rfl) h0
  obtain ⟨_, _, _, rfl⟩ := okWide_slice Try.underlying31 (hval 1 31 v1 rfl rfl)
  obtain ⟨_, k1⟩ := h1
  obtain ⟨x1, g1, r1⟩ := read_clues Try.underlying31 (by kernel_rfl) (fun _ _ _ hc => (read_clue Try.underlying36 rfl (by kernel_rfl) (by kernel_rfl) Try.underlying3 Try.underlying3 Try.underlying3 Try.underlying3 Try.underlying3 Try.underlying24 Try.underlying3 (by kernel_rfl) Try.underlying4 hc)) k1
  obtain ⟨⟨c2⟩, rfl, _⟩ := okWide_struct Try.underlying47 (hval 2 47 v2 rfl rfl)
  obtain ⟨_, k2⟩ := h2
  obtain ⟨⟨x2, g2⟩, y2, q2, e2, r2, z2⟩ := read_trial Try.underlying47 (by kernel_rfl) (by kernel_rfl) (by kernel_rfl) (fun _ _ _ hc => (read_clue Try.underlying36 rfl (by kernel_rfl) (by kernel_rfl) Try.underlying3 Try.underlying3 Try.underlying3 Try.underlying3 Try.underlying3 Try.underlying24 Try.underlying3 (by kernel_rfl) Try.underlying4 hc)) Try.underlying24 Try.underlying3 (by kernel_rfl) k2
  change c2 = _ at e2
  subst e2
  refine Calls.mono (CodesExact_c lw ls x1 g1 _ x2 g2 y2 q2 W r1 r2 z2) ?_
  rintro e W' ⟨rfl, hb⟩
  exact ⟨_, rfl, law_post laidOut (by kernel_rfl) rfl Try.underlying4 hW' rfl hb rfl rfl rfl⟩
theorem codesExact_holds : Rows.CodesExactSaid :=
  OpenClaim.holds_of_wide 8 Try.f8 rfl rfl rfl rfl rfl rfl rfl ⟨rfl, rfl, rfl, rfl, rfl⟩ rfl rfl rfl rfl rfl (by kernel_rfl) Try.func8 (by kernel_rfl)
    (of_decide_eq_true (by kernel_rfl)) (by unfold Func.isWrapper; first | (rw [if_pos (by decide +kernel)]; kernel_rfl) | (rw [if_neg (by decide +kernel)]; exact ⟨rfl, rfl⟩))
    (fun os started H enc _ => codesExact_lifted os started H enc)

end Go.Proofs.Ytldagbcceefcdaa
