/- The tied card of the law RecordScores: whatever the input, it returns true and the input reads as it did. Condition: the package variable room.reserved starts as the program's text lays it (tied). -/
import Derived.Test.YtohneogdekdboaaGreatDoorJ3
import Derived.Test.YtohneogdekdboaaGreatDoorZx
import Derived.Test.YtohneogdekdboaaGreatDoorZy
import Derived.Test.YtohneogdekdboaaGreatDoorTie
import Derived.Test.YtohneogdekdboaaGreatDoorCards
import Derived.Test.YtohneogdekdboaaGreatDoorY1
import Derived.Test.YtohneogdekdboaaGreatDoorY2
import Derived.Test.YtohneogdekdboaaGreatDoorY4
import Derived.Test.YtohneogdekdboaaGreatDoorY6
import Derived.Test.YtohneogdekdboaaGreatDoorY13
import Derived.Test.YtohneogdekdboaaGreatDoorY14
import Derived.Test.YtohneogdekdboaaGreatDoorY18
set_option maxHeartbeats 8000000
namespace Go.Proofs.YtohneogdekdboaaGreatDoor
open Go.ChangeShapes Go.WideShapes Go.ChangeAt Go.RowKit Go.Proofs Go.Joins
set_option maxRecDepth 100000
set_option linter.unusedVariables false
set_option linter.unusedSimpArgs false
theorem own : ownKnob Tryz.prog.godebug = none := by kernel_rfl
theorem laidOut : laidOutB Tryz.prog = true := by kernel_rfl
theorem recordScores_k1 : (Rows.recordScoresRow.wf (OpenSpec.ofChange Rows.recordScoresSpec)) = true := by kernel_rfl
theorem recordScores_k4 : (Tryz.f5.params.all (Tryz.prog.readableRec ·)) = true := by kernel_rfl
theorem recordScores_k5 : (namedTie Tryz.prog Rows.recordScoresRow.named Rows.recordScoresSpec.vars) = true := by kernel_rfl
theorem recordScores_k6 : ((Rows.recordScoresRow.stops == [])) = true := by kernel_rfl
theorem recordScores_k8 : ((Rows.recordScoresRow.knobs == [])) = true := by kernel_rfl
theorem recordScores_k10 : ((Rows.recordScoresRow.inPlace == Tryz.prog.inPlace 5)) = true := by kernel_rfl
theorem recordScores_k11 : ((Rows.recordScoresRow.unfollowed == Tryz.prog.unfollowed 5)) = true := by kernel_rfl
theorem recordScores_k12 : ((Rows.recordScoresRow.recurses == Tryz.prog.recurses 5)) = true := by kernel_rfl
theorem recordScores_k13 : ((Rows.recordScoresRow.named == Tryz.prog.varsNamed 5)) = true := by kernel_rfl
theorem recordScores_k14 : ((Rows.recordScoresRow.maps == (Tryz.f5.params.toList ++ Rows.recordScoresSpec.plain.varTypes Tryz.prog).any (Tryz.prog.mapsRec ·))) = true := by kernel_rfl
theorem recordScores_k15 : ((Rows.recordScoresRow.ifaces == (Tryz.f5.params.toList ++ Rows.recordScoresSpec.plain.varTypes Tryz.prog).any (Tryz.prog.ifacesRec ·))) = true := by kernel_rfl
theorem recordScores_k16 : ((Rows.recordScoresRow.mapsOut == Tryz.prog.mapsAmong Tryz.f5.resultTypes.toList)) = true := by kernel_rfl
theorem recordScores_k17 : ((Rows.recordScoresRow.loops == (Tryz.f5.params.toList ++ Rows.recordScoresSpec.plain.varTypes Tryz.prog).any (Tryz.prog.loopsFrom ·))) = true := by kernel_rfl
theorem recordScores_k18 : ((Rows.recordScoresRow.wideKeys == (Tryz.f5.params.toList ++ Rows.recordScoresSpec.plain.varTypes Tryz.prog ++ Tryz.f5.resultTypes.toList).any (Tryz.prog.wideKeysFrom ·))) = true := by kernel_rfl
theorem recordScores_k19 : (Rows.recordScoresSpec.vars.all (Tryz.prog.varReadable ·)) = true := by kernel_rfl
theorem recordScores_k20 : (Tryz.f5.resultTypes.all (fun t => Tryz.prog.readableRec t && decide (t < Tryz.prog.types.size))) = true := by kernel_rfl
theorem recordScores_k21 : ((Rows.recordScoresRow.ifacesOut == Tryz.f5.resultTypes.toList.any (Tryz.prog.ifacesRec ·))) = true := by kernel_rfl
theorem recordScores_k22 : ((Rows.recordScoresRow.loopsOut == Tryz.f5.resultTypes.toList.any (Tryz.prog.loopsFrom ·))) = true := by kernel_rfl
theorem recordScores_k24 : (Rows.recordScoresRow.shortTexts.isNone) = true := by kernel_rfl
theorem recordScores_k29 : ((Rows.recordScoresRow.kinds == (if Rows.recordScoresRow.domain.isEmpty then [] else Tryz.f5.params.toList.map fun t => match Tryz.prog.underlying t with | some (.int k) => some k | _ => none))) = true := by kernel_rfl
theorem recordScores_k30 : ((Rows.recordScoresRow.pinned == Rows.recordScoresRow.pinnedBy)) = true := by kernel_rfl
theorem recordScores_k31 : ((Rows.recordScoresRow.veiled == (Tryz.f5.params.toList ++ Rows.recordScoresSpec.plain.varTypes Tryz.prog ++ Tryz.f5.resultTypes.toList).any (Tryz.prog.veiledRec ·))) = true := by kernel_rfl
theorem recordScores_k32 : (Rows.recordScoresRow.veiledFits Tryz.prog Tryz.f5.params.toList (Tryz.f5.params.toList ++ Rows.recordScoresSpec.plain.varTypes Tryz.prog ++ Tryz.f5.resultTypes.toList)) = true := by kernel_rfl
theorem recordScores_closed : joinedFacts Tryz.prog 5 Tryz.f5 Rows.recordScoresSpec Rows.recordScoresRow = true := (bd_ (bd_ (bd_ (bd_ (bd_ (bd_ (bd_ (bd_ (bd_ (bd_ (bd_ (bd_ (bd_ (bd_ (bd_ (bd_ (bd_ (bd_ (bd_ (bd_ (bd_ (bd_ (bd_ (bd_ (bd_ (bd_ (bd_ (bd_ (bd_ (bd_ (bd_ recordScores_k1 Ji3) Jiv) recordScores_k4) recordScores_k5) recordScores_k6) Ji9) recordScores_k8) Ji4) recordScores_k10) recordScores_k11) recordScores_k12) recordScores_k13) recordScores_k14) recordScores_k15) recordScores_k16) recordScores_k17) recordScores_k18) recordScores_k19) recordScores_k20) recordScores_k21) recordScores_k22) Jg4) recordScores_k24) Jha) Jg6) Jgy) Jgv) recordScores_k29) recordScores_k30) recordScores_k31) recordScores_k32)
set_option maxHeartbeats 2000000 in
theorem recordScores_lifted (os : Os) (started : os.Started) (H : Type) (enc : TypeId × Value → H) :
  ReturnsInHanded {} Tryz.checked os 5 .any (fun w args => (Rows.recordScoresSpec.pre enc Tryz.prog Tryz.f5 Rows.recordScoresRow.domain Rows.recordScoresRow.apart w args ∧ laidMetH Tryz.prog [("padlock/room.reserved", Rows.laid_padlock_room_reserved)] w) ∧ sizedMet enc Tryz.prog Tryz.f5 (OpenSpec.ofChange Rows.recordScoresSpec) Rows.recordScoresRow.apart w args)
   (Rows.recordScoresSpec.post enc Tryz.prog Tryz.f5 Rows.recordScoresRow.apart Rows.recordScoresRow.fresh Rows.recordScoresRow.handsOn Rows.recordScoresRow.again) := by
 refine returnsInHanded_of_change_and (C := Tryz.checked) (X := fun w _ => laidMetH Tryz.prog [("padlock/room.reserved", Rows.laid_padlock_room_reserved)] w) (fun _ _ _ hh h => h.of_heap hh) own started (by kernel_rfl) Tryz.func5
  (ChangeSpec.witness_shaped (enc := enc) (C := Tryz.checked) (X := fun w _ => laidMetH Tryz.prog [("padlock/room.reserved", Rows.laid_padlock_room_reserved)] w) false (World.laidAll Tryz.prog os [("padlock/room.reserved", Rows.laid_padlock_room_reserved)]) #[.agg #[.slice none 0 0, .slice none 0 0, .slice none 0 0, .slice none 0 0, .slice none 0 0, .slice none 0 0, .int .i64 0, .slice none 0 0, .slice none 0 0, .slice none 0 0, .slice none 0 0, .int .i64 0], .slice none 0 0, .int .i64 0] 8 (World.laidAll_os _ _ _) (World.shaped_of_ZipB (by kernel_rfl) (by kernel_rfl)) (by kernel_rfl) (by kernel_rfl) (by kernel_rfl)
   (by rw [MakeChecks.laidMetH_plain _ _ _ (by kernel_rfl)]; exact laidMet_laidAll _ (by kernel_rfl) (by kernel_rfl))) ?_
 intro W base args ds gs before hval0 hW _ _ hL _
 have hval : ∀ (j : Nat) t v, Tryz.f5.params[j]? = some t → args[j]? = some v → Value.okWide Tryz.prog W .any base t v := hval0
 have hW' := hW
 obtain ⟨p, q, hA0, hV, rfl, hfz, hnd⟩ := hW
 have hA : DataW.TrodAll enc Tryz.prog W 0 (fun _ => true) true Tryz.f5.params.toList args.toList ds p := hA0
 rw [Tryz.params5] at hA hval
 obtain ⟨v0, v1, v2, d0, d1, d2, p0, p1, p2, rfl, rfl, rfl, h0, h1, h2⟩ := trodAll_three hA
 obtain ⟨rfl, rfl⟩ := trodVars_none hV
 obtain ⟨g, hG⟩ := Jdt hL
 obtain ⟨⟨c0⟩, rfl, _⟩ := okWide_struct Tryz.underlying36 (hval 0 36 v0 rfl rfl)
 obtain ⟨_, k0⟩ := h0
 obtain ⟨x0, e0, r0⟩ := Jix k0
 change c0 = _ at e0
 subst e0
 obtain ⟨_, _, _, rfl⟩ := okWide_slice Tryz.underlying40 (hval 1 40 v1 rfl rfl)
 obtain ⟨_, k1⟩ := h1
 obtain ⟨x1, e1, r1⟩ := (Ja1 Tryz.underlying40 (by kernel_rfl) (by decide) Jjw) _ _ _ k1
 rw [show Value.slice _ _ _ = x1.v from (List.cons.inj e1).1] at hW' ⊢
 obtain ⟨x2, rfl⟩ := okWide_int Tryz.underlying3 (hval 2 3 v2 rfl rfl)
 refine Calls.mono (Jlw x0 W r0 g hG x1 r1 x2) ?_
 rintro e W' ⟨rfl, hb⟩
 exact ⟨_, rfl, Jg5 laidOut (by kernel_rfl) rfl Tryz.underlying4 hW' rfl hb rfl rfl rfl⟩
theorem recordScores_holds : Rows.RecordScoresSaid :=
 OpenClaim.holds_of_wide 5 Tryz.f5 rfl rfl rfl rfl rfl rfl rfl ⟨rfl, rfl, rfl, rfl, rfl⟩ rfl rfl rfl rfl rfl (by kernel_rfl) Tryz.func5 recordScores_closed
  (of_decide_eq_true (by kernel_rfl)) (by unfold Func.isWrapper; first | (rw [if_pos (by decide +kernel)]; kernel_rfl) | (rw [if_neg (by decide +kernel)]; exact ⟨rfl, rfl⟩))
  (fun os started H enc _ => recordScores_lifted os started H enc)
theorem recordScores_card : Rows.RecordScoresCardSaid :=
 Claim7.holds_tied_plain_at .later [] [.widerDeep] true (true, "6ba0bab29e1409fa1284d55df0d0845f7bff8f93e6b5e797eca9a17f1bbe3c90") false recordScores_holds (fun _ h => by cases h) (by kernel_rfl) (fun _ h => by cases h) recordScores_row_tie rfl ⟨rfl, rfl⟩ (by kernel_rfl) rfl
  (fun f fn hf hfn => by
   obtain rfl : f = 5 := Option.some.inj ((show Tryz.prog.funcNamed "padlock/padlocklaw12.RecordScores" = some 5 by kernel_rfl).symm.trans hf) |>.symm
   obtain rfl : fn = Tryz.f5 := (Option.some.inj (Tryz.func5.symm.trans hfn)).symm
   exact ⟨by kernel_rfl, fun j t ht => by
    rw [Tryz.params5] at ht
    have hm : t ∈ [36, 40, 3] := by simpa using Array.mem_of_getElem? ht
    have hall : ([36, 40, 3].all fun u => !Tryz.prog.wantsStandIn u) = true := by kernel_rfl
    exact (show Tryz.prog.wantsStandIn t = false by simpa using List.all_eq_true.1 hall t hm)⟩)
  (by kernel_rfl)
end Go.Proofs.YtohneogdekdboaaGreatDoor
