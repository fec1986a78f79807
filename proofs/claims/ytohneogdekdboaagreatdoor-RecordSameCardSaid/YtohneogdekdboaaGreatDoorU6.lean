/- The tied card of the law RecordSame: whatever the input, it returns true and the input reads as it did. Condition: the package variable room.reserved starts as the program's text lays it (tied). -/
import Derived.Test.YtohneogdekdboaaGreatDoorJ6
import Derived.Test.YtohneogdekdboaaGreatDoorZx
import Derived.Test.YtohneogdekdboaaGreatDoorZy
import Derived.Test.YtohneogdekdboaaGreatDoorTie
import Derived.Test.YtohneogdekdboaaGreatDoorCards
import Derived.Test.YtohneogdekdboaaGreatDoorY0
import Derived.Test.YtohneogdekdboaaGreatDoorY2
import Derived.Test.YtohneogdekdboaaGreatDoorY3
import Derived.Test.YtohneogdekdboaaGreatDoorY4
import Derived.Test.YtohneogdekdboaaGreatDoorY5
import Derived.Test.YtohneogdekdboaaGreatDoorY7
import Derived.Test.YtohneogdekdboaaGreatDoorY12
import Derived.Test.YtohneogdekdboaaGreatDoorY14
import Derived.Test.YtohneogdekdboaaGreatDoorY17
set_option maxHeartbeats 8000000
namespace Go.Proofs.YtohneogdekdboaaGreatDoor
open Go.ChangeShapes Go.WideShapes Go.ChangeAt Go.RowKit Go.Proofs Go.Joins
set_option maxRecDepth 100000
set_option linter.unusedVariables false
set_option linter.unusedSimpArgs false
theorem own : ownKnob Tryz.prog.godebug = none := by kernel_rfl
theorem laidOut : laidOutB Tryz.prog = true := by kernel_rfl
theorem recordSame_k1 : (Rows.recordSameRow.wf (OpenSpec.ofChange Rows.recordSameSpec)) = true := by kernel_rfl
theorem recordSame_k4 : (Tryz.f8.params.all (Tryz.prog.readableRec ·)) = true := by kernel_rfl
theorem recordSame_k5 : (namedTie Tryz.prog Rows.recordSameRow.named Rows.recordSameSpec.vars) = true := by kernel_rfl
theorem recordSame_k6 : ((Rows.recordSameRow.stops == [])) = true := by kernel_rfl
theorem recordSame_k8 : ((Rows.recordSameRow.knobs == [])) = true := by kernel_rfl
theorem recordSame_k10 : ((Rows.recordSameRow.inPlace == Tryz.prog.inPlace 8)) = true := by kernel_rfl
theorem recordSame_k11 : ((Rows.recordSameRow.unfollowed == Tryz.prog.unfollowed 8)) = true := by kernel_rfl
theorem recordSame_k12 : ((Rows.recordSameRow.recurses == Tryz.prog.recurses 8)) = true := by kernel_rfl
theorem recordSame_k13 : ((Rows.recordSameRow.named == Tryz.prog.varsNamed 8)) = true := by kernel_rfl
theorem recordSame_k14 : ((Rows.recordSameRow.maps == (Tryz.f8.params.toList ++ Rows.recordSameSpec.plain.varTypes Tryz.prog).any (Tryz.prog.mapsRec ·))) = true := by kernel_rfl
theorem recordSame_k15 : ((Rows.recordSameRow.ifaces == (Tryz.f8.params.toList ++ Rows.recordSameSpec.plain.varTypes Tryz.prog).any (Tryz.prog.ifacesRec ·))) = true := by kernel_rfl
theorem recordSame_k16 : ((Rows.recordSameRow.mapsOut == Tryz.prog.mapsAmong Tryz.f8.resultTypes.toList)) = true := by kernel_rfl
theorem recordSame_k17 : ((Rows.recordSameRow.loops == (Tryz.f8.params.toList ++ Rows.recordSameSpec.plain.varTypes Tryz.prog).any (Tryz.prog.loopsFrom ·))) = true := by kernel_rfl
theorem recordSame_k18 : ((Rows.recordSameRow.wideKeys == (Tryz.f8.params.toList ++ Rows.recordSameSpec.plain.varTypes Tryz.prog ++ Tryz.f8.resultTypes.toList).any (Tryz.prog.wideKeysFrom ·))) = true := by kernel_rfl
theorem recordSame_k19 : (Rows.recordSameSpec.vars.all (Tryz.prog.varReadable ·)) = true := by kernel_rfl
theorem recordSame_k20 : (Tryz.f8.resultTypes.all (fun t => Tryz.prog.readableRec t && decide (t < Tryz.prog.types.size))) = true := by kernel_rfl
theorem recordSame_k21 : ((Rows.recordSameRow.ifacesOut == Tryz.f8.resultTypes.toList.any (Tryz.prog.ifacesRec ·))) = true := by kernel_rfl
theorem recordSame_k22 : ((Rows.recordSameRow.loopsOut == Tryz.f8.resultTypes.toList.any (Tryz.prog.loopsFrom ·))) = true := by kernel_rfl
theorem recordSame_k24 : (Rows.recordSameRow.shortTexts.isNone) = true := by kernel_rfl
theorem recordSame_k29 : ((Rows.recordSameRow.kinds == (if Rows.recordSameRow.domain.isEmpty then [] else Tryz.f8.params.toList.map fun t => match Tryz.prog.underlying t with | some (.int k) => some k | _ => none))) = true := by kernel_rfl
theorem recordSame_k30 : ((Rows.recordSameRow.pinned == Rows.recordSameRow.pinnedBy)) = true := by kernel_rfl
theorem recordSame_k31 : ((Rows.recordSameRow.veiled == (Tryz.f8.params.toList ++ Rows.recordSameSpec.plain.varTypes Tryz.prog ++ Tryz.f8.resultTypes.toList).any (Tryz.prog.veiledRec ·))) = true := by kernel_rfl
theorem recordSame_k32 : (Rows.recordSameRow.veiledFits Tryz.prog Tryz.f8.params.toList (Tryz.f8.params.toList ++ Rows.recordSameSpec.plain.varTypes Tryz.prog ++ Tryz.f8.resultTypes.toList)) = true := by kernel_rfl
theorem recordSame_closed : joinedFacts Tryz.prog 8 Tryz.f8 Rows.recordSameSpec Rows.recordSameRow = true := (bd_ (bd_ (bd_ (bd_ (bd_ (bd_ (bd_ (bd_ (bd_ (bd_ (bd_ (bd_ (bd_ (bd_ (bd_ (bd_ (bd_ (bd_ (bd_ (bd_ (bd_ (bd_ (bd_ (bd_ (bd_ (bd_ (bd_ (bd_ (bd_ (bd_ (bd_ recordSame_k1 Ji3) Jiv) recordSame_k4) recordSame_k5) recordSame_k6) Ji9) recordSame_k8) Ji4) recordSame_k10) recordSame_k11) recordSame_k12) recordSame_k13) recordSame_k14) recordSame_k15) recordSame_k16) recordSame_k17) recordSame_k18) recordSame_k19) recordSame_k20) recordSame_k21) recordSame_k22) Jg4) recordSame_k24) Jha) Jg6) Jgy) Jgv) recordSame_k29) recordSame_k30) recordSame_k31) recordSame_k32)
set_option maxHeartbeats 2000000 in
theorem recordSame_lifted (os : Os) (started : os.Started) (H : Type) (enc : TypeId × Value → H) :
  ReturnsInHanded {} Tryz.checked os 8 .any (fun w args => (Rows.recordSameSpec.pre enc Tryz.prog Tryz.f8 Rows.recordSameRow.domain Rows.recordSameRow.apart w args ∧ laidMetH Tryz.prog [("padlock/room.reserved", Rows.laid_padlock_room_reserved)] w) ∧ sizedMet enc Tryz.prog Tryz.f8 (OpenSpec.ofChange Rows.recordSameSpec) Rows.recordSameRow.apart w args)
   (Rows.recordSameSpec.post enc Tryz.prog Tryz.f8 Rows.recordSameRow.apart Rows.recordSameRow.fresh Rows.recordSameRow.handsOn Rows.recordSameRow.again) := by
 refine returnsInHanded_of_change_and (C := Tryz.checked) (X := fun w _ => laidMetH Tryz.prog [("padlock/room.reserved", Rows.laid_padlock_room_reserved)] w) (fun _ _ _ hh h => h.of_heap hh) own started (by kernel_rfl) Tryz.func8
  (ChangeSpec.witness_shaped (enc := enc) (C := Tryz.checked) (X := fun w _ => laidMetH Tryz.prog [("padlock/room.reserved", Rows.laid_padlock_room_reserved)] w) false (World.laidAll Tryz.prog os [("padlock/room.reserved", Rows.laid_padlock_room_reserved)]) #[.agg #[.slice none 0 0, .slice none 0 0, .slice none 0 0, .slice none 0 0, .slice none 0 0, .slice none 0 0, .int .i64 0, .slice none 0 0, .slice none 0 0, .slice none 0 0, .slice none 0 0, .int .i64 0], .slice none 0 0] 8 (World.laidAll_os _ _ _) (World.shaped_of_ZipB (by kernel_rfl) (by kernel_rfl)) (by kernel_rfl) (by kernel_rfl) (by kernel_rfl)
   (by rw [MakeChecks.laidMetH_plain _ _ _ (by kernel_rfl)]; exact laidMet_laidAll _ (by kernel_rfl) (by kernel_rfl))) ?_
 intro W base args ds gs before hval0 hW _ _ hL _
 have hval : ∀ (j : Nat) t v, Tryz.f8.params[j]? = some t → args[j]? = some v → Value.okWide Tryz.prog W .any base t v := hval0
 have hW' := hW
 obtain ⟨p, q, hA0, hV, rfl, hfz, hnd⟩ := hW
 have hA : DataW.TrodAll enc Tryz.prog W 0 (fun _ => true) true Tryz.f8.params.toList args.toList ds p := hA0
 rw [Tryz.params8] at hA hval
 obtain ⟨v0, v1, d0, d1, p0, p1, rfl, rfl, rfl, h0, h1⟩ := trodAll_two hA
 obtain ⟨rfl, rfl⟩ := trodVars_none hV
 obtain ⟨g, hG⟩ := Jdt hL
 obtain ⟨⟨c0⟩, rfl, _⟩ := okWide_struct Tryz.underlying36 (hval 0 36 v0 rfl rfl)
 obtain ⟨_, k0⟩ := h0
 obtain ⟨x0, e0, r0⟩ := Jix k0
 change c0 = _ at e0
 subst e0
 obtain ⟨_, _, _, rfl⟩ := okWide_slice Tryz.underlying40 (hval 1 40 v1 rfl rfl)
 obtain ⟨_, k1⟩ := h1
 obtain ⟨x1, e1, r1⟩ := (Ja1 Tryz.underlying40 (by kernel_rfl) (by decide) Jjw) _ _ _ k1
 rw [show Value.slice _ _ _ = x1.v from (List.cons.inj e1).1] at hW' ⊢
 refine Calls.mono (Jpe x0 W r0 g hG x1 r1) ?_
 rintro e W' ⟨rfl, hb⟩
 exact ⟨_, rfl, Jg5 laidOut (by kernel_rfl) rfl Tryz.underlying4 hW' rfl hb rfl rfl rfl⟩
theorem recordSame_holds : Rows.RecordSameSaid :=
 OpenClaim.holds_of_wide 8 Tryz.f8 rfl rfl rfl rfl rfl rfl rfl ⟨rfl, rfl, rfl, rfl, rfl⟩ rfl rfl rfl rfl rfl (by kernel_rfl) Tryz.func8 recordSame_closed
  (of_decide_eq_true (by kernel_rfl)) (by unfold Func.isWrapper; first | (rw [if_pos (by decide +kernel)]; kernel_rfl) | (rw [if_neg (by decide +kernel)]; exact ⟨rfl, rfl⟩))
  (fun os started H enc _ => recordSame_lifted os started H enc)
theorem recordSame_card : Rows.RecordSameCardSaid :=
 Claim7.holds_tied_plain_at .later [] [.widerDeep] true (true, "6ba0bab29e1409fa1284d55df0d0845f7bff8f93e6b5e797eca9a17f1bbe3c90") false recordSame_holds (fun _ h => by cases h) (by kernel_rfl) (fun _ h => by cases h) recordSame_row_tie rfl ⟨rfl, rfl⟩ (by kernel_rfl) rfl
  (fun f fn hf hfn => by
   obtain rfl : f = 8 := Option.some.inj ((show Tryz.prog.funcNamed "padlock/padlocklaw12.RecordSame" = some 8 by kernel_rfl).symm.trans hf) |>.symm
   obtain rfl : fn = Tryz.f8 := (Option.some.inj (Tryz.func8.symm.trans hfn)).symm
   exact ⟨by kernel_rfl, fun j t ht => by
    rw [Tryz.params8] at ht
    have hm : t ∈ [36, 40] := by simpa using Array.mem_of_getElem? ht
    have hall : ([36, 40].all fun u => !Tryz.prog.wantsStandIn u) = true := by kernel_rfl
    exact (show Tryz.prog.wantsStandIn t = false by simpa using List.all_eq_true.1 hall t hm)⟩)
  (by kernel_rfl)
end Go.Proofs.YtohneogdekdboaaGreatDoor
