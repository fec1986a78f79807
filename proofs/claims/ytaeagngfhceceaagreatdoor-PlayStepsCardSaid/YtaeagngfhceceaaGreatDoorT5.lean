/- The tied card of the law PlaySteps: whatever the input, it returns true and the input reads as it did. Condition: the package variable room.reserved starts as the program's text lays it (tied). -/
import Derived.Test.YtaeagngfhceceaaGreatDoorH5
import Derived.Test.YtaeagngfhceceaaGreatDoorZx
import Derived.Test.YtaeagngfhceceaaGreatDoorZy
import Derived.Test.YtaeagngfhceceaaGreatDoorTie
import Derived.Test.YtaeagngfhceceaaGreatDoorCards
import Derived.Test.YtaeagngfhceceaaGreatDoorY0
import Derived.Test.YtaeagngfhceceaaGreatDoorY1
import Derived.Test.YtaeagngfhceceaaGreatDoorY2
import Derived.Test.YtaeagngfhceceaaGreatDoorY3
import Derived.Test.YtaeagngfhceceaaGreatDoorY4
import Derived.Test.YtaeagngfhceceaaGreatDoorY5
import Derived.Test.YtaeagngfhceceaaGreatDoorY6
import Derived.Test.YtaeagngfhceceaaGreatDoorY7
import Derived.Test.YtaeagngfhceceaaGreatDoorY8
import Derived.Test.YtaeagngfhceceaaGreatDoorY9
import Derived.Test.YtaeagngfhceceaaGreatDoorY10
import Derived.Test.YtaeagngfhceceaaGreatDoorY12
import Derived.Test.YtaeagngfhceceaaGreatDoorY13
import Derived.Test.YtaeagngfhceceaaGreatDoorY15
import Derived.Test.YtaeagngfhceceaaGreatDoorY18
import Derived.Test.YtaeagngfhceceaaGreatDoorY19
import Derived.Test.YtaeagngfhceceaaGreatDoorY28
import Derived.Test.YtaeagngfhceceaaGreatDoorY30
import Derived.Test.YtaeagngfhceceaaGreatDoorY40
set_option maxHeartbeats 8000000
namespace Go.Proofs.YtaeagngfhceceaaGreatDoor
open Go.ChangeShapes Go.WideShapes Go.ChangeAt Go.RowKit Go.Proofs Go.Joins
set_option maxRecDepth 100000
set_option linter.unusedVariables false
set_option linter.unusedSimpArgs false
theorem own : ownKnob Tryz.prog.godebug = none := by kernel_rfl
theorem laidOut : laidOutB Tryz.prog = true := by kernel_rfl
theorem playSteps_k1 : (Rows.playStepsRow.wf (OpenSpec.ofChange Rows.playStepsSpec)) = true := by kernel_rfl
theorem playSteps_k4 : (Tryz.f10.params.all (Tryz.prog.readableRec ·)) = true := by kernel_rfl
theorem playSteps_k5 : (namedTie Tryz.prog Rows.playStepsRow.named Rows.playStepsSpec.vars) = true := by kernel_rfl
theorem playSteps_k6 : ((Rows.playStepsRow.stops == [])) = true := by kernel_rfl
theorem playSteps_k8 : ((Rows.playStepsRow.knobs == [])) = true := by kernel_rfl
theorem playSteps_k10 : ((Rows.playStepsRow.inPlace == Tryz.prog.inPlace 10)) = true := by kernel_rfl
theorem playSteps_k11 : ((Rows.playStepsRow.unfollowed == Tryz.prog.unfollowed 10)) = true := by kernel_rfl
theorem playSteps_k12 : ((Rows.playStepsRow.recurses == Tryz.prog.recurses 10)) = true := by kernel_rfl
theorem playSteps_k13 : ((Rows.playStepsRow.named == Tryz.prog.varsNamed 10)) = true := by kernel_rfl
theorem playSteps_k14 : ((Rows.playStepsRow.maps == (Tryz.f10.params.toList ++ Rows.playStepsSpec.plain.varTypes Tryz.prog).any (Tryz.prog.mapsRec ·))) = true := by kernel_rfl
theorem playSteps_k15 : ((Rows.playStepsRow.ifaces == (Tryz.f10.params.toList ++ Rows.playStepsSpec.plain.varTypes Tryz.prog).any (Tryz.prog.ifacesRec ·))) = true := by kernel_rfl
theorem playSteps_k16 : ((Rows.playStepsRow.mapsOut == Tryz.prog.mapsAmong Tryz.f10.resultTypes.toList)) = true := by kernel_rfl
theorem playSteps_k17 : ((Rows.playStepsRow.loops == (Tryz.f10.params.toList ++ Rows.playStepsSpec.plain.varTypes Tryz.prog).any (Tryz.prog.loopsFrom ·))) = true := by kernel_rfl
theorem playSteps_k18 : ((Rows.playStepsRow.wideKeys == (Tryz.f10.params.toList ++ Rows.playStepsSpec.plain.varTypes Tryz.prog ++ Tryz.f10.resultTypes.toList).any (Tryz.prog.wideKeysFrom ·))) = true := by kernel_rfl
theorem playSteps_k19 : (Rows.playStepsSpec.vars.all (Tryz.prog.varReadable ·)) = true := by kernel_rfl
theorem playSteps_k20 : (Tryz.f10.resultTypes.all (fun t => Tryz.prog.readableRec t && decide (t < Tryz.prog.types.size))) = true := by kernel_rfl
theorem playSteps_k21 : ((Rows.playStepsRow.ifacesOut == Tryz.f10.resultTypes.toList.any (Tryz.prog.ifacesRec ·))) = true := by kernel_rfl
theorem playSteps_k22 : ((Rows.playStepsRow.loopsOut == Tryz.f10.resultTypes.toList.any (Tryz.prog.loopsFrom ·))) = true := by kernel_rfl
theorem playSteps_k24 : (Rows.playStepsRow.shortTexts.isNone) = true := by kernel_rfl
theorem playSteps_k29 : ((Rows.playStepsRow.kinds == (if Rows.playStepsRow.domain.isEmpty then [] else Tryz.f10.params.toList.map fun t => match Tryz.prog.underlying t with | some (.int k) => some k | _ => none))) = true := by kernel_rfl
theorem playSteps_k30 : ((Rows.playStepsRow.pinned == Rows.playStepsRow.pinnedBy)) = true := by kernel_rfl
theorem playSteps_k31 : ((Rows.playStepsRow.veiled == (Tryz.f10.params.toList ++ Rows.playStepsSpec.plain.varTypes Tryz.prog ++ Tryz.f10.resultTypes.toList).any (Tryz.prog.veiledRec ·))) = true := by kernel_rfl
theorem playSteps_k32 : (Rows.playStepsRow.veiledFits Tryz.prog Tryz.f10.params.toList (Tryz.f10.params.toList ++ Rows.playStepsSpec.plain.varTypes Tryz.prog ++ Tryz.f10.resultTypes.toList)) = true := by kernel_rfl
theorem playSteps_closed : joinedFacts Tryz.prog 10 Tryz.f10 Rows.playStepsSpec Rows.playStepsRow = true := (bd_ (bd_ (bd_ (bd_ (bd_ (bd_ (bd_ (bd_ (bd_ (bd_ (bd_ (bd_ (bd_ (bd_ (bd_ (bd_ (bd_ (bd_ (bd_ (bd_ (bd_ (bd_ (bd_ (bd_ (bd_ (bd_ (bd_ (bd_ (bd_ (bd_ (bd_ playSteps_k1 seat_k2) seat_k3) playSteps_k4) playSteps_k5) playSteps_k6) seat_k7) playSteps_k8) seat_k9) playSteps_k10) playSteps_k11) playSteps_k12) playSteps_k13) playSteps_k14) playSteps_k15) playSteps_k16) playSteps_k17) playSteps_k18) playSteps_k19) playSteps_k20) playSteps_k21) playSteps_k22) seat_k23) playSteps_k24) seat_k25) seat_k26) seat_k27) seat_k28) playSteps_k29) playSteps_k30) playSteps_k31) playSteps_k32)
set_option maxHeartbeats 2000000 in
theorem playSteps_lifted (os : Os) (started : os.Started) (H : Type) (enc : TypeId × Value → H) :
  ReturnsInHanded {} Tryz.checked os 10 .any (fun w args => (Rows.playStepsSpec.pre enc Tryz.prog Tryz.f10 Rows.playStepsRow.domain Rows.playStepsRow.apart w args ∧ laidMetH Tryz.prog [("padlock/room.reserved", Rows.laid_padlock_room_reserved)] w) ∧ sizedMet enc Tryz.prog Tryz.f10 (OpenSpec.ofChange Rows.playStepsSpec) Rows.playStepsRow.apart w args)
   (Rows.playStepsSpec.post enc Tryz.prog Tryz.f10 Rows.playStepsRow.apart Rows.playStepsRow.fresh Rows.playStepsRow.handsOn Rows.playStepsRow.again) := by
 refine returnsInHanded_of_change_and (C := Tryz.checked) (X := fun w _ => laidMetH Tryz.prog [("padlock/room.reserved", Rows.laid_padlock_room_reserved)] w) (fun _ _ _ hh h => h.of_heap hh) own started (by kernel_rfl) Tryz.func10
  (ChangeSpec.witness_shaped (enc := enc) (C := Tryz.checked) (X := fun w _ => laidMetH Tryz.prog [("padlock/room.reserved", Rows.laid_padlock_room_reserved)] w) false (World.laidAll Tryz.prog os [("padlock/room.reserved", Rows.laid_padlock_room_reserved)]) #[.agg #[.slice none 0 0, .slice none 0 0, .slice none 0 0, .slice none 0 0, .slice none 0 0, .slice none 0 0, .int .i64 0, .slice none 0 0, .slice none 0 0, .slice none 0 0, .slice none 0 0, .int .i64 0], .agg #[.slice none 0 0, .slice none 0 0, .slice none 0 0, .slice none 0 0], .agg #[.int .i64 0, .int .i64 0, .int .i64 0]] 8 (World.laidAll_os _ _ _) (World.shaped_of_ZipB (by kernel_rfl) (by kernel_rfl)) (by kernel_rfl) (by kernel_rfl) (by kernel_rfl)
   (by rw [MakeChecks.laidMetH_plain _ _ _ (by kernel_rfl)]; exact laidMet_laidAll _ (by kernel_rfl) (by kernel_rfl))) ?_
 intro W base args ds gs before hval0 hW _ _ hL _
 have hval : ∀ (j : Nat) t v, Tryz.f10.params[j]? = some t → args[j]? = some v → Value.okWide Tryz.prog W .any base t v := hval0
 have hW' := hW
 obtain ⟨p, q, hA0, hV, rfl, hfz, hnd⟩ := hW
 have hA : DataW.TrodAll enc Tryz.prog W 0 (fun _ => true) true Tryz.f10.params.toList args.toList ds p := hA0
 rw [Tryz.params10] at hA hval
 obtain ⟨v0, v1, v2, d0, d1, d2, p0, p1, p2, rfl, rfl, rfl, h0, h1, h2⟩ := trodAll_three hA
 obtain ⟨rfl, rfl⟩ := trodVars_none hV
 obtain ⟨g, hG⟩ := gOk_of_laid hL
 obtain ⟨⟨c0⟩, rfl, _⟩ := okWide_struct Tryz.underlying36 (hval 0 36 v0 rfl rfl)
 obtain ⟨_, k0⟩ := h0
 obtain ⟨x0, e0, r0⟩ := rd_Game k0
 change c0 = _ at e0
 subst e0
 obtain ⟨⟨c1⟩, rfl, _⟩ := okWide_struct Tryz.underlying68 (hval 1 68 v1 rfl rfl)
 obtain ⟨_, k1⟩ := h1
 obtain ⟨x1, e1, r1⟩ := rd_Pos k1
 change c1 = _ at e1
 subst e1
 obtain ⟨⟨c2⟩, rfl, _⟩ := okWide_struct Tryz.underlying91 (hval 2 91 v2 rfl rfl)
 obtain ⟨_, k2⟩ := h2
 obtain ⟨x2, e2, r2⟩ := rd_Move _ _ _ k2
 change c2 = _ at e2
 subst e2
 refine Calls.mono (PlaySteps_c x0 W r0 g hG x1 r1 x2) ?_
 rintro e W' ⟨rfl, hb⟩
 exact ⟨_, rfl, law_post laidOut (by kernel_rfl) rfl Tryz.underlying4 hW' rfl hb rfl rfl rfl⟩
theorem playSteps_holds : Rows.PlayStepsSaid :=
 OpenClaim.holds_of_wide 10 Tryz.f10 rfl rfl rfl rfl rfl rfl rfl ⟨rfl, rfl, rfl, rfl, rfl⟩ rfl rfl rfl rfl rfl (by kernel_rfl) Tryz.func10 playSteps_closed
  (of_decide_eq_true (by kernel_rfl)) (by unfold Func.isWrapper; first | (rw [if_pos (by decide +kernel)]; kernel_rfl) | (rw [if_neg (by decide +kernel)]; exact ⟨rfl, rfl⟩))
  (fun os started H enc _ => playSteps_lifted os started H enc)
theorem playSteps_card : Rows.PlayStepsCardSaid :=
 Claim7.holds_tied_plain_at .later [] [.widerDeep] true (true, "d6f71de39442d2818fcd46bbefcc35924a1ed5ec2ff9ee81d8cb38a58824c922") false playSteps_holds (fun _ h => by cases h) (by kernel_rfl) (fun _ h => by cases h) playSteps_row_tie rfl ⟨rfl, rfl⟩ (by kernel_rfl) rfl
  (fun f fn hf hfn => by
   obtain rfl : f = 10 := Option.some.inj ((show Tryz.prog.funcNamed "padlock/padlocklaw04.PlaySteps" = some 10 by kernel_rfl).symm.trans hf) |>.symm
   obtain rfl : fn = Tryz.f10 := (Option.some.inj (Tryz.func10.symm.trans hfn)).symm
   exact ⟨by kernel_rfl, fun j t ht => by
    rw [Tryz.params10] at ht
    have hm : t ∈ [36, 68, 91] := by simpa using Array.mem_of_getElem? ht
    have hall : ([36, 68, 91].all fun u => !Tryz.prog.wantsStandIn u) = true := by kernel_rfl
    exact (show Tryz.prog.wantsStandIn t = false by simpa using List.all_eq_true.1 hall t hm)⟩)
  (by kernel_rfl)
end Go.Proofs.YtaeagngfhceceaaGreatDoor
