/- The tied card of the law PlayPossible: whatever the input, it returns true and the input reads as it did. Condition: the package variable room.reserved starts as the program's text lays it (tied). -/
import Derived.Test.YtaeagngfhceceaaGreatDoorH9
import Derived.Test.YtaeagngfhceceaaGreatDoorZx
import Derived.Test.YtaeagngfhceceaaGreatDoorZy
import Derived.Test.YtaeagngfhceceaaGreatDoorTie
import Derived.Test.YtaeagngfhceceaaGreatDoorCards
import Derived.Test.YtaeagngfhceceaaGreatDoorY1
import Derived.Test.YtaeagngfhceceaaGreatDoorY2
import Derived.Test.YtaeagngfhceceaaGreatDoorY4
import Derived.Test.YtaeagngfhceceaaGreatDoorY8
import Derived.Test.YtaeagngfhceceaaGreatDoorY10
import Derived.Test.YtaeagngfhceceaaGreatDoorY11
import Derived.Test.YtaeagngfhceceaaGreatDoorY12
import Derived.Test.YtaeagngfhceceaaGreatDoorY17
import Derived.Test.YtaeagngfhceceaaGreatDoorY18
import Derived.Test.YtaeagngfhceceaaGreatDoorY19
import Derived.Test.YtaeagngfhceceaaGreatDoorY25
import Derived.Test.YtaeagngfhceceaaGreatDoorY27
import Derived.Test.YtaeagngfhceceaaGreatDoorY29
import Derived.Test.YtaeagngfhceceaaGreatDoorY38
set_option maxHeartbeats 8000000
namespace Go.Proofs.YtaeagngfhceceaaGreatDoor
open Go.ChangeShapes Go.WideShapes Go.ChangeAt Go.RowKit Go.Proofs Go.Joins
set_option maxRecDepth 100000
set_option linter.unusedVariables false
set_option linter.unusedSimpArgs false
theorem own : ownKnob Tryz.prog.godebug = none := by kernel_rfl
theorem laidOut : laidOutB Tryz.prog = true := by kernel_rfl
theorem playPossible_k1 : (Rows.playPossibleRow.wf (OpenSpec.ofChange Rows.playPossibleSpec)) = true := by kernel_rfl
theorem playPossible_k4 : (Tryz.f11.params.all (Tryz.prog.readableRec ·)) = true := by kernel_rfl
theorem playPossible_k5 : (namedTie Tryz.prog Rows.playPossibleRow.named Rows.playPossibleSpec.vars) = true := by kernel_rfl
theorem playPossible_k6 : ((Rows.playPossibleRow.stops == [])) = true := by kernel_rfl
theorem playPossible_k8 : ((Rows.playPossibleRow.knobs == [])) = true := by kernel_rfl
theorem playPossible_k10 : ((Rows.playPossibleRow.inPlace == Tryz.prog.inPlace 11)) = true := by kernel_rfl
theorem playPossible_k11 : ((Rows.playPossibleRow.unfollowed == Tryz.prog.unfollowed 11)) = true := by kernel_rfl
theorem playPossible_k12 : ((Rows.playPossibleRow.recurses == Tryz.prog.recurses 11)) = true := by kernel_rfl
theorem playPossible_k13 : ((Rows.playPossibleRow.named == Tryz.prog.varsNamed 11)) = true := by kernel_rfl
theorem playPossible_k14 : ((Rows.playPossibleRow.maps == (Tryz.f11.params.toList ++ Rows.playPossibleSpec.plain.varTypes Tryz.prog).any (Tryz.prog.mapsRec ·))) = true := by kernel_rfl
theorem playPossible_k15 : ((Rows.playPossibleRow.ifaces == (Tryz.f11.params.toList ++ Rows.playPossibleSpec.plain.varTypes Tryz.prog).any (Tryz.prog.ifacesRec ·))) = true := by kernel_rfl
theorem playPossible_k16 : ((Rows.playPossibleRow.mapsOut == Tryz.prog.mapsAmong Tryz.f11.resultTypes.toList)) = true := by kernel_rfl
theorem playPossible_k17 : ((Rows.playPossibleRow.loops == (Tryz.f11.params.toList ++ Rows.playPossibleSpec.plain.varTypes Tryz.prog).any (Tryz.prog.loopsFrom ·))) = true := by kernel_rfl
theorem playPossible_k18 : ((Rows.playPossibleRow.wideKeys == (Tryz.f11.params.toList ++ Rows.playPossibleSpec.plain.varTypes Tryz.prog ++ Tryz.f11.resultTypes.toList).any (Tryz.prog.wideKeysFrom ·))) = true := by kernel_rfl
theorem playPossible_k19 : (Rows.playPossibleSpec.vars.all (Tryz.prog.varReadable ·)) = true := by kernel_rfl
theorem playPossible_k20 : (Tryz.f11.resultTypes.all (fun t => Tryz.prog.readableRec t && decide (t < Tryz.prog.types.size))) = true := by kernel_rfl
theorem playPossible_k21 : ((Rows.playPossibleRow.ifacesOut == Tryz.f11.resultTypes.toList.any (Tryz.prog.ifacesRec ·))) = true := by kernel_rfl
theorem playPossible_k22 : ((Rows.playPossibleRow.loopsOut == Tryz.f11.resultTypes.toList.any (Tryz.prog.loopsFrom ·))) = true := by kernel_rfl
theorem playPossible_k24 : (Rows.playPossibleRow.shortTexts.isNone) = true := by kernel_rfl
theorem playPossible_k29 : ((Rows.playPossibleRow.kinds == (if Rows.playPossibleRow.domain.isEmpty then [] else Tryz.f11.params.toList.map fun t => match Tryz.prog.underlying t with | some (.int k) => some k | _ => none))) = true := by kernel_rfl
theorem playPossible_k30 : ((Rows.playPossibleRow.pinned == Rows.playPossibleRow.pinnedBy)) = true := by kernel_rfl
theorem playPossible_k31 : ((Rows.playPossibleRow.veiled == (Tryz.f11.params.toList ++ Rows.playPossibleSpec.plain.varTypes Tryz.prog ++ Tryz.f11.resultTypes.toList).any (Tryz.prog.veiledRec ·))) = true := by kernel_rfl
theorem playPossible_k32 : (Rows.playPossibleRow.veiledFits Tryz.prog Tryz.f11.params.toList (Tryz.f11.params.toList ++ Rows.playPossibleSpec.plain.varTypes Tryz.prog ++ Tryz.f11.resultTypes.toList)) = true := by kernel_rfl
theorem playPossible_closed : joinedFacts Tryz.prog 11 Tryz.f11 Rows.playPossibleSpec Rows.playPossibleRow = true := (bd_ (bd_ (bd_ (bd_ (bd_ (bd_ (bd_ (bd_ (bd_ (bd_ (bd_ (bd_ (bd_ (bd_ (bd_ (bd_ (bd_ (bd_ (bd_ (bd_ (bd_ (bd_ (bd_ (bd_ (bd_ (bd_ (bd_ (bd_ (bd_ (bd_ (bd_ playPossible_k1 seat_k2) seat_k3) playPossible_k4) playPossible_k5) playPossible_k6) seat_k7) playPossible_k8) seat_k9) playPossible_k10) playPossible_k11) playPossible_k12) playPossible_k13) playPossible_k14) playPossible_k15) playPossible_k16) playPossible_k17) playPossible_k18) playPossible_k19) playPossible_k20) playPossible_k21) playPossible_k22) seat_k23) playPossible_k24) seat_k25) seat_k26) seat_k27) seat_k28) playPossible_k29) playPossible_k30) playPossible_k31) playPossible_k32)
set_option maxHeartbeats 2000000 in
theorem playPossible_lifted (os : Os) (started : os.Started) (H : Type) (enc : TypeId × Value → H) :
  ReturnsInHanded {} Tryz.checked os 11 .any (fun w args => (Rows.playPossibleSpec.pre enc Tryz.prog Tryz.f11 Rows.playPossibleRow.domain Rows.playPossibleRow.apart w args ∧ laidMetH Tryz.prog [("padlock/room.reserved", Rows.laid_padlock_room_reserved)] w) ∧ sizedMet enc Tryz.prog Tryz.f11 (OpenSpec.ofChange Rows.playPossibleSpec) Rows.playPossibleRow.apart w args)
   (Rows.playPossibleSpec.post enc Tryz.prog Tryz.f11 Rows.playPossibleRow.apart Rows.playPossibleRow.fresh Rows.playPossibleRow.handsOn Rows.playPossibleRow.again) := by
 refine returnsInHanded_of_change_and (C := Tryz.checked) (X := fun w _ => laidMetH Tryz.prog [("padlock/room.reserved", Rows.laid_padlock_room_reserved)] w) (fun _ _ _ hh h => h.of_heap hh) own started (by kernel_rfl) Tryz.func11
  (ChangeSpec.witness_shaped (enc := enc) (C := Tryz.checked) (X := fun w _ => laidMetH Tryz.prog [("padlock/room.reserved", Rows.laid_padlock_room_reserved)] w) false (World.laidAll Tryz.prog os [("padlock/room.reserved", Rows.laid_padlock_room_reserved)]) #[.agg #[.slice none 0 0, .slice none 0 0, .slice none 0 0, .slice none 0 0, .slice none 0 0, .slice none 0 0, .int .i64 0, .slice none 0 0, .slice none 0 0, .slice none 0 0, .slice none 0 0, .int .i64 0], .agg #[.slice none 0 0, .slice none 0 0, .slice none 0 0, .slice none 0 0], .agg #[.int .i64 0, .int .i64 0, .int .i64 0]] 8 (World.laidAll_os _ _ _) (World.shaped_of_ZipB (by kernel_rfl) (by kernel_rfl)) (by kernel_rfl) (by kernel_rfl) (by kernel_rfl)
   (by rw [MakeChecks.laidMetH_plain _ _ _ (by kernel_rfl)]; exact laidMet_laidAll _ (by kernel_rfl) (by kernel_rfl))) ?_
 intro W base args ds gs before hval0 hW _ _ hL _
 have hval : ∀ (j : Nat) t v, Tryz.f11.params[j]? = some t → args[j]? = some v → Value.okWide Tryz.prog W .any base t v := hval0
 have hW' := hW
 obtain ⟨p, q, hA0, hV, rfl, hfz, hnd⟩ := hW
 have hA : DataW.TrodAll enc Tryz.prog W 0 (fun _ => true) true Tryz.f11.params.toList args.toList ds p := hA0
 rw [Tryz.params11] at hA hval
 obtain ⟨v0, v1, v2, d0, d1, d2, p0, p1, p2, rfl, rfl, rfl, h0, h1, h2⟩ := trodAll_three hA
 obtain ⟨rfl, rfl⟩ := trodVars_none hV
 obtain ⟨g, hG⟩ := gOk_of_laid hL
 obtain ⟨⟨c0⟩, rfl, _⟩ := okWide_struct Tryz.underlying36 (hval 0 36 v0 rfl rfl)
 obtain ⟨_, k0⟩ := h0
 obtain ⟨x0, e0, r0⟩ := rd_Game k0
 change c0 = _ at e0
 subst e0
 obtain ⟨⟨c1⟩, rfl, _⟩ := okWide_struct Tryz.underlying68 (hval 1 68 v1 rfl rfl)
 obtain ⟨_, k1⟩ := h1
 obtain ⟨x1, e1, r1⟩ := rd_Pos k1
 change c1 = _ at e1
 subst e1
 obtain ⟨⟨c2⟩, rfl, _⟩ := okWide_struct Tryz.underlying91 (hval 2 91 v2 rfl rfl)
 obtain ⟨_, k2⟩ := h2
 obtain ⟨x2, e2, r2⟩ := rd_Move _ _ _ k2
 change c2 = _ at e2
 subst e2
 refine Calls.mono (PlayPossible_c x0 W r0 g hG x1 r1 x2) ?_
 rintro e W' ⟨rfl, hb⟩
 exact ⟨_, rfl, law_post laidOut (by kernel_rfl) rfl Tryz.underlying4 hW' rfl hb rfl rfl rfl⟩
theorem playPossible_holds : Rows.PlayPossibleSaid :=
 OpenClaim.holds_of_wide 11 Tryz.f11 rfl rfl rfl rfl rfl rfl rfl ⟨rfl, rfl, rfl, rfl, rfl⟩ rfl rfl rfl rfl rfl (by kernel_rfl) Tryz.func11 playPossible_closed
  (of_decide_eq_true (by kernel_rfl)) (by unfold Func.isWrapper; first | (rw [if_pos (by decide +kernel)]; kernel_rfl) | (rw [if_neg (by decide +kernel)]; exact ⟨rfl, rfl⟩))
  (fun os started H enc _ => playPossible_lifted os started H enc)
theorem playPossible_card : Rows.PlayPossibleCardSaid :=
 Claim7.holds_tied_plain_at .later [] [.widerDeep] true (true, "d6f71de39442d2818fcd46bbefcc35924a1ed5ec2ff9ee81d8cb38a58824c922") false playPossible_holds (fun _ h => by cases h) (by kernel_rfl) (fun _ h => by cases h) playPossible_row_tie rfl ⟨rfl, rfl⟩ (by kernel_rfl) rfl
  (fun f fn hf hfn => by
   obtain rfl : f = 11 := Option.some.inj ((show Tryz.prog.funcNamed "padlock/padlocklaw04.PlayPossible" = some 11 by kernel_rfl).symm.trans hf) |>.symm
   obtain rfl : fn = Tryz.f11 := (Option.some.inj (Tryz.func11.symm.trans hfn)).symm
   exact ⟨by kernel_rfl, fun j t ht => by
    rw [Tryz.params11] at ht
    have hm : t ∈ [36, 68, 91] := by simpa using Array.mem_of_getElem? ht
    have hall : ([36, 68, 91].all fun u => !Tryz.prog.wantsStandIn u) = true := by kernel_rfl
    exact (show Tryz.prog.wantsStandIn t = false by simpa using List.all_eq_true.1 hall t hm)⟩)
  (by kernel_rfl)
end Go.Proofs.YtaeagngfhceceaaGreatDoor
