/- The tied card of the law PlayEnough: whatever the input, it returns true and the input reads as it did. Condition: the package variable room.reserved starts as the program's text lays it (tied). -/
import Derived.Test.YtaeagngfhceceaaGreatDoorHa
import Derived.Test.YtaeagngfhceceaaGreatDoorZx
import Derived.Test.YtaeagngfhceceaaGreatDoorZy
import Derived.Test.YtaeagngfhceceaaGreatDoorTie
import Derived.Test.YtaeagngfhceceaaGreatDoorCards
import Derived.Test.YtaeagngfhceceaaGreatDoorY3
import Derived.Test.YtaeagngfhceceaaGreatDoorY6
import Derived.Test.YtaeagngfhceceaaGreatDoorY11
import Derived.Test.YtaeagngfhceceaaGreatDoorY14
import Derived.Test.YtaeagngfhceceaaGreatDoorY16
import Derived.Test.YtaeagngfhceceaaGreatDoorY21
import Derived.Test.YtaeagngfhceceaaGreatDoorY23
import Derived.Test.YtaeagngfhceceaaGreatDoorY24
import Derived.Test.YtaeagngfhceceaaGreatDoorY25
import Derived.Test.YtaeagngfhceceaaGreatDoorY34
set_option maxHeartbeats 8000000
namespace Go.Proofs.YtaeagngfhceceaaGreatDoor
open Go.ChangeShapes Go.WideShapes Go.ChangeAt Go.RowKit Go.Proofs Go.Joins
set_option maxRecDepth 100000
set_option linter.unusedVariables false
set_option linter.unusedSimpArgs false
theorem own : ownKnob Tryz.prog.godebug = none := by kernel_rfl
theorem laidOut : laidOutB Tryz.prog = true := by kernel_rfl
theorem playEnough_k1 : (Rows.playEnoughRow.wf (OpenSpec.ofChange Rows.playEnoughSpec)) = true := by kernel_rfl
theorem playEnough_k4 : (Tryz.f13.params.all (Tryz.prog.readableRec ·)) = true := by kernel_rfl
theorem playEnough_k5 : (namedTie Tryz.prog Rows.playEnoughRow.named Rows.playEnoughSpec.vars) = true := by kernel_rfl
theorem playEnough_k6 : ((Rows.playEnoughRow.stops == [])) = true := by kernel_rfl
theorem playEnough_k8 : ((Rows.playEnoughRow.knobs == [])) = true := by kernel_rfl
theorem playEnough_k10 : ((Rows.playEnoughRow.inPlace == Tryz.prog.inPlace 13)) = true := by kernel_rfl
theorem playEnough_k11 : ((Rows.playEnoughRow.unfollowed == Tryz.prog.unfollowed 13)) = true := by kernel_rfl
theorem playEnough_k12 : ((Rows.playEnoughRow.recurses == Tryz.prog.recurses 13)) = true := by kernel_rfl
theorem playEnough_k13 : ((Rows.playEnoughRow.named == Tryz.prog.varsNamed 13)) = true := by kernel_rfl
theorem playEnough_k14 : ((Rows.playEnoughRow.maps == (Tryz.f13.params.toList ++ Rows.playEnoughSpec.plain.varTypes Tryz.prog).any (Tryz.prog.mapsRec ·))) = true := by kernel_rfl
theorem playEnough_k15 : ((Rows.playEnoughRow.ifaces == (Tryz.f13.params.toList ++ Rows.playEnoughSpec.plain.varTypes Tryz.prog).any (Tryz.prog.ifacesRec ·))) = true := by kernel_rfl
theorem playEnough_k16 : ((Rows.playEnoughRow.mapsOut == Tryz.prog.mapsAmong Tryz.f13.resultTypes.toList)) = true := by kernel_rfl
theorem playEnough_k17 : ((Rows.playEnoughRow.loops == (Tryz.f13.params.toList ++ Rows.playEnoughSpec.plain.varTypes Tryz.prog).any (Tryz.prog.loopsFrom ·))) = true := by kernel_rfl
theorem playEnough_k18 : ((Rows.playEnoughRow.wideKeys == (Tryz.f13.params.toList ++ Rows.playEnoughSpec.plain.varTypes Tryz.prog ++ Tryz.f13.resultTypes.toList).any (Tryz.prog.wideKeysFrom ·))) = true := by kernel_rfl
theorem playEnough_k19 : (Rows.playEnoughSpec.vars.all (Tryz.prog.varReadable ·)) = true := by kernel_rfl
theorem playEnough_k20 : (Tryz.f13.resultTypes.all (fun t => Tryz.prog.readableRec t && decide (t < Tryz.prog.types.size))) = true := by kernel_rfl
theorem playEnough_k21 : ((Rows.playEnoughRow.ifacesOut == Tryz.f13.resultTypes.toList.any (Tryz.prog.ifacesRec ·))) = true := by kernel_rfl
theorem playEnough_k22 : ((Rows.playEnoughRow.loopsOut == Tryz.f13.resultTypes.toList.any (Tryz.prog.loopsFrom ·))) = true := by kernel_rfl
theorem playEnough_k24 : (Rows.playEnoughRow.shortTexts.isNone) = true := by kernel_rfl
theorem playEnough_k29 : ((Rows.playEnoughRow.kinds == (if Rows.playEnoughRow.domain.isEmpty then [] else Tryz.f13.params.toList.map fun t => match Tryz.prog.underlying t with | some (.int k) => some k | _ => none))) = true := by kernel_rfl
theorem playEnough_k30 : ((Rows.playEnoughRow.pinned == Rows.playEnoughRow.pinnedBy)) = true := by kernel_rfl
theorem playEnough_k31 : ((Rows.playEnoughRow.veiled == (Tryz.f13.params.toList ++ Rows.playEnoughSpec.plain.varTypes Tryz.prog ++ Tryz.f13.resultTypes.toList).any (Tryz.prog.veiledRec ·))) = true := by kernel_rfl
theorem playEnough_k32 : (Rows.playEnoughRow.veiledFits Tryz.prog Tryz.f13.params.toList (Tryz.f13.params.toList ++ Rows.playEnoughSpec.plain.varTypes Tryz.prog ++ Tryz.f13.resultTypes.toList)) = true := by kernel_rfl
theorem playEnough_closed : joinedFacts Tryz.prog 13 Tryz.f13 Rows.playEnoughSpec Rows.playEnoughRow = true := (bd_ (bd_ (bd_ (bd_ (bd_ (bd_ (bd_ (bd_ (bd_ (bd_ (bd_ (bd_ (bd_ (bd_ (bd_ (bd_ (bd_ (bd_ (bd_ (bd_ (bd_ (bd_ (bd_ (bd_ (bd_ (bd_ (bd_ (bd_ (bd_ (bd_ (bd_ playEnough_k1 seat_k2) seat_k3) playEnough_k4) playEnough_k5) playEnough_k6) seat_k7) playEnough_k8) seat_k9) playEnough_k10) playEnough_k11) playEnough_k12) playEnough_k13) playEnough_k14) playEnough_k15) playEnough_k16) playEnough_k17) playEnough_k18) playEnough_k19) playEnough_k20) playEnough_k21) playEnough_k22) seat_k23) playEnough_k24) seat_k25) seat_k26) seat_k27) seat_k28) playEnough_k29) playEnough_k30) playEnough_k31) playEnough_k32)
set_option maxHeartbeats 2000000 in
theorem playEnough_lifted (os : Os) (started : os.Started) (H : Type) (enc : TypeId × Value → H) :
  ReturnsInHanded {} Tryz.checked os 13 .any (fun w args => (Rows.playEnoughSpec.pre enc Tryz.prog Tryz.f13 Rows.playEnoughRow.domain Rows.playEnoughRow.apart w args ∧ laidMetH Tryz.prog [("padlock/room.reserved", Rows.laid_padlock_room_reserved)] w) ∧ sizedMet enc Tryz.prog Tryz.f13 (OpenSpec.ofChange Rows.playEnoughSpec) Rows.playEnoughRow.apart w args)
   (Rows.playEnoughSpec.post enc Tryz.prog Tryz.f13 Rows.playEnoughRow.apart Rows.playEnoughRow.fresh Rows.playEnoughRow.handsOn Rows.playEnoughRow.again) := by
 refine returnsInHanded_of_change_and (C := Tryz.checked) (X := fun w _ => laidMetH Tryz.prog [("padlock/room.reserved", Rows.laid_padlock_room_reserved)] w) (fun _ _ _ hh h => h.of_heap hh) own started (by kernel_rfl) Tryz.func13
  (ChangeSpec.witness_shaped (enc := enc) (C := Tryz.checked) (X := fun w _ => laidMetH Tryz.prog [("padlock/room.reserved", Rows.laid_padlock_room_reserved)] w) false (World.laidAll Tryz.prog os [("padlock/room.reserved", Rows.laid_padlock_room_reserved)]) #[.agg #[.slice none 0 0, .slice none 0 0, .slice none 0 0, .slice none 0 0, .slice none 0 0, .slice none 0 0, .int .i64 0, .slice none 0 0, .slice none 0 0, .slice none 0 0, .slice none 0 0, .int .i64 0], .int .i64 0] 8 (World.laidAll_os _ _ _) (World.shaped_of_ZipB (by kernel_rfl) (by kernel_rfl)) (by kernel_rfl) (by kernel_rfl) (by kernel_rfl)
   (by rw [MakeChecks.laidMetH_plain _ _ _ (by kernel_rfl)]; exact laidMet_laidAll _ (by kernel_rfl) (by kernel_rfl))) ?_
 intro W base args ds gs before hval0 hW _ _ hL _
 have hval : ∀ (j : Nat) t v, Tryz.f13.params[j]? = some t → args[j]? = some v → Value.okWide Tryz.prog W .any base t v := hval0
 have hW' := hW
 obtain ⟨p, q, hA0, hV, rfl, hfz, hnd⟩ := hW
 have hA : DataW.TrodAll enc Tryz.prog W 0 (fun _ => true) true Tryz.f13.params.toList args.toList ds p := hA0
 rw [Tryz.params13] at hA hval
 obtain ⟨v0, v1, d0, d1, p0, p1, rfl, rfl, rfl, h0, h1⟩ := trodAll_two hA
 obtain ⟨rfl, rfl⟩ := trodVars_none hV
 obtain ⟨g, hG⟩ := gOk_of_laid hL
 obtain ⟨⟨c0⟩, rfl, _⟩ := okWide_struct Tryz.underlying36 (hval 0 36 v0 rfl rfl)
 obtain ⟨_, k0⟩ := h0
 obtain ⟨x0, e0, r0⟩ := rd_Game k0
 change c0 = _ at e0
 subst e0
 obtain ⟨x1, rfl⟩ := okWide_int Tryz.underlying3 (hval 1 3 v1 rfl rfl)
 refine Calls.mono (PlayEnough_c x0 W r0 g hG x1) ?_
 rintro e W' ⟨rfl, hb⟩
 exact ⟨_, rfl, law_post laidOut (by kernel_rfl) rfl Tryz.underlying4 hW' rfl hb rfl rfl rfl⟩
theorem playEnough_holds : Rows.PlayEnoughSaid :=
 OpenClaim.holds_of_wide 13 Tryz.f13 rfl rfl rfl rfl rfl rfl rfl ⟨rfl, rfl, rfl, rfl, rfl⟩ rfl rfl rfl rfl rfl (by kernel_rfl) Tryz.func13 playEnough_closed
  (of_decide_eq_true (by kernel_rfl)) (by unfold Func.isWrapper; first | (rw [if_pos (by decide +kernel)]; kernel_rfl) | (rw [if_neg (by decide +kernel)]; exact ⟨rfl, rfl⟩))
  (fun os started H enc _ => playEnough_lifted os started H enc)
theorem playEnough_card : Rows.PlayEnoughCardSaid :=
 Claim7.holds_tied_plain_at .later [] [.widerDeep] true (true, "d6f71de39442d2818fcd46bbefcc35924a1ed5ec2ff9ee81d8cb38a58824c922") false playEnough_holds (fun _ h => by cases h) (by kernel_rfl) (fun _ h => by cases h) playEnough_row_tie rfl ⟨rfl, rfl⟩ (by kernel_rfl) rfl
  (fun f fn hf hfn => by
   obtain rfl : f = 13 := Option.some.inj ((show Tryz.prog.funcNamed "padlock/padlocklaw04.PlayEnough" = some 13 by kernel_rfl).symm.trans hf) |>.symm
   obtain rfl : fn = Tryz.f13 := (Option.some.inj (Tryz.func13.symm.trans hfn)).symm
   exact ⟨by kernel_rfl, fun j t ht => by
    rw [Tryz.params13] at ht
    have hm : t ∈ [36, 3] := by simpa using Array.mem_of_getElem? ht
    have hall : ([36, 3].all fun u => !Tryz.prog.wantsStandIn u) = true := by kernel_rfl
    exact (show Tryz.prog.wantsStandIn t = false by simpa using List.all_eq_true.1 hall t hm)⟩)
  (by kernel_rfl)
end Go.Proofs.YtaeagngfhceceaaGreatDoor
