/- The tied card of the law PlayChecks: whatever the input, it returns true and the input reads as it did. Condition: the package variable room.reserved starts as the program's text lays it (tied). -/
import Derived.Test.YtaeagngfhceceaaGreatDoorH7
import Derived.Test.YtaeagngfhceceaaGreatDoorZx
import Derived.Test.YtaeagngfhceceaaGreatDoorZy
import Derived.Test.YtaeagngfhceceaaGreatDoorTie
import Derived.Test.YtaeagngfhceceaaGreatDoorCards
import Derived.Test.YtaeagngfhceceaaGreatDoorY2
import Derived.Test.YtaeagngfhceceaaGreatDoorY3
import Derived.Test.YtaeagngfhceceaaGreatDoorY4
import Derived.Test.YtaeagngfhceceaaGreatDoorY6
import Derived.Test.YtaeagngfhceceaaGreatDoorY9
import Derived.Test.YtaeagngfhceceaaGreatDoorY10
import Derived.Test.YtaeagngfhceceaaGreatDoorY14
import Derived.Test.YtaeagngfhceceaaGreatDoorY15
import Derived.Test.YtaeagngfhceceaaGreatDoorY20
import Derived.Test.YtaeagngfhceceaaGreatDoorY21
import Derived.Test.YtaeagngfhceceaaGreatDoorY22
import Derived.Test.YtaeagngfhceceaaGreatDoorY32
set_option maxHeartbeats 8000000
namespace Go.Proofs.YtaeagngfhceceaaGreatDoor
open Go.ChangeShapes Go.WideShapes Go.ChangeAt Go.RowKit Go.Proofs Go.Joins
set_option maxRecDepth 100000
set_option linter.unusedVariables false
set_option linter.unusedSimpArgs false
theorem own : ownKnob Tryz.prog.godebug = none := by kernel_rfl
theorem laidOut : laidOutB Tryz.prog = true := by kernel_rfl
theorem playChecks_k1 : (Rows.playChecksRow.wf (OpenSpec.ofChange Rows.playChecksSpec)) = true := by kernel_rfl
theorem playChecks_k4 : (Tryz.f8.params.all (Tryz.prog.readableRec ·)) = true := by kernel_rfl
theorem playChecks_k5 : (namedTie Tryz.prog Rows.playChecksRow.named Rows.playChecksSpec.vars) = true := by kernel_rfl
theorem playChecks_k6 : ((Rows.playChecksRow.stops == [])) = true := by kernel_rfl
theorem playChecks_k8 : ((Rows.playChecksRow.knobs == [])) = true := by kernel_rfl
theorem playChecks_k10 : ((Rows.playChecksRow.inPlace == Tryz.prog.inPlace 8)) = true := by kernel_rfl
theorem playChecks_k11 : ((Rows.playChecksRow.unfollowed == Tryz.prog.unfollowed 8)) = true := by kernel_rfl
theorem playChecks_k12 : ((Rows.playChecksRow.recurses == Tryz.prog.recurses 8)) = true := by kernel_rfl
theorem playChecks_k13 : ((Rows.playChecksRow.named == Tryz.prog.varsNamed 8)) = true := by kernel_rfl
theorem playChecks_k14 : ((Rows.playChecksRow.maps == (Tryz.f8.params.toList ++ Rows.playChecksSpec.plain.varTypes Tryz.prog).any (Tryz.prog.mapsRec ·))) = true := by kernel_rfl
theorem playChecks_k15 : ((Rows.playChecksRow.ifaces == (Tryz.f8.params.toList ++ Rows.playChecksSpec.plain.varTypes Tryz.prog).any (Tryz.prog.ifacesRec ·))) = true := by kernel_rfl
theorem playChecks_k16 : ((Rows.playChecksRow.mapsOut == Tryz.prog.mapsAmong Tryz.f8.resultTypes.toList)) = true := by kernel_rfl
theorem playChecks_k17 : ((Rows.playChecksRow.loops == (Tryz.f8.params.toList ++ Rows.playChecksSpec.plain.varTypes Tryz.prog).any (Tryz.prog.loopsFrom ·))) = true := by kernel_rfl
theorem playChecks_k18 : ((Rows.playChecksRow.wideKeys == (Tryz.f8.params.toList ++ Rows.playChecksSpec.plain.varTypes Tryz.prog ++ Tryz.f8.resultTypes.toList).any (Tryz.prog.wideKeysFrom ·))) = true := by kernel_rfl
theorem playChecks_k19 : (Rows.playChecksSpec.vars.all (Tryz.prog.varReadable ·)) = true := by kernel_rfl
theorem playChecks_k20 : (Tryz.f8.resultTypes.all (fun t => Tryz.prog.readableRec t && decide (t < Tryz.prog.types.size))) = true := by kernel_rfl
theorem playChecks_k21 : ((Rows.playChecksRow.ifacesOut == Tryz.f8.resultTypes.toList.any (Tryz.prog.ifacesRec ·))) = true := by kernel_rfl
theorem playChecks_k22 : ((Rows.playChecksRow.loopsOut == Tryz.f8.resultTypes.toList.any (Tryz.prog.loopsFrom ·))) = true := by kernel_rfl
theorem playChecks_k24 : (Rows.playChecksRow.shortTexts.isNone) = true := by kernel_rfl
theorem playChecks_k29 : ((Rows.playChecksRow.kinds == (if Rows.playChecksRow.domain.isEmpty then [] else Tryz.f8.params.toList.map fun t => match Tryz.prog.underlying t with | some (.int k) => some k | _ => none))) = true := by kernel_rfl
theorem playChecks_k30 : ((Rows.playChecksRow.pinned == Rows.playChecksRow.pinnedBy)) = true := by kernel_rfl
theorem playChecks_k31 : ((Rows.playChecksRow.veiled == (Tryz.f8.params.toList ++ Rows.playChecksSpec.plain.varTypes Tryz.prog ++ Tryz.f8.resultTypes.toList).any (Tryz.prog.veiledRec ·))) = true := by kernel_rfl
theorem playChecks_k32 : (Rows.playChecksRow.veiledFits Tryz.prog Tryz.f8.params.toList (Tryz.f8.params.toList ++ Rows.playChecksSpec.plain.varTypes Tryz.prog ++ Tryz.f8.resultTypes.toList)) = true := by kernel_rfl
theorem playChecks_closed : joinedFacts Tryz.prog 8 Tryz.f8 Rows.playChecksSpec Rows.playChecksRow = true := (bd_ (bd_ (bd_ (bd_ (bd_ (bd_ (bd_ (bd_ (bd_ (bd_ (bd_ (bd_ (bd_ (bd_ (bd_ (bd_ (bd_ (bd_ (bd_ (bd_ (bd_ (bd_ (bd_ (bd_ (bd_ (bd_ (bd_ (bd_ (bd_ (bd_ (bd_ playChecks_k1 seat_k2) seat_k3) playChecks_k4) playChecks_k5) playChecks_k6) seat_k7) playChecks_k8) seat_k9) playChecks_k10) playChecks_k11) playChecks_k12) playChecks_k13) playChecks_k14) playChecks_k15) playChecks_k16) playChecks_k17) playChecks_k18) playChecks_k19) playChecks_k20) playChecks_k21) playChecks_k22) seat_k23) playChecks_k24) seat_k25) seat_k26) seat_k27) seat_k28) playChecks_k29) playChecks_k30) playChecks_k31) playChecks_k32)
set_option maxHeartbeats 2000000 in
theorem playChecks_lifted (os : Os) (started : os.Started) (H : Type) (enc : TypeId × Value → H) :
  ReturnsInHanded {} Tryz.checked os 8 .any (fun w args => (Rows.playChecksSpec.pre enc Tryz.prog Tryz.f8 Rows.playChecksRow.domain Rows.playChecksRow.apart w args ∧ laidMetH Tryz.prog [("padlock/room.reserved", Rows.laid_padlock_room_reserved)] w) ∧ sizedMet enc Tryz.prog Tryz.f8 (OpenSpec.ofChange Rows.playChecksSpec) Rows.playChecksRow.apart w args)
   (Rows.playChecksSpec.post enc Tryz.prog Tryz.f8 Rows.playChecksRow.apart Rows.playChecksRow.fresh Rows.playChecksRow.handsOn Rows.playChecksRow.again) := by
 refine returnsInHanded_of_change_and (C := Tryz.checked) (X := fun w _ => laidMetH Tryz.prog [("padlock/room.reserved", Rows.laid_padlock_room_reserved)] w) (fun _ _ _ hh h => h.of_heap hh) own started (by kernel_rfl) Tryz.func8
  (ChangeSpec.witness_shaped (enc := enc) (C := Tryz.checked) (X := fun w _ => laidMetH Tryz.prog [("padlock/room.reserved", Rows.laid_padlock_room_reserved)] w) false (World.laidAll Tryz.prog os [("padlock/room.reserved", Rows.laid_padlock_room_reserved)]) #[.agg #[.slice none 0 0, .slice none 0 0, .slice none 0 0, .slice none 0 0, .slice none 0 0, .slice none 0 0, .int .i64 0, .slice none 0 0, .slice none 0 0, .slice none 0 0, .slice none 0 0, .int .i64 0]] 8 (World.laidAll_os _ _ _) (World.shaped_of_ZipB (by kernel_rfl) (by kernel_rfl)) (by kernel_rfl) (by kernel_rfl) (by kernel_rfl)
   (by rw [MakeChecks.laidMetH_plain _ _ _ (by kernel_rfl)]; exact laidMet_laidAll _ (by kernel_rfl) (by kernel_rfl))) ?_
 intro W base args ds gs before hval0 hW _ _ hL _
 have hval : ∀ (j : Nat) t v, Tryz.f8.params[j]? = some t → args[j]? = some v → Value.okWide Tryz.prog W .any base t v := hval0
 have hW' := hW
 obtain ⟨p, q, hA0, hV, rfl, hfz, hnd⟩ := hW
 have hA : DataW.TrodAll enc Tryz.prog W 0 (fun _ => true) true Tryz.f8.params.toList args.toList ds p := hA0
 rw [Tryz.params8] at hA hval
 obtain ⟨v0, d0, rfl, rfl, h0⟩ := trodAll_one hA
 obtain ⟨rfl, rfl⟩ := trodVars_none hV
 obtain ⟨g, hG⟩ := gOk_of_laid hL
 obtain ⟨⟨c0⟩, rfl, _⟩ := okWide_struct Tryz.underlying36 (hval 0 36 v0 rfl rfl)
 obtain ⟨_, k0⟩ := h0
 obtain ⟨x0, e0, r0⟩ := rd_Game k0
 change c0 = _ at e0
 subst e0
 refine Calls.mono (PlayChecks_c x0 W r0 g hG) ?_
 rintro e W' ⟨rfl, hb⟩
 exact ⟨_, rfl, law_post laidOut (by kernel_rfl) rfl Tryz.underlying4 hW' rfl hb rfl rfl rfl⟩
theorem playChecks_holds : Rows.PlayChecksSaid :=
 OpenClaim.holds_of_wide 8 Tryz.f8 rfl rfl rfl rfl rfl rfl rfl ⟨rfl, rfl, rfl, rfl, rfl⟩ rfl rfl rfl rfl rfl (by kernel_rfl) Tryz.func8 playChecks_closed
  (of_decide_eq_true (by kernel_rfl)) (by unfold Func.isWrapper; first | (rw [if_pos (by decide +kernel)]; kernel_rfl) | (rw [if_neg (by decide +kernel)]; exact ⟨rfl, rfl⟩))
  (fun os started H enc _ => playChecks_lifted os started H enc)
theorem playChecks_card : Rows.PlayChecksCardSaid :=
 Claim7.holds_tied_plain_at .later [] [.widerDeep] true (true, "d6f71de39442d2818fcd46bbefcc35924a1ed5ec2ff9ee81d8cb38a58824c922") false playChecks_holds (fun _ h => by cases h) (by kernel_rfl) (fun _ h => by cases h) playChecks_row_tie rfl ⟨rfl, rfl⟩ (by kernel_rfl) rfl
  (fun f fn hf hfn => by
   obtain rfl : f = 8 := Option.some.inj ((show Tryz.prog.funcNamed "padlock/padlocklaw04.PlayChecks" = some 8 by kernel_rfl).symm.trans hf) |>.symm
   obtain rfl : fn = Tryz.f8 := (Option.some.inj (Tryz.func8.symm.trans hfn)).symm
   exact ⟨by kernel_rfl, fun j t ht => by
    rw [Tryz.params8] at ht
    have hm : t ∈ [36] := by simpa using Array.mem_of_getElem? ht
    have hall : ([36].all fun u => !Tryz.prog.wantsStandIn u) = true := by kernel_rfl
    exact (show Tryz.prog.wantsStandIn t = false by simpa using List.all_eq_true.1 hall t hm)⟩)
  (by kernel_rfl)
end Go.Proofs.YtaeagngfhceceaaGreatDoor
