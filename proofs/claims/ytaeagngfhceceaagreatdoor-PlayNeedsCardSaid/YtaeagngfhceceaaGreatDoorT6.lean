/- The tied card of the law PlayNeeds: whatever the input, it returns true and the input reads as it did. Condition: the package variable room.reserved starts as the program's text lays it (tied). -/
import Derived.Test.YtaeagngfhceceaaGreatDoorH6
import Derived.Test.YtaeagngfhceceaaGreatDoorZx
import Derived.Test.YtaeagngfhceceaaGreatDoorZy
import Derived.Test.YtaeagngfhceceaaGreatDoorTie
import Derived.Test.YtaeagngfhceceaaGreatDoorCards
import Derived.Test.YtaeagngfhceceaaGreatDoorY2
import Derived.Test.YtaeagngfhceceaaGreatDoorY6
import Derived.Test.YtaeagngfhceceaaGreatDoorY9
import Derived.Test.YtaeagngfhceceaaGreatDoorY14
import Derived.Test.YtaeagngfhceceaaGreatDoorY16
import Derived.Test.YtaeagngfhceceaaGreatDoorY22
import Derived.Test.YtaeagngfhceceaaGreatDoorY24
import Derived.Test.YtaeagngfhceceaaGreatDoorY36
set_option maxHeartbeats 8000000
namespace Go.Proofs.YtaeagngfhceceaaGreatDoor
open Go.ChangeShapes Go.WideShapes Go.ChangeAt Go.RowKit Go.Proofs Go.Joins
set_option maxRecDepth 100000
set_option linter.unusedVariables false
set_option linter.unusedSimpArgs false
theorem own : ownKnob Tryz.prog.godebug = none := by kernel_rfl
theorem laidOut : laidOutB Tryz.prog = true := by kernel_rfl
theorem playNeeds_k1 : (Rows.playNeedsRow.wf (OpenSpec.ofChange Rows.playNeedsSpec)) = true := by kernel_rfl
theorem playNeeds_k4 : (Tryz.f12.params.all (Tryz.prog.readableRec ·)) = true := by kernel_rfl
theorem playNeeds_k5 : (namedTie Tryz.prog Rows.playNeedsRow.named Rows.playNeedsSpec.vars) = true := by kernel_rfl
theorem playNeeds_k6 : ((Rows.playNeedsRow.stops == [])) = true := by kernel_rfl
theorem playNeeds_k8 : ((Rows.playNeedsRow.knobs == [])) = true := by kernel_rfl
theorem playNeeds_k10 : ((Rows.playNeedsRow.inPlace == Tryz.prog.inPlace 12)) = true := by kernel_rfl
theorem playNeeds_k11 : ((Rows.playNeedsRow.unfollowed == Tryz.prog.unfollowed 12)) = true := by kernel_rfl
theorem playNeeds_k12 : ((Rows.playNeedsRow.recurses == Tryz.prog.recurses 12)) = true := by kernel_rfl
theorem playNeeds_k13 : ((Rows.playNeedsRow.named == Tryz.prog.varsNamed 12)) = true := by kernel_rfl
theorem playNeeds_k14 : ((Rows.playNeedsRow.maps == (Tryz.f12.params.toList ++ Rows.playNeedsSpec.plain.varTypes Tryz.prog).any (Tryz.prog.mapsRec ·))) = true := by kernel_rfl
theorem playNeeds_k15 : ((Rows.playNeedsRow.ifaces == (Tryz.f12.params.toList ++ Rows.playNeedsSpec.plain.varTypes Tryz.prog).any (Tryz.prog.ifacesRec ·))) = true := by kernel_rfl
theorem playNeeds_k16 : ((Rows.playNeedsRow.mapsOut == Tryz.prog.mapsAmong Tryz.f12.resultTypes.toList)) = true := by kernel_rfl
theorem playNeeds_k17 : ((Rows.playNeedsRow.loops == (Tryz.f12.params.toList ++ Rows.playNeedsSpec.plain.varTypes Tryz.prog).any (Tryz.prog.loopsFrom ·))) = true := by kernel_rfl
theorem playNeeds_k18 : ((Rows.playNeedsRow.wideKeys == (Tryz.f12.params.toList ++ Rows.playNeedsSpec.plain.varTypes Tryz.prog ++ Tryz.f12.resultTypes.toList).any (Tryz.prog.wideKeysFrom ·))) = true := by kernel_rfl
theorem playNeeds_k19 : (Rows.playNeedsSpec.vars.all (Tryz.prog.varReadable ·)) = true := by kernel_rfl
theorem playNeeds_k20 : (Tryz.f12.resultTypes.all (fun t => Tryz.prog.readableRec t && decide (t < Tryz.prog.types.size))) = true := by kernel_rfl
theorem playNeeds_k21 : ((Rows.playNeedsRow.ifacesOut == Tryz.f12.resultTypes.toList.any (Tryz.prog.ifacesRec ·))) = true := by kernel_rfl
theorem playNeeds_k22 : ((Rows.playNeedsRow.loopsOut == Tryz.f12.resultTypes.toList.any (Tryz.prog.loopsFrom ·))) = true := by kernel_rfl
theorem playNeeds_k24 : (Rows.playNeedsRow.shortTexts.isNone) = true := by kernel_rfl
theorem playNeeds_k29 : ((Rows.playNeedsRow.kinds == (if Rows.playNeedsRow.domain.isEmpty then [] else Tryz.f12.params.toList.map fun t => match Tryz.prog.underlying t with | some (.int k) => some k | _ => none))) = true := by kernel_rfl
theorem playNeeds_k30 : ((Rows.playNeedsRow.pinned == Rows.playNeedsRow.pinnedBy)) = true := by kernel_rfl
theorem playNeeds_k31 : ((Rows.playNeedsRow.veiled == (Tryz.f12.params.toList ++ Rows.playNeedsSpec.plain.varTypes Tryz.prog ++ Tryz.f12.resultTypes.toList).any (Tryz.prog.veiledRec ·))) = true := by kernel_rfl
theorem playNeeds_k32 : (Rows.playNeedsRow.veiledFits Tryz.prog Tryz.f12.params.toList (Tryz.f12.params.toList ++ Rows.playNeedsSpec.plain.varTypes Tryz.prog ++ Tryz.f12.resultTypes.toList)) = true := by kernel_rfl
theorem playNeeds_closed : joinedFacts Tryz.prog 12 Tryz.f12 Rows.playNeedsSpec Rows.playNeedsRow = true := (bd_ (bd_ (bd_ (bd_ (bd_ (bd_ (bd_ (bd_ (bd_ (bd_ (bd_ (bd_ (bd_ (bd_ (bd_ (bd_ (bd_ (bd_ (bd_ (bd_ (bd_ (bd_ (bd_ (bd_ (bd_ (bd_ (bd_ (bd_ (bd_ (bd_ (bd_ playNeeds_k1 seat_k2) seat_k3) playNeeds_k4) playNeeds_k5) playNeeds_k6) seat_k7) playNeeds_k8) seat_k9) playNeeds_k10) playNeeds_k11) playNeeds_k12) playNeeds_k13) playNeeds_k14) playNeeds_k15) playNeeds_k16) playNeeds_k17) playNeeds_k18) playNeeds_k19) playNeeds_k20) playNeeds_k21) playNeeds_k22) seat_k23) playNeeds_k24) seat_k25) seat_k26) seat_k27) seat_k28) playNeeds_k29) playNeeds_k30) playNeeds_k31) playNeeds_k32)
set_option maxHeartbeats 2000000 in
theorem playNeeds_lifted (os : Os) (started : os.Started) (H : Type) (enc : TypeId × Value → H) :
  ReturnsInHanded {} Tryz.checked os 12 .any (fun w args => (Rows.playNeedsSpec.pre enc Tryz.prog Tryz.f12 Rows.playNeedsRow.domain Rows.playNeedsRow.apart w args ∧ laidMetH Tryz.prog [("padlock/room.reserved", Rows.laid_padlock_room_reserved)] w) ∧ sizedMet enc Tryz.prog Tryz.f12 (OpenSpec.ofChange Rows.playNeedsSpec) Rows.playNeedsRow.apart w args)
   (Rows.playNeedsSpec.post enc Tryz.prog Tryz.f12 Rows.playNeedsRow.apart Rows.playNeedsRow.fresh Rows.playNeedsRow.handsOn Rows.playNeedsRow.again) := by
 refine returnsInHanded_of_change_and (C := Tryz.checked) (X := fun w _ => laidMetH Tryz.prog [("padlock/room.reserved", Rows.laid_padlock_room_reserved)] w) (fun _ _ _ hh h => h.of_heap hh) own started (by kernel_rfl) Tryz.func12
  (ChangeSpec.witness_shaped (enc := enc) (C := Tryz.checked) (X := fun w _ => laidMetH Tryz.prog [("padlock/room.reserved", Rows.laid_padlock_room_reserved)] w) false (World.laidAll Tryz.prog os [("padlock/room.reserved", Rows.laid_padlock_room_reserved)]) #[.agg #[.slice none 0 0, .slice none 0 0, .slice none 0 0, .slice none 0 0, .slice none 0 0, .slice none 0 0, .int .i64 0, .slice none 0 0, .slice none 0 0, .slice none 0 0, .slice none 0 0, .int .i64 0], .int .i64 0] 8 (World.laidAll_os _ _ _) (World.shaped_of_ZipB (by kernel_rfl) (by kernel_rfl)) (by kernel_rfl) (by kernel_rfl) (by kernel_rfl)
   (by rw [MakeChecks.laidMetH_plain _ _ _ (by kernel_rfl)]; exact laidMet_laidAll _ (by kernel_rfl) (by kernel_rfl))) ?_
 intro W base args ds gs before hval0 hW _ _ hL _
 have hval : ∀ (j : Nat) t v, Tryz.f12.params[j]? = some t → args[j]? = some v → Value.okWide Tryz.prog W .any base t v := hval0
 have hW' := hW
 obtain ⟨p, q, hA0, hV, rfl, hfz, hnd⟩ := hW
 have hA : DataW.TrodAll enc Tryz.prog W 0 (fun _ => true) true Tryz.f12.params.toList args.toList ds p := hA0
 rw [Tryz.params12] at hA hval
 obtain ⟨v0, v1, d0, d1, p0, p1, rfl, rfl, rfl, h0, h1⟩ := trodAll_two hA
 obtain ⟨rfl, rfl⟩ := trodVars_none hV
 obtain ⟨g, hG⟩ := gOk_of_laid hL
 obtain ⟨⟨c0⟩, rfl, _⟩ := okWide_struct Tryz.underlying36 (hval 0 36 v0 rfl rfl)
 obtain ⟨_, k0⟩ := h0
 obtain ⟨x0, e0, r0⟩ := rd_Game k0
 change c0 = _ at e0
 subst e0
 obtain ⟨x1, rfl⟩ := okWide_int Tryz.underlying3 (hval 1 3 v1 rfl rfl)
 refine Calls.mono (PlayNeeds_c x0 W r0 g hG x1) ?_
 rintro e W' ⟨rfl, hb⟩
 exact ⟨_, rfl, law_post laidOut (by kernel_rfl) rfl Tryz.underlying4 hW' rfl hb rfl rfl rfl⟩
theorem playNeeds_holds : Rows.PlayNeedsSaid :=
 OpenClaim.holds_of_wide 12 Tryz.f12 rfl rfl rfl rfl rfl rfl rfl ⟨rfl, rfl, rfl, rfl, rfl⟩ rfl rfl rfl rfl rfl (by kernel_rfl) Tryz.func12 playNeeds_closed
  (of_decide_eq_true (by kernel_rfl)) (by unfold Func.isWrapper; first | (rw [if_pos (by decide +kernel)]; kernel_rfl) | (rw [if_neg (by decide +kernel)]; exact ⟨rfl, rfl⟩))
  (fun os started H enc _ => playNeeds_lifted os started H enc)
theorem playNeeds_card : Rows.PlayNeedsCardSaid :=
 Claim7.holds_tied_plain_at .later [] [.widerDeep] true (true, "d6f71de39442d2818fcd46bbefcc35924a1ed5ec2ff9ee81d8cb38a58824c922") false playNeeds_holds (fun _ h => by cases h) (by kernel_rfl) (fun _ h => by cases h) playNeeds_row_tie rfl ⟨rfl, rfl⟩ (by kernel_rfl) rfl
  (fun f fn hf hfn => by
   obtain rfl : f = 12 := Option.some.inj ((show Tryz.prog.funcNamed "padlock/padlocklaw04.PlayNeeds" = some 12 by kernel_rfl).symm.trans hf) |>.symm
   obtain rfl : fn = Tryz.f12 := (Option.some.inj (Tryz.func12.symm.trans hfn)).symm
   exact ⟨by kernel_rfl, fun j t ht => by
    rw [Tryz.params12] at ht
    have hm : t ∈ [36, 3] := by simpa using Array.mem_of_getElem? ht
    have hall : ([36, 3].all fun u => !Tryz.prog.wantsStandIn u) = true := by kernel_rfl
    exact (show Tryz.prog.wantsStandIn t = false by simpa using List.all_eq_true.1 hall t hm)⟩)
  (by kernel_rfl)
end Go.Proofs.YtaeagngfhceceaaGreatDoor
