/- The tied card of the law PlayKnows: whatever the input, it returns true and the input reads as it did. Condition: the package variable room.reserved starts as the program's text lays it (tied). -/
import Derived.Test.YtaeagngfhceceaaGreatDoorH8
import Derived.Test.YtaeagngfhceceaaGreatDoorZx
import Derived.Test.YtaeagngfhceceaaGreatDoorZy
import Derived.Test.YtaeagngfhceceaaGreatDoorTie
import Derived.Test.YtaeagngfhceceaaGreatDoorCards
import Derived.Test.YtaeagngfhceceaaGreatDoorY0
import Derived.Test.YtaeagngfhceceaaGreatDoorY11
import Derived.Test.YtaeagngfhceceaaGreatDoorY12
import Derived.Test.YtaeagngfhceceaaGreatDoorY16
import Derived.Test.YtaeagngfhceceaaGreatDoorY17
import Derived.Test.YtaeagngfhceceaaGreatDoorY18
import Derived.Test.YtaeagngfhceceaaGreatDoorY23
import Derived.Test.YtaeagngfhceceaaGreatDoorY26
import Derived.Test.YtaeagngfhceceaaGreatDoorY27
import Derived.Test.YtaeagngfhceceaaGreatDoorY28
import Derived.Test.YtaeagngfhceceaaGreatDoorY35
set_option maxHeartbeats 8000000
namespace Go.Proofs.YtaeagngfhceceaaGreatDoor
open Go.ChangeShapes Go.WideShapes Go.ChangeAt Go.RowKit Go.Proofs Go.Joins
set_option maxRecDepth 100000
set_option linter.unusedVariables false
set_option linter.unusedSimpArgs false
theorem own : ownKnob Tryz.prog.godebug = none := by kernel_rfl
theorem laidOut : laidOutB Tryz.prog = true := by kernel_rfl
theorem playKnows_k1 : (Rows.playKnowsRow.wf (OpenSpec.ofChange Rows.playKnowsSpec)) = true := by kernel_rfl
theorem playKnows_k4 : (Tryz.f9.params.all (Tryz.prog.readableRec ·)) = true := by kernel_rfl
theorem playKnows_k5 : (namedTie Tryz.prog Rows.playKnowsRow.named Rows.playKnowsSpec.vars) = true := by kernel_rfl
theorem playKnows_k6 : ((Rows.playKnowsRow.stops == [])) = true := by kernel_rfl
theorem playKnows_k8 : ((Rows.playKnowsRow.knobs == [])) = true := by kernel_rfl
theorem playKnows_k10 : ((Rows.playKnowsRow.inPlace == Tryz.prog.inPlace 9)) = true := by kernel_rfl
theorem playKnows_k11 : ((Rows.playKnowsRow.unfollowed == Tryz.prog.unfollowed 9)) = true := by kernel_rfl
theorem playKnows_k12 : ((Rows.playKnowsRow.recurses == Tryz.prog.recurses 9)) = true := by kernel_rfl
theorem playKnows_k13 : ((Rows.playKnowsRow.named == Tryz.prog.varsNamed 9)) = true := by kernel_rfl
theorem playKnows_k14 : ((Rows.playKnowsRow.maps == (Tryz.f9.params.toList ++ Rows.playKnowsSpec.plain.varTypes Tryz.prog).any (Tryz.prog.mapsRec ·))) = true := by kernel_rfl
theorem playKnows_k15 : ((Rows.playKnowsRow.ifaces == (Tryz.f9.params.toList ++ Rows.playKnowsSpec.plain.varTypes Tryz.prog).any (Tryz.prog.ifacesRec ·))) = true := by kernel_rfl
theorem playKnows_k16 : ((Rows.playKnowsRow.mapsOut == Tryz.prog.mapsAmong Tryz.f9.resultTypes.toList)) = true := by kernel_rfl
theorem playKnows_k17 : ((Rows.playKnowsRow.loops == (Tryz.f9.params.toList ++ Rows.playKnowsSpec.plain.varTypes Tryz.prog).any (Tryz.prog.loopsFrom ·))) = true := by kernel_rfl
theorem playKnows_k18 : ((Rows.playKnowsRow.wideKeys == (Tryz.f9.params.toList ++ Rows.playKnowsSpec.plain.varTypes Tryz.prog ++ Tryz.f9.resultTypes.toList).any (Tryz.prog.wideKeysFrom ·))) = true := by kernel_rfl
theorem playKnows_k19 : (Rows.playKnowsSpec.vars.all (Tryz.prog.varReadable ·)) = true := by kernel_rfl
theorem playKnows_k20 : (Tryz.f9.resultTypes.all (fun t => Tryz.prog.readableRec t && decide (t < Tryz.prog.types.size))) = true := by kernel_rfl
theorem playKnows_k21 : ((Rows.playKnowsRow.ifacesOut == Tryz.f9.resultTypes.toList.any (Tryz.prog.ifacesRec ·))) = true := by kernel_rfl
theorem playKnows_k22 : ((Rows.playKnowsRow.loopsOut == Tryz.f9.resultTypes.toList.any (Tryz.prog.loopsFrom ·))) = true := by kernel_rfl
theorem playKnows_k24 : (Rows.playKnowsRow.shortTexts.isNone) = true := by kernel_rfl
theorem playKnows_k29 : ((Rows.playKnowsRow.kinds == (if Rows.playKnowsRow.domain.isEmpty then [] else Tryz.f9.params.toList.map fun t => match Tryz.prog.underlying t with | some (.int k) => some k | _ => none))) = true := by kernel_rfl
theorem playKnows_k30 : ((Rows.playKnowsRow.pinned == Rows.playKnowsRow.pinnedBy)) = true := by kernel_rfl
theorem playKnows_k31 : ((Rows.playKnowsRow.veiled == (Tryz.f9.params.toList ++ Rows.playKnowsSpec.plain.varTypes Tryz.prog ++ Tryz.f9.resultTypes.toList).any (Tryz.prog.veiledRec ·))) = true := by kernel_rfl
theorem playKnows_k32 : (Rows.playKnowsRow.veiledFits Tryz.prog Tryz.f9.params.toList (Tryz.f9.params.toList ++ Rows.playKnowsSpec.plain.varTypes Tryz.prog ++ Tryz.f9.resultTypes.toList)) = true := by kernel_rfl
theorem playKnows_closed : joinedFacts Tryz.prog 9 Tryz.f9 Rows.playKnowsSpec Rows.playKnowsRow = true := (bd_ (bd_ (bd_ (bd_ (bd_ (bd_ (bd_ (bd_ (bd_ (bd_ (bd_ (bd_ (bd_ (bd_ (bd_ (bd_ (bd_ (bd_ (bd_ (bd_ (bd_ (bd_ (bd_ (bd_ (bd_ (bd_ (bd_ (bd_ (bd_ (bd_ (bd_ playKnows_k1 seat_k2) seat_k3) playKnows_k4) playKnows_k5) playKnows_k6) seat_k7) playKnows_k8) seat_k9) playKnows_k10) playKnows_k11) playKnows_k12) playKnows_k13) playKnows_k14) playKnows_k15) playKnows_k16) playKnows_k17) playKnows_k18) playKnows_k19) playKnows_k20) playKnows_k21) playKnows_k22) seat_k23) playKnows_k24) seat_k25) seat_k26) seat_k27) seat_k28) playKnows_k29) playKnows_k30) playKnows_k31) playKnows_k32)
set_option maxHeartbeats 2000000 in
theorem playKnows_lifted (os : Os) (started : os.Started) (H : Type) (enc : TypeId × Value → H) :
  ReturnsInHanded {} Tryz.checked os 9 .any (fun w args => (Rows.playKnowsSpec.pre enc Tryz.prog Tryz.f9 Rows.playKnowsRow.domain Rows.playKnowsRow.apart w args ∧ laidMetH Tryz.prog [("padlock/room.reserved", Rows.laid_padlock_room_reserved)] w) ∧ sizedMet enc Tryz.prog Tryz.f9 (OpenSpec.ofChange Rows.playKnowsSpec) Rows.playKnowsRow.apart w args)
   (Rows.playKnowsSpec.post enc Tryz.prog Tryz.f9 Rows.playKnowsRow.apart Rows.playKnowsRow.fresh Rows.playKnowsRow.handsOn Rows.playKnowsRow.again) := by
 refine returnsInHanded_of_change_and (C := Tryz.checked) (X := fun w _ => laidMetH Tryz.prog [("padlock/room.reserved", Rows.laid_padlock_room_reserved)] w) (fun _ _ _ hh h => h.of_heap hh) own started (by kernel_rfl) Tryz.func9
  (ChangeSpec.witness_shaped (enc := enc) (C := Tryz.checked) (X := fun w _ => laidMetH Tryz.prog [("padlock/room.reserved", Rows.laid_padlock_room_reserved)] w) false (World.laidAll Tryz.prog os [("padlock/room.reserved", Rows.laid_padlock_room_reserved)]) #[.agg #[.slice none 0 0, .slice none 0 0, .slice none 0 0, .slice none 0 0, .slice none 0 0, .slice none 0 0, .int .i64 0, .slice none 0 0, .slice none 0 0, .slice none 0 0, .slice none 0 0, .int .i64 0], .slice none 0 0] 8 (World.laidAll_os _ _ _) (World.shaped_of_ZipB (by kernel_rfl) (by kernel_rfl)) (by kernel_rfl) (by kernel_rfl) (by kernel_rfl)
   (by rw [MakeChecks.laidMetH_plain _ _ _ (by kernel_rfl)]; exact laidMet_laidAll _ (by kernel_rfl) (by kernel_rfl))) ?_
 intro W base args ds gs before hval0 hW _ _ hL _
 have hval : ∀ (j : Nat) t v, Tryz.f9.params[j]? = some t → args[j]? = some v → Value.okWide Tryz.prog W .any base t v := hval0
 have hW' := hW
 obtain ⟨p, q, hA0, hV, rfl, hfz, hnd⟩ := hW
 have hA : DataW.TrodAll enc Tryz.prog W 0 (fun _ => true) true Tryz.f9.params.toList args.toList ds p := hA0
 rw [Tryz.params9] at hA hval
 obtain ⟨v0, v1, d0, d1, p0, p1, rfl, rfl, rfl, h0, h1⟩ := trodAll_two hA
 obtain ⟨rfl, rfl⟩ := trodVars_none hV
 obtain ⟨g, hG⟩ := gOk_of_laid hL
 obtain ⟨⟨c0⟩, rfl, _⟩ := okWide_struct Tryz.underlying36 (hval 0 36 v0 rfl rfl)
 obtain ⟨_, k0⟩ := h0
 obtain ⟨x0, e0, r0⟩ := rd_Game k0
 change c0 = _ at e0
 subst e0
 obtain ⟨_, _, _, rfl⟩ := okWide_slice Tryz.underlying70 (hval 1 70 v1 rfl rfl)
 obtain ⟨_, k1⟩ := h1
 obtain ⟨x1, e1, r1⟩ := (rd_slice Tryz.underlying70 (by kernel_rfl) (by decide) rd_Move) _ _ _ k1
 rw [show Value.slice _ _ _ = x1.v from (List.cons.inj e1).1] at hW' ⊢
 refine Calls.mono (PlayKnows_c x0 W r0 g hG x1 r1) ?_
 rintro e W' ⟨rfl, hb⟩
 exact ⟨_, rfl, law_post laidOut (by kernel_rfl) rfl Tryz.underlying4 hW' rfl hb rfl rfl rfl⟩
theorem playKnows_holds : Rows.PlayKnowsSaid :=
 OpenClaim.holds_of_wide 9 Tryz.f9 rfl rfl rfl rfl rfl rfl rfl ⟨rfl, rfl, rfl, rfl, rfl⟩ rfl rfl rfl rfl rfl (by kernel_rfl) Tryz.func9 playKnows_closed
  (of_decide_eq_true (by kernel_rfl)) (by unfold Func.isWrapper; first | (rw [if_pos (by decide +kernel)]; kernel_rfl) | (rw [if_neg (by decide +kernel)]; exact ⟨rfl, rfl⟩))
  (fun os started H enc _ => playKnows_lifted os started H enc)
theorem playKnows_card : Rows.PlayKnowsCardSaid :=
 Claim7.holds_tied_plain_at .later [] [.widerDeep] true (true, "d6f71de39442d2818fcd46bbefcc35924a1ed5ec2ff9ee81d8cb38a58824c922") false playKnows_holds (fun _ h => by cases h) (by kernel_rfl) (fun _ h => by cases h) playKnows_row_tie rfl ⟨rfl, rfl⟩ (by kernel_rfl) rfl
  (fun f fn hf hfn => by
   obtain rfl : f = 9 := Option.some.inj ((show Tryz.prog.funcNamed "padlock/padlocklaw04.PlayKnows" = some 9 by kernel_rfl).symm.trans hf) |>.symm
   obtain rfl : fn = Tryz.f9 := (Option.some.inj (Tryz.func9.symm.trans hfn)).symm
   exact ⟨by kernel_rfl, fun j t ht => by
    rw [Tryz.params9] at ht
    have hm : t ∈ [36, 70] := by simpa using Array.mem_of_getElem? ht
    have hall : ([36, 70].all fun u => !Tryz.prog.wantsStandIn u) = true := by kernel_rfl
    exact (show Tryz.prog.wantsStandIn t = false by simpa using List.all_eq_true.1 hall t hm)⟩)
  (by kernel_rfl)
end Go.Proofs.YtaeagngfhceceaaGreatDoor
