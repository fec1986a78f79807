/- The tied card of the law PlayRuns: whatever the input, it returns true and the input reads as it did. Condition: the package variable room.reserved starts as the program's text lays it (tied). -/
import Derived.Test.YtaeagngfhceceaaGreatDoorH4
import Derived.Test.YtaeagngfhceceaaGreatDoorZx
import Derived.Test.YtaeagngfhceceaaGreatDoorZy
import Derived.Test.YtaeagngfhceceaaGreatDoorTie
import Derived.Test.YtaeagngfhceceaaGreatDoorCards
import Derived.Test.YtaeagngfhceceaaGreatDoorY0
import Derived.Test.YtaeagngfhceceaaGreatDoorY1
import Derived.Test.YtaeagngfhceceaaGreatDoorY2
import Derived.Test.YtaeagngfhceceaaGreatDoorY3
import Derived.Test.YtaeagngfhceceaaGreatDoorY4
import Derived.Test.YtaeagngfhceceaaGreatDoorY5
import Derived.Test.YtaeagngfhceceaaGreatDoorY7
import Derived.Test.YtaeagngfhceceaaGreatDoorY8
import Derived.Test.YtaeagngfhceceaaGreatDoorY9
import Derived.Test.YtaeagngfhceceaaGreatDoorY10
import Derived.Test.YtaeagngfhceceaaGreatDoorY11
import Derived.Test.YtaeagngfhceceaaGreatDoorY12
import Derived.Test.YtaeagngfhceceaaGreatDoorY13
import Derived.Test.YtaeagngfhceceaaGreatDoorY15
import Derived.Test.YtaeagngfhceceaaGreatDoorY17
import Derived.Test.YtaeagngfhceceaaGreatDoorY19
import Derived.Test.YtaeagngfhceceaaGreatDoorY29
import Derived.Test.YtaeagngfhceceaaGreatDoorY30
import Derived.Test.YtaeagngfhceceaaGreatDoorY39
set_option maxHeartbeats 8000000
namespace Go.Proofs.YtaeagngfhceceaaGreatDoor
open Go.ChangeShapes Go.WideShapes Go.ChangeAt Go.RowKit Go.Proofs Go.Joins
set_option maxRecDepth 100000
set_option linter.unusedVariables false
set_option linter.unusedSimpArgs false
theorem own : ownKnob Tryz.prog.godebug = none := by kernel_rfl
theorem laidOut : laidOutB Tryz.prog = true := by kernel_rfl
theorem playRuns_k1 : (Rows.playRunsRow.wf (OpenSpec.ofChange Rows.playRunsSpec)) = true := by kernel_rfl
theorem playRuns_k4 : (Tryz.f7.params.all (Tryz.prog.readableRec ·)) = true := by kernel_rfl
theorem playRuns_k5 : (namedTie Tryz.prog Rows.playRunsRow.named Rows.playRunsSpec.vars) = true := by kernel_rfl
theorem playRuns_k6 : ((Rows.playRunsRow.stops == [])) = true := by kernel_rfl
theorem playRuns_k8 : ((Rows.playRunsRow.knobs == [])) = true := by kernel_rfl
theorem playRuns_k10 : ((Rows.playRunsRow.inPlace == Tryz.prog.inPlace 7)) = true := by kernel_rfl
theorem playRuns_k11 : ((Rows.playRunsRow.unfollowed == Tryz.prog.unfollowed 7)) = true := by kernel_rfl
theorem playRuns_k12 : ((Rows.playRunsRow.recurses == Tryz.prog.recurses 7)) = true := by kernel_rfl
theorem playRuns_k13 : ((Rows.playRunsRow.named == Tryz.prog.varsNamed 7)) = true := by kernel_rfl
theorem playRuns_k14 : ((Rows.playRunsRow.maps == (Tryz.f7.params.toList ++ Rows.playRunsSpec.plain.varTypes Tryz.prog).any (Tryz.prog.mapsRec ·))) = true := by kernel_rfl
theorem playRuns_k15 : ((Rows.playRunsRow.ifaces == (Tryz.f7.params.toList ++ Rows.playRunsSpec.plain.varTypes Tryz.prog).any (Tryz.prog.ifacesRec ·))) = true := by kernel_rfl
theorem playRuns_k16 : ((Rows.playRunsRow.mapsOut == Tryz.prog.mapsAmong Tryz.f7.resultTypes.toList)) = true := by kernel_rfl
theorem playRuns_k17 : ((Rows.playRunsRow.loops == (Tryz.f7.params.toList ++ Rows.playRunsSpec.plain.varTypes Tryz.prog).any (Tryz.prog.loopsFrom ·))) = true := by kernel_rfl
theorem playRuns_k18 : ((Rows.playRunsRow.wideKeys == (Tryz.f7.params.toList ++ Rows.playRunsSpec.plain.varTypes Tryz.prog ++ Tryz.f7.resultTypes.toList).any (Tryz.prog.wideKeysFrom ·))) = true := by kernel_rfl
theorem playRuns_k19 : (Rows.playRunsSpec.vars.all (Tryz.prog.varReadable ·)) = true := by kernel_rfl
theorem playRuns_k20 : (Tryz.f7.resultTypes.all (fun t => Tryz.prog.readableRec t && decide (t < Tryz.prog.types.size))) = true := by kernel_rfl
theorem playRuns_k21 : ((Rows.playRunsRow.ifacesOut == Tryz.f7.resultTypes.toList.any (Tryz.prog.ifacesRec ·))) = true := by kernel_rfl
theorem playRuns_k22 : ((Rows.playRunsRow.loopsOut == Tryz.f7.resultTypes.toList.any (Tryz.prog.loopsFrom ·))) = true := by kernel_rfl
theorem playRuns_k24 : (Rows.playRunsRow.shortTexts.isNone) = true := by kernel_rfl
theorem playRuns_k29 : ((Rows.playRunsRow.kinds == (if Rows.playRunsRow.domain.isEmpty then [] else Tryz.f7.params.toList.map fun t => match Tryz.prog.underlying t with | some (.int k) => some k | _ => none))) = true := by kernel_rfl
theorem playRuns_k30 : ((Rows.playRunsRow.pinned == Rows.playRunsRow.pinnedBy)) = true := by kernel_rfl
theorem playRuns_k31 : ((Rows.playRunsRow.veiled == (Tryz.f7.params.toList ++ Rows.playRunsSpec.plain.varTypes Tryz.prog ++ Tryz.f7.resultTypes.toList).any (Tryz.prog.veiledRec ·))) = true := by kernel_rfl
theorem playRuns_k32 : (Rows.playRunsRow.veiledFits Tryz.prog Tryz.f7.params.toList (Tryz.f7.params.toList ++ Rows.playRunsSpec.plain.varTypes Tryz.prog ++ Tryz.f7.resultTypes.toList)) = true := by kernel_rfl
theorem playRuns_closed : joinedFacts Tryz.prog 7 Tryz.f7 Rows.playRunsSpec Rows.playRunsRow = true := (bd_ (bd_ (bd_ (bd_ (bd_ (bd_ (bd_ (bd_ (bd_ (bd_ (bd_ (bd_ (bd_ (bd_ (bd_ (bd_ (bd_ (bd_ (bd_ (bd_ (bd_ (bd_ (bd_ (bd_ (bd_ (bd_ (bd_ (bd_ (bd_ (bd_ (bd_ playRuns_k1 seat_k2) seat_k3) playRuns_k4) playRuns_k5) playRuns_k6) seat_k7) playRuns_k8) seat_k9) playRuns_k10) playRuns_k11) playRuns_k12) playRuns_k13) playRuns_k14) playRuns_k15) playRuns_k16) playRuns_k17) playRuns_k18) playRuns_k19) playRuns_k20) playRuns_k21) playRuns_k22) seat_k23) playRuns_k24) seat_k25) seat_k26) seat_k27) seat_k28) playRuns_k29) playRuns_k30) playRuns_k31) playRuns_k32)
set_option maxHeartbeats 2000000 in
theorem playRuns_lifted (os : Os) (started : os.Started) (H : Type) (enc : TypeId × Value → H) :
  ReturnsInHanded {} Tryz.checked os 7 .any (fun w args => (Rows.playRunsSpec.pre enc Tryz.prog Tryz.f7 Rows.playRunsRow.domain Rows.playRunsRow.apart w args ∧ laidMetH Tryz.prog [("padlock/room.reserved", Rows.laid_padlock_room_reserved)] w) ∧ sizedMet enc Tryz.prog Tryz.f7 (OpenSpec.ofChange Rows.playRunsSpec) Rows.playRunsRow.apart w args)
   (Rows.playRunsSpec.post enc Tryz.prog Tryz.f7 Rows.playRunsRow.apart Rows.playRunsRow.fresh Rows.playRunsRow.handsOn Rows.playRunsRow.again) := by
 refine returnsInHanded_of_change_and (C := Tryz.checked) (X := fun w _ => laidMetH Tryz.prog [("padlock/room.reserved", Rows.laid_padlock_room_reserved)] w) (fun _ _ _ hh h => h.of_heap hh) own started (by kernel_rfl) Tryz.func7
  (ChangeSpec.witness_shaped (enc := enc) (C := Tryz.checked) (X := fun w _ => laidMetH Tryz.prog [("padlock/room.reserved", Rows.laid_padlock_room_reserved)] w) false (World.laidAll Tryz.prog os [("padlock/room.reserved", Rows.laid_padlock_room_reserved)]) #[.agg #[.slice none 0 0, .slice none 0 0, .slice none 0 0, .slice none 0 0, .slice none 0 0, .slice none 0 0, .int .i64 0, .slice none 0 0, .slice none 0 0, .slice none 0 0, .slice none 0 0, .int .i64 0], .agg #[.slice none 0 0, .slice none 0 0, .slice none 0 0, .slice none 0 0], .slice none 0 0] 8 (World.laidAll_os _ _ _) (World.shaped_of_ZipB (by kernel_rfl) (by kernel_rfl)) (by kernel_rfl) (by kernel_rfl) (by kernel_rfl)
   (by rw [MakeChecks.laidMetH_plain _ _ _ (by kernel_rfl)]; exact laidMet_laidAll _ (by kernel_rfl) (by kernel_rfl))) ?_
 intro W base args ds gs before hval0 hW _ _ hL _
 have hval : ∀ (j : Nat) t v, Tryz.f7.params[j]? = some t → args[j]? = some v → Value.okWide Tryz.prog W .any base t v := hval0
 have hW' := hW
 obtain ⟨p, q, hA0, hV, rfl, hfz, hnd⟩ := hW
 have hA : DataW.TrodAll enc Tryz.prog W 0 (fun _ => true) true Tryz.f7.params.toList args.toList ds p := hA0
 rw [Tryz.params7] at hA hval
 obtain ⟨v0, v1, v2, d0, d1, d2, p0, p1, p2, rfl, rfl, rfl, h0, h1, h2⟩ := trodAll_three hA
 obtain ⟨rfl, rfl⟩ := trodVars_none hV
 obtain ⟨g, hG⟩ := gOk_of_laid hL
 obtain ⟨⟨c0⟩, rfl, _⟩ := okWide_struct Tryz.underlying36 (hval 0 36 v0 rfl rfl)
 obtain ⟨_, k0⟩ := h0
 obtain ⟨x0, e0, r0⟩ := rd_Game k0
 change c0 = _ at e0
 subst e0
 obtain ⟨⟨c1⟩, rfl, _⟩ := okWide_struct Tryz.underlying68 (hval 1 68 v1 rfl rfl)
 obtain ⟨_, k1⟩ := h1
 obtain ⟨x1, e1, r1⟩ := rd_Pos k1
 change c1 = _ at e1
 subst e1
 obtain ⟨_, _, _, rfl⟩ := okWide_slice Tryz.underlying70 (hval 2 70 v2 rfl rfl)
 obtain ⟨_, k2⟩ := h2
 obtain ⟨x2, e2, r2⟩ := (rd_slice Tryz.underlying70 (by kernel_rfl) (by decide) rd_Move) _ _ _ k2
 rw [show Value.slice _ _ _ = x2.v from (List.cons.inj e2).1] at hW' ⊢
 refine Calls.mono (PlayRuns_c x0 W r0 g hG x1 r1 x2 r2) ?_
 rintro e W' ⟨rfl, hb⟩
 exact ⟨_, rfl, law_post laidOut (by kernel_rfl) rfl Tryz.underlying4 hW' rfl hb rfl rfl rfl⟩
theorem playRuns_holds : Rows.PlayRunsSaid :=
 OpenClaim.holds_of_wide 7 Tryz.f7 rfl rfl rfl rfl rfl rfl rfl ⟨rfl, rfl, rfl, rfl, rfl⟩ rfl rfl rfl rfl rfl (by kernel_rfl) Tryz.func7 playRuns_closed
  (of_decide_eq_true (by kernel_rfl)) (by unfold Func.isWrapper; first | (rw [if_pos (by decide +kernel)]; kernel_rfl) | (rw [if_neg (by decide +kernel)]; exact ⟨rfl, rfl⟩))
  (fun os started H enc _ => playRuns_lifted os started H enc)
theorem playRuns_card : Rows.PlayRunsCardSaid :=
 Claim7.holds_tied_plain_at .later [] [.widerDeep] true (true, "d6f71de39442d2818fcd46bbefcc35924a1ed5ec2ff9ee81d8cb38a58824c922") false playRuns_holds (fun _ h => by cases h) (by kernel_rfl) (fun _ h => by cases h) playRuns_row_tie rfl ⟨rfl, rfl⟩ (by kernel_rfl) rfl
  (fun f fn hf hfn => by
   obtain rfl : f = 7 := Option.some.inj ((show Tryz.prog.funcNamed "padlock/padlocklaw04.PlayRuns" = some 7 by kernel_rfl).symm.trans hf) |>.symm
   obtain rfl : fn = Tryz.f7 := (Option.some.inj (Tryz.func7.symm.trans hfn)).symm
   exact ⟨by kernel_rfl, fun j t ht => by
    rw [Tryz.params7] at ht
    have hm : t ∈ [36, 68, 70] := by simpa using Array.mem_of_getElem? ht
    have hall : ([36, 68, 70].all fun u => !Tryz.prog.wantsStandIn u) = true := by kernel_rfl
    exact (show Tryz.prog.wantsStandIn t = false by simpa using List.all_eq_true.1 hall t hm)⟩)
  (by kernel_rfl)
end Go.Proofs.YtaeagngfhceceaaGreatDoor
