/- The tied card of the law PlayCan: whatever the input, it returns true and the input reads as it did. Condition: the package variable room.reserved starts as the program's text lays it (tied). -/
import Derived.Test.YtaeagngfhceceaaGreatDoorH1
import Derived.Test.YtaeagngfhceceaaGreatDoorZx
import Derived.Test.YtaeagngfhceceaaGreatDoorZy
import Derived.Test.YtaeagngfhceceaaGreatDoorTie
import Derived.Test.YtaeagngfhceceaaGreatDoorCards
import Derived.Test.YtaeagngfhceceaaGreatDoorY0
import Derived.Test.YtaeagngfhceceaaGreatDoorY1
import Derived.Test.YtaeagngfhceceaaGreatDoorY3
import Derived.Test.YtaeagngfhceceaaGreatDoorY4
import Derived.Test.YtaeagngfhceceaaGreatDoorY5
import Derived.Test.YtaeagngfhceceaaGreatDoorY7
import Derived.Test.YtaeagngfhceceaaGreatDoorY8
import Derived.Test.YtaeagngfhceceaaGreatDoorY13
import Derived.Test.YtaeagngfhceceaaGreatDoorY20
import Derived.Test.YtaeagngfhceceaaGreatDoorY31
set_option maxHeartbeats 8000000
namespace Go.Proofs.YtaeagngfhceceaaGreatDoor
open Go.ChangeShapes Go.WideShapes Go.ChangeAt Go.RowKit Go.Proofs Go.Joins
set_option maxRecDepth 100000
set_option linter.unusedVariables false
set_option linter.unusedSimpArgs false
theorem own : ownKnob Tryz.prog.godebug = none := by kernel_rfl
theorem laidOut : laidOutB Tryz.prog = true := by kernel_rfl
theorem playCan_k1 : (Rows.playCanRow.wf (OpenSpec.ofChange Rows.playCanSpec)) = true := by kernel_rfl
theorem playCan_k4 : (Tryz.f4.params.all (Tryz.prog.readableRec ·)) = true := by kernel_rfl
theorem playCan_k5 : (namedTie Tryz.prog Rows.playCanRow.named Rows.playCanSpec.vars) = true := by kernel_rfl
theorem playCan_k6 : ((Rows.playCanRow.stops == [])) = true := by kernel_rfl
theorem playCan_k8 : ((Rows.playCanRow.knobs == [])) = true := by kernel_rfl
theorem playCan_k10 : ((Rows.playCanRow.inPlace == Tryz.prog.inPlace 4)) = true := by kernel_rfl
theorem playCan_k11 : ((Rows.playCanRow.unfollowed == Tryz.prog.unfollowed 4)) = true := by kernel_rfl
theorem playCan_k12 : ((Rows.playCanRow.recurses == Tryz.prog.recurses 4)) = true := by kernel_rfl
theorem playCan_k13 : ((Rows.playCanRow.named == Tryz.prog.varsNamed 4)) = true := by kernel_rfl
theorem playCan_k14 : ((Rows.playCanRow.maps == (Tryz.f4.params.toList ++ Rows.playCanSpec.plain.varTypes Tryz.prog).any (Tryz.prog.mapsRec ·))) = true := by kernel_rfl
theorem playCan_k15 : ((Rows.playCanRow.ifaces == (Tryz.f4.params.toList ++ Rows.playCanSpec.plain.varTypes Tryz.prog).any (Tryz.prog.ifacesRec ·))) = true := by kernel_rfl
theorem playCan_k16 : ((Rows.playCanRow.mapsOut == Tryz.prog.mapsAmong Tryz.f4.resultTypes.toList)) = true := by kernel_rfl
theorem playCan_k17 : ((Rows.playCanRow.loops == (Tryz.f4.params.toList ++ Rows.playCanSpec.plain.varTypes Tryz.prog).any (Tryz.prog.loopsFrom ·))) = true := by kernel_rfl
theorem playCan_k18 : ((Rows.playCanRow.wideKeys == (Tryz.f4.params.toList ++ Rows.playCanSpec.plain.varTypes Tryz.prog ++ Tryz.f4.resultTypes.toList).any (Tryz.prog.wideKeysFrom ·))) = true := by kernel_rfl
theorem playCan_k19 : (Rows.playCanSpec.vars.all (Tryz.prog.varReadable ·)) = true := by kernel_rfl
theorem playCan_k20 : (Tryz.f4.resultTypes.all (fun t => Tryz.prog.readableRec t && decide (t < Tryz.prog.types.size))) = true := by kernel_rfl
theorem playCan_k21 : ((Rows.playCanRow.ifacesOut == Tryz.f4.resultTypes.toList.any (Tryz.prog.ifacesRec ·))) = true := by kernel_rfl
theorem playCan_k22 : ((Rows.playCanRow.loopsOut == Tryz.f4.resultTypes.toList.any (Tryz.prog.loopsFrom ·))) = true := by kernel_rfl
theorem playCan_k24 : (Rows.playCanRow.shortTexts.isNone) = true := by kernel_rfl
theorem playCan_k29 : ((Rows.playCanRow.kinds == (if Rows.playCanRow.domain.isEmpty then [] else Tryz.f4.params.toList.map fun t => match Tryz.prog.underlying t with | some (.int k) => some k | _ => none))) = true := by kernel_rfl
theorem playCan_k30 : ((Rows.playCanRow.pinned == Rows.playCanRow.pinnedBy)) = true := by kernel_rfl
theorem playCan_k31 : ((Rows.playCanRow.veiled == (Tryz.f4.params.toList ++ Rows.playCanSpec.plain.varTypes Tryz.prog ++ Tryz.f4.resultTypes.toList).any (Tryz.prog.veiledRec ·))) = true := by kernel_rfl
theorem playCan_k32 : (Rows.playCanRow.veiledFits Tryz.prog Tryz.f4.params.toList (Tryz.f4.params.toList ++ Rows.playCanSpec.plain.varTypes Tryz.prog ++ Tryz.f4.resultTypes.toList)) = true := by kernel_rfl
theorem playCan_closed : joinedFacts Tryz.prog 4 Tryz.f4 Rows.playCanSpec Rows.playCanRow = true := (bd_ (bd_ (bd_ (bd_ (bd_ (bd_ (bd_ (bd_ (bd_ (bd_ (bd_ (bd_ (bd_ (bd_ (bd_ (bd_ (bd_ (bd_ (bd_ (bd_ (bd_ (bd_ (bd_ (bd_ (bd_ (bd_ (bd_ (bd_ (bd_ (bd_ (bd_ playCan_k1 seat_k2) seat_k3) playCan_k4) playCan_k5) playCan_k6) seat_k7) playCan_k8) seat_k9) playCan_k10) playCan_k11) playCan_k12) playCan_k13) playCan_k14) playCan_k15) playCan_k16) playCan_k17) playCan_k18) playCan_k19) playCan_k20) playCan_k21) playCan_k22) seat_k23) playCan_k24) seat_k25) seat_k26) seat_k27) seat_k28) playCan_k29) playCan_k30) playCan_k31) playCan_k32)
set_option maxHeartbeats 2000000 in
theorem playCan_lifted (os : Os) (started : os.Started) (H : Type) (enc : TypeId × Value → H) :
  ReturnsInHanded {} Tryz.checked os 4 .any (fun w args => (Rows.playCanSpec.pre enc Tryz.prog Tryz.f4 Rows.playCanRow.domain Rows.playCanRow.apart w args ∧ laidMetH Tryz.prog [("padlock/room.reserved", Rows.laid_padlock_room_reserved)] w) ∧ sizedMet enc Tryz.prog Tryz.f4 (OpenSpec.ofChange Rows.playCanSpec) Rows.playCanRow.apart w args)
   (Rows.playCanSpec.post enc Tryz.prog Tryz.f4 Rows.playCanRow.apart Rows.playCanRow.fresh Rows.playCanRow.handsOn Rows.playCanRow.again) := by
 refine returnsInHanded_of_change_and (C := Tryz.checked) (X := fun w _ => laidMetH Tryz.prog [("padlock/room.reserved", Rows.laid_padlock_room_reserved)] w) (fun _ _ _ hh h => h.of_heap hh) own started (by kernel_rfl) Tryz.func4
  (ChangeSpec.witness_shaped (enc := enc) (C := Tryz.checked) (X := fun w _ => laidMetH Tryz.prog [("padlock/room.reserved", Rows.laid_padlock_room_reserved)] w) false (World.laidAll Tryz.prog os [("padlock/room.reserved", Rows.laid_padlock_room_reserved)]) #[.agg #[.slice none 0 0, .slice none 0 0, .slice none 0 0, .slice none 0 0, .slice none 0 0, .slice none 0 0, .int .i64 0, .slice none 0 0, .slice none 0 0, .slice none 0 0, .slice none 0 0, .int .i64 0], .agg #[.slice none 0 0, .slice none 0 0, .slice none 0 0, .slice none 0 0]] 8 (World.laidAll_os _ _ _) (World.shaped_of_ZipB (by kernel_rfl) (by kernel_rfl)) (by kernel_rfl) (by kernel_rfl) (by kernel_rfl)
   (by rw [MakeChecks.laidMetH_plain _ _ _ (by kernel_rfl)]; exact laidMet_laidAll _ (by kernel_rfl) (by kernel_rfl))) ?_
 intro W base args ds gs before hval0 hW _ _ hL _
 have hval : ∀ (j : Nat) t v, Tryz.f4.params[j]? = some t → args[j]? = some v → Value.okWide Tryz.prog W .any base t v := hval0
 have hW' := hW
 obtain ⟨p, q, hA0, hV, rfl, hfz, hnd⟩ := hW
 have hA : DataW.TrodAll enc Tryz.prog W 0 (fun _ => true) true Tryz.f4.params.toList args.toList ds p := hA0
 rw [Tryz.params4] at hA hval
 obtain ⟨v0, v1, d0, d1, p0, p1, rfl, rfl, rfl, h0, h1⟩ := trodAll_two hA
 obtain ⟨rfl, rfl⟩ := trodVars_none hV
 obtain ⟨g, hG⟩ := gOk_of_laid hL
 obtain ⟨⟨c0⟩, rfl, _⟩ := okWide_struct Tryz.underlying36 (hval 0 36 v0 rfl rfl)
 obtain ⟨_, k0⟩ := h0
 obtain ⟨x0, e0, r0⟩ := rd_Game k0
 change c0 = _ at e0
 subst e0
 obtain ⟨⟨c1⟩, rfl, _⟩ := okWide_struct Tryz.underlying68 (hval 1 68 v1 rfl rfl)
 obtain ⟨_, k1⟩ := h1
 obtain ⟨x1, e1, r1⟩ := rd_Pos k1
 change c1 = _ at e1
 subst e1
 refine Calls.mono (PlayCan_c x0 W r0 g hG x1 r1) ?_
 rintro e W' ⟨rfl, hb⟩
 exact ⟨_, rfl, law_post laidOut (by kernel_rfl) rfl Tryz.underlying4 hW' rfl hb rfl rfl rfl⟩
theorem playCan_holds : Rows.PlayCanSaid :=
 OpenClaim.holds_of_wide 4 Tryz.f4 rfl rfl rfl rfl rfl rfl rfl ⟨rfl, rfl, rfl, rfl, rfl⟩ rfl rfl rfl rfl rfl (by kernel_rfl) Tryz.func4 playCan_closed
  (of_decide_eq_true (by kernel_rfl)) (by unfold Func.isWrapper; first | (rw [if_pos (by decide +kernel)]; kernel_rfl) | (rw [if_neg (by decide +kernel)]; exact ⟨rfl, rfl⟩))
  (fun os started H enc _ => playCan_lifted os started H enc)
theorem playCan_card : Rows.PlayCanCardSaid :=
 Claim7.holds_tied_plain_at .later [] [.widerDeep] true (true, "d6f71de39442d2818fcd46bbefcc35924a1ed5ec2ff9ee81d8cb38a58824c922") false playCan_holds (fun _ h => by cases h) (by kernel_rfl) (fun _ h => by cases h) playCan_row_tie rfl ⟨rfl, rfl⟩ (by kernel_rfl) rfl
  (fun f fn hf hfn => by
   obtain rfl : f = 4 := Option.some.inj ((show Tryz.prog.funcNamed "padlock/padlocklaw04.PlayCan" = some 4 by kernel_rfl).symm.trans hf) |>.symm
   obtain rfl : fn = Tryz.f4 := (Option.some.inj (Tryz.func4.symm.trans hfn)).symm
   exact ⟨by kernel_rfl, fun j t ht => by
    rw [Tryz.params4] at ht
    have hm : t ∈ [36, 68] := by simpa using Array.mem_of_getElem? ht
    have hall : ([36, 68].all fun u => !Tryz.prog.wantsStandIn u) = true := by kernel_rfl
    exact (show Tryz.prog.wantsStandIn t = false by simpa using List.all_eq_true.1 hall t hm)⟩)
  (by kernel_rfl)
end Go.Proofs.YtaeagngfhceceaaGreatDoor
