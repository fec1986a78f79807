/- The tied card of the law TopClues: whatever the input, it returns true and the input reads as it did. Condition: the package variable room.reserved starts as the program's text lays it (tied). -/
import Derived.Test.YtaeagngfhceceaaGreatDoorHb
import Derived.Test.YtaeagngfhceceaaGreatDoorZx
import Derived.Test.YtaeagngfhceceaaGreatDoorZy
import Derived.Test.YtaeagngfhceceaaGreatDoorTie
import Derived.Test.YtaeagngfhceceaaGreatDoorCards
set_option maxHeartbeats 8000000
namespace Go.Proofs.YtaeagngfhceceaaGreatDoor
open Go.ChangeShapes Go.WideShapes Go.ChangeAt Go.RowKit Go.Proofs Go.Joins
set_option maxRecDepth 100000
set_option linter.unusedVariables false
set_option linter.unusedSimpArgs false
theorem own : ownKnob Tryz.prog.godebug = none := by kernel_rfl
theorem laidOut : laidOutB Tryz.prog = true := by kernel_rfl
theorem topClues_k1 : (Rows.topCluesRow.wf (OpenSpec.ofChange Rows.topCluesSpec)) = true := by kernel_rfl
theorem topClues_k4 : (Tryz.f3.params.all (Tryz.prog.readableRec ·)) = true := by kernel_rfl
theorem topClues_k5 : (namedTie Tryz.prog Rows.topCluesRow.named Rows.topCluesSpec.vars) = true := by kernel_rfl
theorem topClues_k6 : ((Rows.topCluesRow.stops == [])) = true := by kernel_rfl
theorem topClues_k8 : ((Rows.topCluesRow.knobs == [])) = true := by kernel_rfl
theorem topClues_k10 : ((Rows.topCluesRow.inPlace == Tryz.prog.inPlace 3)) = true := by kernel_rfl
theorem topClues_k11 : ((Rows.topCluesRow.unfollowed == Tryz.prog.unfollowed 3)) = true := by kernel_rfl
theorem topClues_k12 : ((Rows.topCluesRow.recurses == Tryz.prog.recurses 3)) = true := by kernel_rfl
theorem topClues_k13 : ((Rows.topCluesRow.named == Tryz.prog.varsNamed 3)) = true := by kernel_rfl
theorem topClues_k14 : ((Rows.topCluesRow.maps == (Tryz.f3.params.toList ++ Rows.topCluesSpec.plain.varTypes Tryz.prog).any (Tryz.prog.mapsRec ·))) = true := by kernel_rfl
theorem topClues_k15 : ((Rows.topCluesRow.ifaces == (Tryz.f3.params.toList ++ Rows.topCluesSpec.plain.varTypes Tryz.prog).any (Tryz.prog.ifacesRec ·))) = true := by kernel_rfl
theorem topClues_k16 : ((Rows.topCluesRow.mapsOut == Tryz.prog.mapsAmong Tryz.f3.resultTypes.toList)) = true := by kernel_rfl
theorem topClues_k17 : ((Rows.topCluesRow.loops == (Tryz.f3.params.toList ++ Rows.topCluesSpec.plain.varTypes Tryz.prog).any (Tryz.prog.loopsFrom ·))) = true := by kernel_rfl
theorem topClues_k18 : ((Rows.topCluesRow.wideKeys == (Tryz.f3.params.toList ++ Rows.topCluesSpec.plain.varTypes Tryz.prog ++ Tryz.f3.resultTypes.toList).any (Tryz.prog.wideKeysFrom ·))) = true := by kernel_rfl
theorem topClues_k19 : (Rows.topCluesSpec.vars.all (Tryz.prog.varReadable ·)) = true := by kernel_rfl
theorem topClues_k20 : (Tryz.f3.resultTypes.all (fun t => Tryz.prog.readableRec t && decide (t < Tryz.prog.types.size))) = true := by kernel_rfl
theorem topClues_k21 : ((Rows.topCluesRow.ifacesOut == Tryz.f3.resultTypes.toList.any (Tryz.prog.ifacesRec ·))) = true := by kernel_rfl
theorem topClues_k22 : ((Rows.topCluesRow.loopsOut == Tryz.f3.resultTypes.toList.any (Tryz.prog.loopsFrom ·))) = true := by kernel_rfl
theorem topClues_k24 : (Rows.topCluesRow.shortTexts.isNone) = true := by kernel_rfl
theorem topClues_k29 : ((Rows.topCluesRow.kinds == (if Rows.topCluesRow.domain.isEmpty then [] else Tryz.f3.params.toList.map fun t => match Tryz.prog.underlying t with | some (.int k) => some k | _ => none))) = true := by kernel_rfl
theorem topClues_k30 : ((Rows.topCluesRow.pinned == Rows.topCluesRow.pinnedBy)) = true := by kernel_rfl
theorem topClues_k31 : ((Rows.topCluesRow.veiled == (Tryz.f3.params.toList ++ Rows.topCluesSpec.plain.varTypes Tryz.prog ++ Tryz.f3.resultTypes.toList).any (Tryz.prog.veiledRec ·))) = true := by kernel_rfl
theorem topClues_k32 : (Rows.topCluesRow.veiledFits Tryz.prog Tryz.f3.params.toList (Tryz.f3.params.toList ++ Rows.topCluesSpec.plain.varTypes Tryz.prog ++ Tryz.f3.resultTypes.toList)) = true := by kernel_rfl
theorem topClues_closed : joinedFacts Tryz.prog 3 Tryz.f3 Rows.topCluesSpec Rows.topCluesRow = true := (bd_ (bd_ (bd_ (bd_ (bd_ (bd_ (bd_ (bd_ (bd_ (bd_ (bd_ (bd_ (bd_ (bd_ (bd_ (bd_ (bd_ (bd_ (bd_ (bd_ (bd_ (bd_ (bd_ (bd_ (bd_ (bd_ (bd_ (bd_ (bd_ (bd_ (bd_ topClues_k1 seat_k2) seat_k3) topClues_k4) topClues_k5) topClues_k6) seat_k7) topClues_k8) seat_k9) topClues_k10) topClues_k11) topClues_k12) topClues_k13) topClues_k14) topClues_k15) topClues_k16) topClues_k17) topClues_k18) topClues_k19) topClues_k20) topClues_k21) topClues_k22) seat_k23) topClues_k24) seat_k25) seat_k26) seat_k27) seat_k28) topClues_k29) topClues_k30) topClues_k31) topClues_k32)
set_option maxHeartbeats 2000000 in
theorem topClues_lifted (os : Os) (started : os.Started) (H : Type) (enc : TypeId × Value → H) :
  ReturnsInHanded {} Tryz.checked os 3 .any (fun w args => (Rows.topCluesSpec.pre enc Tryz.prog Tryz.f3 Rows.topCluesRow.domain Rows.topCluesRow.apart w args ∧ laidMetH Tryz.prog [("padlock/room.reserved", Rows.laid_padlock_room_reserved)] w) ∧ sizedMet enc Tryz.prog Tryz.f3 (OpenSpec.ofChange Rows.topCluesSpec) Rows.topCluesRow.apart w args)
   (Rows.topCluesSpec.post enc Tryz.prog Tryz.f3 Rows.topCluesRow.apart Rows.topCluesRow.fresh Rows.topCluesRow.handsOn Rows.topCluesRow.again) := by
 refine returnsInHanded_of_change_and (C := Tryz.checked) (X := fun w _ => laidMetH Tryz.prog [("padlock/room.reserved", Rows.laid_padlock_room_reserved)] w) (fun _ _ _ hh h => h.of_heap hh) own started (by kernel_rfl) Tryz.func3
  (ChangeSpec.witness_shaped (enc := enc) (C := Tryz.checked) (X := fun w _ => laidMetH Tryz.prog [("padlock/room.reserved", Rows.laid_padlock_room_reserved)] w) false (World.laidAll Tryz.prog os [("padlock/room.reserved", Rows.laid_padlock_room_reserved)]) #[.agg #[.slice none 0 0, .slice none 0 0, .slice none 0 0, .slice none 0 0, .slice none 0 0, .slice none 0 0, .int .i64 0, .slice none 0 0, .slice none 0 0, .slice none 0 0, .slice none 0 0, .int .i64 0], .int .i64 0] 8 (World.laidAll_os _ _ _) (World.shaped_of_ZipB (by kernel_rfl) (by kernel_rfl)) (by kernel_rfl) (by kernel_rfl) (by kernel_rfl)
   (by rw [MakeChecks.laidMetH_plain _ _ _ (by kernel_rfl)]; exact laidMet_laidAll _ (by kernel_rfl) (by kernel_rfl))) ?_
 intro W base args ds gs before hval0 hW _ _ hL _
 have hval : ∀ (j : Nat) t v, Tryz.f3.params[j]? = some t → args[j]? = some v → Value.okWide Tryz.prog W .any base t v := hval0
 have hW' := hW
 obtain ⟨p, q, hA0, hV, rfl, hfz, hnd⟩ := hW
 have hA : DataW.TrodAll enc Tryz.prog W 0 (fun _ => true) true Tryz.f3.params.toList args.toList ds p := hA0
 rw [Tryz.params3] at hA hval
 obtain ⟨v0, v1, d0, d1, p0, p1, rfl, rfl, rfl, h0, h1⟩ := trodAll_two hA
 obtain ⟨rfl, rfl⟩ := trodVars_none hV
 obtain ⟨g, hG⟩ := gOk_of_laid hL
 obtain ⟨⟨c0⟩, rfl, _⟩ := okWide_struct Tryz.underlying36 (hval 0 36 v0 rfl rfl)
 obtain ⟨_, k0⟩ := h0
 obtain ⟨x0, e0, r0⟩ := rd_Game k0
 change c0 = _ at e0
 subst e0
 obtain ⟨x1, rfl⟩ := okWide_int Tryz.underlying3 (hval 1 3 v1 rfl rfl)
 refine Calls.mono (TopClues_c x0 W r0 g hG x1) ?_
 rintro e W' ⟨rfl, hb⟩
 exact ⟨_, rfl, law_post laidOut (by kernel_rfl) rfl Tryz.underlying4 hW' rfl hb rfl rfl rfl⟩
theorem topClues_holds : Rows.TopCluesSaid :=
 OpenClaim.holds_of_wide 3 Tryz.f3 rfl rfl rfl rfl rfl rfl rfl ⟨rfl, rfl, rfl, rfl, rfl⟩ rfl rfl rfl rfl rfl (by kernel_rfl) Tryz.func3 topClues_closed
  (of_decide_eq_true (by kernel_rfl)) (by unfold Func.isWrapper; first | (rw [if_pos (by decide +kernel)]; kernel_rfl) | (rw [if_neg (by decide +kernel)]; exact ⟨rfl, rfl⟩))
  (fun os started H enc _ => topClues_lifted os started H enc)
theorem topClues_card : Rows.TopCluesCardSaid :=
 Claim7.holds_tied_plain_at .later [] [.widerDeep] true (true, "d6f71de39442d2818fcd46bbefcc35924a1ed5ec2ff9ee81d8cb38a58824c922") false topClues_holds (fun _ h => by cases h) (by kernel_rfl) (fun _ h => by cases h) topClues_row_tie rfl ⟨rfl, rfl⟩ (by kernel_rfl) rfl
  (fun f fn hf hfn => by
   obtain rfl : f = 3 := Option.some.inj ((show Tryz.prog.funcNamed "padlock/padlocktop.TopClues" = some 3 by kernel_rfl).symm.trans hf) |>.symm
   obtain rfl : fn = Tryz.f3 := (Option.some.inj (Tryz.func3.symm.trans hfn)).symm
   exact ⟨by kernel_rfl, fun j t ht => by
    rw [Tryz.params3] at ht
    have hm : t ∈ [36, 3] := by simpa using Array.mem_of_getElem? ht
    have hall : ([36, 3].all fun u => !Tryz.prog.wantsStandIn u) = true := by kernel_rfl
    exact (show Tryz.prog.wantsStandIn t = false by simpa using List.all_eq_true.1 hall t hm)⟩)
  (by kernel_rfl)
end Go.Proofs.YtaeagngfhceceaaGreatDoor
