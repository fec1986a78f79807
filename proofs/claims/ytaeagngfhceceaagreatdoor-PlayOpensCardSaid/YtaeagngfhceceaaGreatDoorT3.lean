/- The tied card of the law PlayOpens: whatever the input, it returns true and the input reads as it did. Condition: the package variable room.reserved starts as the program's text lays it (tied). -/
import Derived.Test.YtaeagngfhceceaaGreatDoorH3
import Derived.Test.YtaeagngfhceceaaGreatDoorZx
import Derived.Test.YtaeagngfhceceaaGreatDoorZy
import Derived.Test.YtaeagngfhceceaaGreatDoorTie
import Derived.Test.YtaeagngfhceceaaGreatDoorCards
import Derived.Test.YtaeagngfhceceaaGreatDoorY0
import Derived.Test.YtaeagngfhceceaaGreatDoorY1
import Derived.Test.YtaeagngfhceceaaGreatDoorY5
import Derived.Test.YtaeagngfhceceaaGreatDoorY7
import Derived.Test.YtaeagngfhceceaaGreatDoorY26
import Derived.Test.YtaeagngfhceceaaGreatDoorY37
set_option maxHeartbeats 8000000
namespace Go.Proofs.YtaeagngfhceceaaGreatDoor
open Go.ChangeShapes Go.WideShapes Go.ChangeAt Go.RowKit Go.Proofs Go.Joins
set_option maxRecDepth 100000
set_option linter.unusedVariables false
set_option linter.unusedSimpArgs false
theorem own : ownKnob Tryz.prog.godebug = none := by kernel_rfl
theorem laidOut : laidOutB Tryz.prog = true := by kernel_rfl
theorem playOpens_k1 : (Rows.playOpensRow.wf (OpenSpec.ofChange Rows.playOpensSpec)) = true := by kernel_rfl
theorem playOpens_k4 : (Tryz.f6.params.all (Tryz.prog.readableRec ·)) = true := by kernel_rfl
theorem playOpens_k5 : (namedTie Tryz.prog Rows.playOpensRow.named Rows.playOpensSpec.vars) = true := by kernel_rfl
theorem playOpens_k6 : ((Rows.playOpensRow.stops == [])) = true := by kernel_rfl
theorem playOpens_k8 : ((Rows.playOpensRow.knobs == [])) = true := by kernel_rfl
theorem playOpens_k10 : ((Rows.playOpensRow.inPlace == Tryz.prog.inPlace 6)) = true := by kernel_rfl
theorem playOpens_k11 : ((Rows.playOpensRow.unfollowed == Tryz.prog.unfollowed 6)) = true := by kernel_rfl
theorem playOpens_k12 : ((Rows.playOpensRow.recurses == Tryz.prog.recurses 6)) = true := by kernel_rfl
theorem playOpens_k13 : ((Rows.playOpensRow.named == Tryz.prog.varsNamed 6)) = true := by kernel_rfl
theorem playOpens_k14 : ((Rows.playOpensRow.maps == (Tryz.f6.params.toList ++ Rows.playOpensSpec.plain.varTypes Tryz.prog).any (Tryz.prog.mapsRec ·))) = true := by kernel_rfl
theorem playOpens_k15 : ((Rows.playOpensRow.ifaces == (Tryz.f6.params.toList ++ Rows.playOpensSpec.plain.varTypes Tryz.prog).any (Tryz.prog.ifacesRec ·))) = true := by kernel_rfl
theorem playOpens_k16 : ((Rows.playOpensRow.mapsOut == Tryz.prog.mapsAmong Tryz.f6.resultTypes.toList)) = true := by kernel_rfl
theorem playOpens_k17 : ((Rows.playOpensRow.loops == (Tryz.f6.params.toList ++ Rows.playOpensSpec.plain.varTypes Tryz.prog).any (Tryz.prog.loopsFrom ·))) = true := by kernel_rfl
theorem playOpens_k18 : ((Rows.playOpensRow.wideKeys == (Tryz.f6.params.toList ++ Rows.playOpensSpec.plain.varTypes Tryz.prog ++ Tryz.f6.resultTypes.toList).any (Tryz.prog.wideKeysFrom ·))) = true := by kernel_rfl
theorem playOpens_k19 : (Rows.playOpensSpec.vars.all (Tryz.prog.varReadable ·)) = true := by kernel_rfl
theorem playOpens_k20 : (Tryz.f6.resultTypes.all (fun t => Tryz.prog.readableRec t && decide (t < Tryz.prog.types.size))) = true := by kernel_rfl
theorem playOpens_k21 : ((Rows.playOpensRow.ifacesOut == Tryz.f6.resultTypes.toList.any (Tryz.prog.ifacesRec ·))) = true := by kernel_rfl
theorem playOpens_k22 : ((Rows.playOpensRow.loopsOut == Tryz.f6.resultTypes.toList.any (Tryz.prog.loopsFrom ·))) = true := by kernel_rfl
theorem playOpens_k24 : (Rows.playOpensRow.shortTexts.isNone) = true := by kernel_rfl
theorem playOpens_k29 : ((Rows.playOpensRow.kinds == (if Rows.playOpensRow.domain.isEmpty then [] else Tryz.f6.params.toList.map fun t => match Tryz.prog.underlying t with | some (.int k) => some k | _ => none))) = true := by kernel_rfl
theorem playOpens_k30 : ((Rows.playOpensRow.pinned == Rows.playOpensRow.pinnedBy)) = true := by kernel_rfl
theorem playOpens_k31 : ((Rows.playOpensRow.veiled == (Tryz.f6.params.toList ++ Rows.playOpensSpec.plain.varTypes Tryz.prog ++ Tryz.f6.resultTypes.toList).any (Tryz.prog.veiledRec ·))) = true := by kernel_rfl
theorem playOpens_k32 : (Rows.playOpensRow.veiledFits Tryz.prog Tryz.f6.params.toList (Tryz.f6.params.toList ++ Rows.playOpensSpec.plain.varTypes Tryz.prog ++ Tryz.f6.resultTypes.toList)) = true := by kernel_rfl
theorem playOpens_closed : joinedFacts Tryz.prog 6 Tryz.f6 Rows.playOpensSpec Rows.playOpensRow = true := (bd_ (bd_ (bd_ (bd_ (bd_ (bd_ (bd_ (bd_ (bd_ (bd_ (bd_ (bd_ (bd_ (bd_ (bd_ (bd_ (bd_ (bd_ (bd_ (bd_ (bd_ (bd_ (bd_ (bd_ (bd_ (bd_ (bd_ (bd_ (bd_ (bd_ (bd_ playOpens_k1 seat_k2) seat_k3) playOpens_k4) playOpens_k5) playOpens_k6) seat_k7) playOpens_k8) seat_k9) playOpens_k10) playOpens_k11) playOpens_k12) playOpens_k13) playOpens_k14) playOpens_k15) playOpens_k16) playOpens_k17) playOpens_k18) playOpens_k19) playOpens_k20) playOpens_k21) playOpens_k22) seat_k23) playOpens_k24) seat_k25) seat_k26) seat_k27) seat_k28) playOpens_k29) playOpens_k30) playOpens_k31) playOpens_k32)
set_option maxHeartbeats 2000000 in
theorem playOpens_lifted (os : Os) (started : os.Started) (H : Type) (enc : TypeId × Value → H) :
  ReturnsInHanded {} Tryz.checked os 6 .any (fun w args => (Rows.playOpensSpec.pre enc Tryz.prog Tryz.f6 Rows.playOpensRow.domain Rows.playOpensRow.apart w args ∧ laidMetH Tryz.prog [("padlock/room.reserved", Rows.laid_padlock_room_reserved)] w) ∧ sizedMet enc Tryz.prog Tryz.f6 (OpenSpec.ofChange Rows.playOpensSpec) Rows.playOpensRow.apart w args)
   (Rows.playOpensSpec.post enc Tryz.prog Tryz.f6 Rows.playOpensRow.apart Rows.playOpensRow.fresh Rows.playOpensRow.handsOn Rows.playOpensRow.again) := by
 refine returnsInHanded_of_change_and (C := Tryz.checked) (X := fun w _ => laidMetH Tryz.prog [("padlock/room.reserved", Rows.laid_padlock_room_reserved)] w) (fun _ _ _ hh h => h.of_heap hh) own started (by kernel_rfl) Tryz.func6
  (ChangeSpec.witness_shaped (enc := enc) (C := Tryz.checked) (X := fun w _ => laidMetH Tryz.prog [("padlock/room.reserved", Rows.laid_padlock_room_reserved)] w) false (World.laidAll Tryz.prog os [("padlock/room.reserved", Rows.laid_padlock_room_reserved)]) #[.agg #[.slice none 0 0, .slice none 0 0, .slice none 0 0, .slice none 0 0, .slice none 0 0, .slice none 0 0, .int .i64 0, .slice none 0 0, .slice none 0 0, .slice none 0 0, .slice none 0 0, .int .i64 0], .agg #[.slice none 0 0, .slice none 0 0, .slice none 0 0, .slice none 0 0]] 8 (World.laidAll_os _ _ _) (World.shaped_of_ZipB (by kernel_rfl) (by kernel_rfl)) (by kernel_rfl) (by kernel_rfl) (by kernel_rfl)
   (by rw [MakeChecks.laidMetH_plain _ _ _ (by kernel_rfl)]; exact laidMet_laidAll _ (by kernel_rfl) (by kernel_rfl))) ?_
 intro W base args ds gs before hval0 hW _ _ hL _
 have hval : ∀ (j : Nat) t v, Tryz.f6.params[j]? = some t → args[j]? = some v → Value.okWide Tryz.prog W .any base t v := hval0
 have hW' := hW
 obtain ⟨p, q, hA0, hV, rfl, hfz, hnd⟩ := hW
 have hA : DataW.TrodAll enc Tryz.prog W 0 (fun _ => true) true Tryz.f6.params.toList args.toList ds p := hA0
 rw [Tryz.params6] at hA hval
 obtain ⟨v0, v1, d0, d1, p0, p1, rfl, rfl, rfl, h0, h1⟩ := trodAll_two hA
 obtain ⟨rfl, rfl⟩ := trodVars_none hV
 obtain ⟨g, hG⟩ := gOk_of_laid hL
 obtain ⟨⟨c0⟩, rfl, _⟩ := okWide_struct Tryz.underlying36 (hval 0 36 v0 rfl rfl)
 obtain ⟨_, k0⟩ := h0
 obtain ⟨x0, e0, r0⟩ := rd_Game k0
 change c0 = _ at e0
 subst e0
 obtain ⟨⟨c1⟩, rfl, _⟩ := okWide_struct Tryz.underlying68 (hval 1 68 v1 rfl rfl)
 obtain ⟨_, k1⟩ := h1
 obtain ⟨x1, e1, r1⟩ := rd_Pos k1
 change c1 = _ at e1
 subst e1
 refine Calls.mono (PlayOpens_c x0 W r0 g hG x1 r1) ?_
 rintro e W' ⟨rfl, hb⟩
 exact ⟨_, rfl, law_post laidOut (by kernel_rfl) rfl Tryz.underlying4 hW' rfl hb rfl rfl rfl⟩
theorem playOpens_holds : Rows.PlayOpensSaid :=
 OpenClaim.holds_of_wide 6 Tryz.f6 rfl rfl rfl rfl rfl rfl rfl ⟨rfl, rfl, rfl, rfl, rfl⟩ rfl rfl rfl rfl rfl (by kernel_rfl) Tryz.func6 playOpens_closed
  (of_decide_eq_true (by kernel_rfl)) (by unfold Func.isWrapper; first | (rw [if_pos (by decide +kernel)]; kernel_rfl) | (rw [if_neg (by decide +kernel)]; exact ⟨rfl, rfl⟩))
  (fun os started H enc _ => playOpens_lifted os started H enc)
theorem playOpens_card : Rows.PlayOpensCardSaid :=
 Claim7.holds_tied_plain_at .later [] [.widerDeep] true (true, "d6f71de39442d2818fcd46bbefcc35924a1ed5ec2ff9ee81d8cb38a58824c922") false playOpens_holds (fun _ h => by cases h) (by kernel_rfl) (fun _ h => by cases h) playOpens_row_tie rfl ⟨rfl, rfl⟩ (by kernel_rfl) rfl
  (fun f fn hf hfn => by
   obtain rfl : f = 6 := Option.some.inj ((show Tryz.prog.funcNamed "padlock/padlocklaw04.PlayOpens" = some 6 by kernel_rfl).symm.trans hf) |>.symm
   obtain rfl : fn = Tryz.f6 := (Option.some.inj (Tryz.func6.symm.trans hfn)).symm
   exact ⟨by kernel_rfl, fun j t ht => by
    rw [Tryz.params6] at ht
    have hm : t ∈ [36, 68] := by simpa using Array.mem_of_getElem? ht
    have hall : ([36, 68].all fun u => !Tryz.prog.wantsStandIn u) = true := by kernel_rfl
    exact (show Tryz.prog.wantsStandIn t = false by simpa using List.all_eq_true.1 hall t hm)⟩)
  (by kernel_rfl)
end Go.Proofs.YtaeagngfhceceaaGreatDoor
