/- The tied card of the law RecordTrue: whatever the input, it returns true and the input reads as it did. Condition: the package variable room.reserved starts as the program's text lays it (tied). -/
import Derived.Test.YtohneogdekdboaaGreatDoorJ5
import Derived.Test.YtohneogdekdboaaGreatDoorZx
import Derived.Test.YtohneogdekdboaaGreatDoorZy
import Derived.Test.YtohneogdekdboaaGreatDoorTie
import Derived.Test.YtohneogdekdboaaGreatDoorCards
import Derived.Test.YtohneogdekdboaaGreatDoorY3
import Derived.Test.YtohneogdekdboaaGreatDoorY4
import Derived.Test.YtohneogdekdboaaGreatDoorY7
import Derived.Test.YtohneogdekdboaaGreatDoorY9
import Derived.Test.YtohneogdekdboaaGreatDoorY11
import Derived.Test.YtohneogdekdboaaGreatDoorY19
set_option maxHeartbeats 8000000
namespace Go.Proofs.YtohneogdekdboaaGreatDoor
open Go.ChangeShapes Go.WideShapes Go.ChangeAt Go.RowKit Go.Proofs Go.Joins
set_option maxRecDepth 100000
set_option linter.unusedVariables false
set_option linter.unusedSimpArgs false
theorem own : ownKnob Tryz.prog.godebug = none := by kernel_rfl
theorem laidOut : laidOutB Tryz.prog = true := by kernel_rfl
theorem recordTrue_k1 : (Rows.recordTrueRow.wf (OpenSpec.ofChange Rows.recordTrueSpec)) = true := by kernel_rfl
theorem recordTrue_k4 : (Tryz.f7.params.all (Tryz.prog.readableRec ·)) = true := by kernel_rfl
theorem recordTrue_k5 : (namedTie Tryz.prog Rows.recordTrueRow.named Rows.recordTrueSpec.vars) = true := by kernel_rfl
theorem recordTrue_k6 : ((Rows.recordTrueRow.stops == [])) = true := by kernel_rfl
theorem recordTrue_k8 : ((Rows.recordTrueRow.knobs == [])) = true := by kernel_rfl
theorem recordTrue_k10 : ((Rows.recordTrueRow.inPlace == Tryz.prog.inPlace 7)) = true := by kernel_rfl
theorem recordTrue_k11 : ((Rows.recordTrueRow.unfollowed == Tryz.prog.unfollowed 7)) = true := by kernel_rfl
theorem recordTrue_k12 : ((Rows.recordTrueRow.recurses == Tryz.prog.recurses 7)) = true := by kernel_rfl
theorem recordTrue_k13 : ((Rows.recordTrueRow.named == Tryz.prog.varsNamed 7)) = true := by kernel_rfl
theorem recordTrue_k14 : ((Rows.recordTrueRow.maps == (Tryz.f7.params.toList ++ Rows.recordTrueSpec.plain.varTypes Tryz.prog).any (Tryz.prog.mapsRec ·))) = true := by kernel_rfl
theorem recordTrue_k15 : ((Rows.recordTrueRow.ifaces == (Tryz.f7.params.toList ++ Rows.recordTrueSpec.plain.varTypes Tryz.prog).any (Tryz.prog.ifacesRec ·))) = true := by kernel_rfl
theorem recordTrue_k16 : ((Rows.recordTrueRow.mapsOut == Tryz.prog.mapsAmong Tryz.f7.resultTypes.toList)) = true := by kernel_rfl
theorem recordTrue_k17 : ((Rows.recordTrueRow.loops == (Tryz.f7.params.toList ++ Rows.recordTrueSpec.plain.varTypes Tryz.prog).any (Tryz.prog.loopsFrom ·))) = true := by kernel_rfl
theorem recordTrue_k18 : ((Rows.recordTrueRow.wideKeys == (Tryz.f7.params.toList ++ Rows.recordTrueSpec.plain.varTypes Tryz.prog ++ Tryz.f7.resultTypes.toList).any (Tryz.prog.wideKeysFrom ·))) = true := by kernel_rfl
theorem recordTrue_k19 : (Rows.recordTrueSpec.vars.all (Tryz.prog.varReadable ·)) = true := by kernel_rfl
theorem recordTrue_k20 : (Tryz.f7.resultTypes.all (fun t => Tryz.prog.readableRec t && decide (t < Tryz.prog.types.size))) = true := by kernel_rfl
theorem recordTrue_k21 : ((Rows.recordTrueRow.ifacesOut == Tryz.f7.resultTypes.toList.any (Tryz.prog.ifacesRec ·))) = true := by kernel_rfl
theorem recordTrue_k22 : ((Rows.recordTrueRow.loopsOut == Tryz.f7.resultTypes.toList.any (Tryz.prog.loopsFrom ·))) = true := by kernel_rfl
theorem recordTrue_k24 : (Rows.recordTrueRow.shortTexts.isNone) = true := by kernel_rfl
theorem recordTrue_k29 : ((Rows.recordTrueRow.kinds == (if Rows.recordTrueRow.domain.isEmpty then [] else Tryz.f7.params.toList.map fun t => match Tryz.prog.underlying t with | some (.int k) => some k | _ => none))) = true := by kernel_rfl
theorem recordTrue_k30 : ((Rows.recordTrueRow.pinned == Rows.recordTrueRow.pinnedBy)) = true := by kernel_rfl
theorem recordTrue_k31 : ((Rows.recordTrueRow.veiled == (Tryz.f7.params.toList ++ Rows.recordTrueSpec.plain.varTypes Tryz.prog ++ Tryz.f7.resultTypes.toList).any (Tryz.prog.veiledRec ·))) = true := by kernel_rfl
theorem recordTrue_k32 : (Rows.recordTrueRow.veiledFits Tryz.prog Tryz.f7.params.toList (Tryz.f7.params.toList ++ Rows.recordTrueSpec.plain.varTypes Tryz.prog ++ Tryz.f7.resultTypes.toList)) = true := by kernel_rfl
theorem recordTrue_closed : joinedFacts Tryz.prog 7 Tryz.f7 Rows.recordTrueSpec Rows.recordTrueRow = true := (bd_ (bd_ (bd_ (bd_ (bd_ (bd_ (bd_ (bd_ (bd_ (bd_ (bd_ (bd_ (bd_ (bd_ (bd_ (bd_ (bd_ (bd_ (bd_ (bd_ (bd_ (bd_ (bd_ (bd_ (bd_ (bd_ (bd_ (bd_ (bd_ (bd_ (bd_ recordTrue_k1 Ji3) Jiv) recordTrue_k4) recordTrue_k5) recordTrue_k6) Ji9) recordTrue_k8) Ji4) recordTrue_k10) recordTrue_k11) recordTrue_k12) recordTrue_k13) recordTrue_k14) recordTrue_k15) recordTrue_k16) recordTrue_k17) recordTrue_k18) recordTrue_k19) recordTrue_k20) recordTrue_k21) recordTrue_k22) Jg4) recordTrue_k24) Jha) Jg6) Jgy) Jgv) recordTrue_k29) recordTrue_k30) recordTrue_k31) recordTrue_k32)
set_option maxHeartbeats 2000000 in
theorem recordTrue_lifted (os : Os) (started : os.Started) (H : Type) (enc : TypeId × Value → H) :
  ReturnsInHanded {} Tryz.checked os 7 .any (fun w args => (Rows.recordTrueSpec.pre enc Tryz.prog Tryz.f7 Rows.recordTrueRow.domain Rows.recordTrueRow.apart w args ∧ laidMetH Tryz.prog [("padlock/room.reserved", Rows.laid_padlock_room_reserved)] w) ∧ sizedMet enc Tryz.prog Tryz.f7 (OpenSpec.ofChange Rows.recordTrueSpec) Rows.recordTrueRow.apart w args)
   (Rows.recordTrueSpec.post enc Tryz.prog Tryz.f7 Rows.recordTrueRow.apart Rows.recordTrueRow.fresh Rows.recordTrueRow.handsOn Rows.recordTrueRow.again) := by
 refine returnsInHanded_of_change_and (C := Tryz.checked) (X := fun w _ => laidMetH Tryz.prog [("padlock/room.reserved", Rows.laid_padlock_room_reserved)] w) (fun _ _ _ hh h => h.of_heap hh) own started (by kernel_rfl) Tryz.func7
  (ChangeSpec.witness_shaped (enc := enc) (C := Tryz.checked) (X := fun w _ => laidMetH Tryz.prog [("padlock/room.reserved", Rows.laid_padlock_room_reserved)] w) false (World.laidAll Tryz.prog os [("padlock/room.reserved", Rows.laid_padlock_room_reserved)]) #[.agg #[.slice none 0 0, .slice none 0 0, .slice none 0 0, .slice none 0 0, .slice none 0 0, .slice none 0 0, .int .i64 0, .slice none 0 0, .slice none 0 0, .slice none 0 0, .slice none 0 0, .int .i64 0], .slice none 0 0] 8 (World.laidAll_os _ _ _) (World.shaped_of_ZipB (by kernel_rfl) (by kernel_rfl)) (by kernel_rfl) (by kernel_rfl) (by kernel_rfl)
   (by rw [MakeChecks.laidMetH_plain _ _ _ (by kernel_rfl)]; exact laidMet_laidAll _ (by kernel_rfl) (by kernel_rfl))) ?_
 intro W base args ds gs before hval0 hW _ _ hL _
 have hval : ∀ (j : Nat) t v, Tryz.f7.params[j]? = some t → args[j]? = some v → Value.okWide Tryz.prog W .any base t v := hval0
 have hW' := hW
 obtain ⟨p, q, hA0, hV, rfl, hfz, hnd⟩ := hW
 have hA : DataW.TrodAll enc Tryz.prog W 0 (fun _ => true) true Tryz.f7.params.toList args.toList ds p := hA0
 rw [Tryz.params7] at hA hval
 obtain ⟨v0, v1, d0, d1, p0, p1, rfl, rfl, rfl, h0, h1⟩ := trodAll_two hA
 obtain ⟨rfl, rfl⟩ := trodVars_none hV
 obtain ⟨g, hG⟩ := Jdt hL
 obtain ⟨⟨c0⟩, rfl, _⟩ := okWide_struct Tryz.underlying36 (hval 0 36 v0 rfl rfl)
 obtain ⟨_, k0⟩ := h0
 obtain ⟨x0, e0, r0⟩ := Jix k0
 change c0 = _ at e0
 subst e0
 obtain ⟨_, _, _, rfl⟩ := okWide_slice Tryz.underlying37 (hval 1 37 v1 rfl rfl)
 obtain ⟨_, k1⟩ := h1
 obtain ⟨x1, e1, r1⟩ := (Ja1 Tryz.underlying37 (by kernel_rfl) (by decide) Jto) _ _ _ k1
 rw [show Value.slice _ _ _ = x1.v from (List.cons.inj e1).1] at hW' ⊢
 refine Calls.mono (Jou x0 W r0 g hG x1 r1) ?_
 rintro e W' ⟨rfl, hb⟩
 exact ⟨_, rfl, Jg5 laidOut (by kernel_rfl) rfl Tryz.underlying4 hW' rfl hb rfl rfl rfl⟩
theorem recordTrue_holds : Rows.RecordTrueSaid :=
 OpenClaim.holds_of_wide 7 Tryz.f7 rfl rfl rfl rfl rfl rfl rfl ⟨rfl, rfl, rfl, rfl, rfl⟩ rfl rfl rfl rfl rfl (by kernel_rfl) Tryz.func7 recordTrue_closed
  (of_decide_eq_true (by kernel_rfl)) (by unfold Func.isWrapper; first | (rw [if_pos (by decide +kernel)]; kernel_rfl) | (rw [if_neg (by decide +kernel)]; exact ⟨rfl, rfl⟩))
  (fun os started H enc _ => recordTrue_lifted os started H enc)
theorem recordTrue_card : Rows.RecordTrueCardSaid :=
 Claim7.holds_tied_plain_at .later [] [.widerDeep] true (true, "6ba0bab29e1409fa1284d55df0d0845f7bff8f93e6b5e797eca9a17f1bbe3c90") false recordTrue_holds (fun _ h => by cases h) (by kernel_rfl) (fun _ h => by cases h) recordTrue_row_tie rfl ⟨rfl, rfl⟩ (by kernel_rfl) rfl
  (fun f fn hf hfn => by
   obtain rfl : f = 7 := Option.some.inj ((show Tryz.prog.funcNamed "padlock/padlocklaw12.RecordTrue" = some 7 by kernel_rfl).symm.trans hf) |>.symm
   obtain rfl : fn = Tryz.f7 := (Option.some.inj (Tryz.func7.symm.trans hfn)).symm
   exact ⟨by kernel_rfl, fun j t ht => by
    rw [Tryz.params7] at ht
    have hm : t ∈ [36, 37] := by simpa using Array.mem_of_getElem? ht
    have hall : ([36, 37].all fun u => !Tryz.prog.wantsStandIn u) = true := by kernel_rfl
    exact (show Tryz.prog.wantsStandIn t = false by simpa using List.all_eq_true.1 hall t hm)⟩)
  (by kernel_rfl)
end Go.Proofs.YtohneogdekdboaaGreatDoor
