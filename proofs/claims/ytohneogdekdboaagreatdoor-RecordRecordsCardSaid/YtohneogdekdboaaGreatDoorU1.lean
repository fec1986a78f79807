/- The tied card of the law RecordRecords: whatever the input, it returns true and the input reads as it did. Condition: the package variable room.reserved starts as the program's text lays it (tied). -/
import Derived.Test.YtohneogdekdboaaGreatDoorJ1
import Derived.Test.YtohneogdekdboaaGreatDoorZx
import Derived.Test.YtohneogdekdboaaGreatDoorZy
import Derived.Test.YtohneogdekdboaaGreatDoorTie
import Derived.Test.YtohneogdekdboaaGreatDoorCards
import Derived.Test.YtohneogdekdboaaGreatDoorY0
import Derived.Test.YtohneogdekdboaaGreatDoorY1
import Derived.Test.YtohneogdekdboaaGreatDoorY5
import Derived.Test.YtohneogdekdboaaGreatDoorY10
import Derived.Test.YtohneogdekdboaaGreatDoorY11
set_option maxHeartbeats 8000000
namespace Go.Proofs.YtohneogdekdboaaGreatDoor
open Go.ChangeShapes Go.WideShapes Go.ChangeAt Go.RowKit Go.Proofs Go.Joins
set_option maxRecDepth 100000
set_option linter.unusedVariables false
set_option linter.unusedSimpArgs false
theorem own : ownKnob Tryz.prog.godebug = none := by kernel_rfl
theorem laidOut : laidOutB Tryz.prog = true := by kernel_rfl
theorem recordRecords_k1 : (Rows.recordRecordsRow.wf (OpenSpec.ofChange Rows.recordRecordsSpec)) = true := by kernel_rfl
theorem recordRecords_k4 : (Tryz.f3.params.all (Tryz.prog.readableRec ·)) = true := by kernel_rfl
theorem recordRecords_k5 : (namedTie Tryz.prog Rows.recordRecordsRow.named Rows.recordRecordsSpec.vars) = true := by kernel_rfl
theorem recordRecords_k6 : ((Rows.recordRecordsRow.stops == [])) = true := by kernel_rfl
theorem recordRecords_k8 : ((Rows.recordRecordsRow.knobs == [])) = true := by kernel_rfl
theorem recordRecords_k10 : ((Rows.recordRecordsRow.inPlace == Tryz.prog.inPlace 3)) = true := by kernel_rfl
theorem recordRecords_k11 : ((Rows.recordRecordsRow.unfollowed == Tryz.prog.unfollowed 3)) = true := by kernel_rfl
theorem recordRecords_k12 : ((Rows.recordRecordsRow.recurses == Tryz.prog.recurses 3)) = true := by kernel_rfl
theorem recordRecords_k13 : ((Rows.recordRecordsRow.named == Tryz.prog.varsNamed 3)) = true := by kernel_rfl
theorem recordRecords_k14 : ((Rows.recordRecordsRow.maps == (Tryz.f3.params.toList ++ Rows.recordRecordsSpec.plain.varTypes Tryz.prog).any (Tryz.prog.mapsRec ·))) = true := by kernel_rfl
theorem recordRecords_k15 : ((Rows.recordRecordsRow.ifaces == (Tryz.f3.params.toList ++ Rows.recordRecordsSpec.plain.varTypes Tryz.prog).any (Tryz.prog.ifacesRec ·))) = true := by kernel_rfl
theorem recordRecords_k16 : ((Rows.recordRecordsRow.mapsOut == Tryz.prog.mapsAmong Tryz.f3.resultTypes.toList)) = true := by kernel_rfl
theorem recordRecords_k17 : ((Rows.recordRecordsRow.loops == (Tryz.f3.params.toList ++ Rows.recordRecordsSpec.plain.varTypes Tryz.prog).any (Tryz.prog.loopsFrom ·))) = true := by kernel_rfl
theorem recordRecords_k18 : ((Rows.recordRecordsRow.wideKeys == (Tryz.f3.params.toList ++ Rows.recordRecordsSpec.plain.varTypes Tryz.prog ++ Tryz.f3.resultTypes.toList).any (Tryz.prog.wideKeysFrom ·))) = true := by kernel_rfl
theorem recordRecords_k19 : (Rows.recordRecordsSpec.vars.all (Tryz.prog.varReadable ·)) = true := by kernel_rfl
theorem recordRecords_k20 : (Tryz.f3.resultTypes.all (fun t => Tryz.prog.readableRec t && decide (t < Tryz.prog.types.size))) = true := by kernel_rfl
theorem recordRecords_k21 : ((Rows.recordRecordsRow.ifacesOut == Tryz.f3.resultTypes.toList.any (Tryz.prog.ifacesRec ·))) = true := by kernel_rfl
theorem recordRecords_k22 : ((Rows.recordRecordsRow.loopsOut == Tryz.f3.resultTypes.toList.any (Tryz.prog.loopsFrom ·))) = true := by kernel_rfl
theorem recordRecords_k24 : (Rows.recordRecordsRow.shortTexts.isNone) = true := by kernel_rfl
theorem recordRecords_k29 : ((Rows.recordRecordsRow.kinds == (if Rows.recordRecordsRow.domain.isEmpty then [] else Tryz.f3.params.toList.map fun t => match Tryz.prog.underlying t with | some (.int k) => some k | _ => none))) = true := by kernel_rfl
theorem recordRecords_k30 : ((Rows.recordRecordsRow.pinned == Rows.recordRecordsRow.pinnedBy)) = true := by kernel_rfl
theorem recordRecords_k31 : ((Rows.recordRecordsRow.veiled == (Tryz.f3.params.toList ++ Rows.recordRecordsSpec.plain.varTypes Tryz.prog ++ Tryz.f3.resultTypes.toList).any (Tryz.prog.veiledRec ·))) = true := by kernel_rfl
theorem recordRecords_k32 : (Rows.recordRecordsRow.veiledFits Tryz.prog Tryz.f3.params.toList (Tryz.f3.params.toList ++ Rows.recordRecordsSpec.plain.varTypes Tryz.prog ++ Tryz.f3.resultTypes.toList)) = true := by kernel_rfl
theorem recordRecords_closed : joinedFacts Tryz.prog 3 Tryz.f3 Rows.recordRecordsSpec Rows.recordRecordsRow = true := (bd_ (bd_ (bd_ (bd_ (bd_ (bd_ (bd_ (bd_ (bd_ (bd_ (bd_ (bd_ (bd_ (bd_ (bd_ (bd_ (bd_ (bd_ (bd_ (bd_ (bd_ (bd_ (bd_ (bd_ (bd_ (bd_ (bd_ (bd_ (bd_ (bd_ (bd_ recordRecords_k1 Ji3) Jiv) recordRecords_k4) recordRecords_k5) recordRecords_k6) Ji9) recordRecords_k8) Ji4) recordRecords_k10) recordRecords_k11) recordRecords_k12) recordRecords_k13) recordRecords_k14) recordRecords_k15) recordRecords_k16) recordRecords_k17) recordRecords_k18) recordRecords_k19) recordRecords_k20) recordRecords_k21) recordRecords_k22) Jg4) recordRecords_k24) Jha) Jg6) Jgy) Jgv) recordRecords_k29) recordRecords_k30) recordRecords_k31) recordRecords_k32)
set_option maxHeartbeats 2000000 in
theorem recordRecords_lifted (os : Os) (started : os.Started) (H : Type) (enc : TypeId × Value → H) :
  ReturnsInHanded {} Tryz.checked os 3 .any (fun w args => (Rows.recordRecordsSpec.pre enc Tryz.prog Tryz.f3 Rows.recordRecordsRow.domain Rows.recordRecordsRow.apart w args ∧ laidMetH Tryz.prog [("padlock/room.reserved", Rows.laid_padlock_room_reserved)] w) ∧ sizedMet enc Tryz.prog Tryz.f3 (OpenSpec.ofChange Rows.recordRecordsSpec) Rows.recordRecordsRow.apart w args)
   (Rows.recordRecordsSpec.post enc Tryz.prog Tryz.f3 Rows.recordRecordsRow.apart Rows.recordRecordsRow.fresh Rows.recordRecordsRow.handsOn Rows.recordRecordsRow.again) := by
 refine returnsInHanded_of_change_and (C := Tryz.checked) (X := fun w _ => laidMetH Tryz.prog [("padlock/room.reserved", Rows.laid_padlock_room_reserved)] w) (fun _ _ _ hh h => h.of_heap hh) own started (by kernel_rfl) Tryz.func3
  (ChangeSpec.witness_shaped (enc := enc) (C := Tryz.checked) (X := fun w _ => laidMetH Tryz.prog [("padlock/room.reserved", Rows.laid_padlock_room_reserved)] w) false (World.laidAll Tryz.prog os [("padlock/room.reserved", Rows.laid_padlock_room_reserved)]) #[.agg #[.slice none 0 0, .slice none 0 0, .slice none 0 0, .slice none 0 0, .slice none 0 0, .slice none 0 0, .int .i64 0, .slice none 0 0, .slice none 0 0, .slice none 0 0, .slice none 0 0, .int .i64 0], .slice none 0 0] 8 (World.laidAll_os _ _ _) (World.shaped_of_ZipB (by kernel_rfl) (by kernel_rfl)) (by kernel_rfl) (by kernel_rfl) (by kernel_rfl)
   (by rw [MakeChecks.laidMetH_plain _ _ _ (by kernel_rfl)]; exact laidMet_laidAll _ (by kernel_rfl) (by kernel_rfl))) ?_
 intro W base args ds gs before hval0 hW _ _ hL _
 have hval : ∀ (j : Nat) t v, Tryz.f3.params[j]? = some t → args[j]? = some v → Value.okWide Tryz.prog W .any base t v := hval0
 have hW' := hW
 obtain ⟨p, q, hA0, hV, rfl, hfz, hnd⟩ := hW
 have hA : DataW.TrodAll enc Tryz.prog W 0 (fun _ => true) true Tryz.f3.params.toList args.toList ds p := hA0
 rw [Tryz.params3] at hA hval
 obtain ⟨v0, v1, d0, d1, p0, p1, rfl, rfl, rfl, h0, h1⟩ := trodAll_two hA
 obtain ⟨rfl, rfl⟩ := trodVars_none hV
 obtain ⟨g, hG⟩ := Jdt hL
 obtain ⟨⟨c0⟩, rfl, _⟩ := okWide_struct Tryz.underlying36 (hval 0 36 v0 rfl rfl)
 obtain ⟨_, k0⟩ := h0
 obtain ⟨x0, e0, r0⟩ := Jix k0
 change c0 = _ at e0
 subst e0
 obtain ⟨_, _, _, rfl⟩ := okWide_slice Tryz.underlying37 (hval 1 37 v1 rfl rfl)
 obtain ⟨_, k1⟩ := h1
 obtain ⟨x1, e1, r1⟩ := (Ja1 Tryz.underlying37 (by kernel_rfl) (by decide) Jto) _ _ _ k1
 rw [show Value.slice _ _ _ = x1.v from (List.cons.inj e1).1] at hW' ⊢
 refine Calls.mono (Jlp x0 W r0 g hG x1 r1) ?_
 rintro e W' ⟨rfl, hb⟩
 exact ⟨_, rfl, Jg5 laidOut (by kernel_rfl) rfl Tryz.underlying4 hW' rfl hb rfl rfl rfl⟩
theorem recordRecords_holds : Rows.RecordRecordsSaid :=
 OpenClaim.holds_of_wide 3 Tryz.f3 rfl rfl rfl rfl rfl rfl rfl ⟨rfl, rfl, rfl, rfl, rfl⟩ rfl rfl rfl rfl rfl (by kernel_rfl) Tryz.func3 recordRecords_closed
  (of_decide_eq_true (by kernel_rfl)) (by unfold Func.isWrapper; first | (rw [if_pos (by decide +kernel)]; kernel_rfl) | (rw [if_neg (by decide +kernel)]; exact ⟨rfl, rfl⟩))
  (fun os started H enc _ => recordRecords_lifted os started H enc)
theorem recordRecords_card : Rows.RecordRecordsCardSaid :=
 Claim7.holds_tied_plain_at .later [] [.widerDeep] true (true, "6ba0bab29e1409fa1284d55df0d0845f7bff8f93e6b5e797eca9a17f1bbe3c90") false recordRecords_holds (fun _ h => by cases h) (by kernel_rfl) (fun _ h => by cases h) recordRecords_row_tie rfl ⟨rfl, rfl⟩ (by kernel_rfl) rfl
  (fun f fn hf hfn => by
   obtain rfl : f = 3 := Option.some.inj ((show Tryz.prog.funcNamed "padlock/padlocklaw12.RecordRecords" = some 3 by kernel_rfl).symm.trans hf) |>.symm
   obtain rfl : fn = Tryz.f3 := (Option.some.inj (Tryz.func3.symm.trans hfn)).symm
   exact ⟨by kernel_rfl, fun j t ht => by
    rw [Tryz.params3] at ht
    have hm : t ∈ [36, 37] := by simpa using Array.mem_of_getElem? ht
    have hall : ([36, 37].all fun u => !Tryz.prog.wantsStandIn u) = true := by kernel_rfl
    exact (show Tryz.prog.wantsStandIn t = false by simpa using List.all_eq_true.1 hall t hm)⟩)
  (by kernel_rfl)
end Go.Proofs.YtohneogdekdboaaGreatDoor
