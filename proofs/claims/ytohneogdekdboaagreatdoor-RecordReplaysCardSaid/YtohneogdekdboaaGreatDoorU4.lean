/- The tied card of the law RecordReplays: whatever the input, it returns true and the input reads as it did. Condition: the package variable room.reserved starts as the program's text lays it (tied). -/
import Derived.Test.YtohneogdekdboaaGreatDoorJ4
import Derived.Test.YtohneogdekdboaaGreatDoorZx
import Derived.Test.YtohneogdekdboaaGreatDoorZy
import Derived.Test.YtohneogdekdboaaGreatDoorTie
import Derived.Test.YtohneogdekdboaaGreatDoorCards
import Derived.Test.YtohneogdekdboaaGreatDoorY0
import Derived.Test.YtohneogdekdboaaGreatDoorY1
import Derived.Test.YtohneogdekdboaaGreatDoorY2
import Derived.Test.YtohneogdekdboaaGreatDoorY3
import Derived.Test.YtohneogdekdboaaGreatDoorY4
import Derived.Test.YtohneogdekdboaaGreatDoorY6
import Derived.Test.YtohneogdekdboaaGreatDoorY7
import Derived.Test.YtohneogdekdboaaGreatDoorY8
import Derived.Test.YtohneogdekdboaaGreatDoorY10
import Derived.Test.YtohneogdekdboaaGreatDoorY12
import Derived.Test.YtohneogdekdboaaGreatDoorY13
import Derived.Test.YtohneogdekdboaaGreatDoorY16
set_option maxHeartbeats 8000000
namespace Go.Proofs.YtohneogdekdboaaGreatDoor
open Go.ChangeShapes Go.WideShapes Go.ChangeAt Go.RowKit Go.Proofs Go.Joins
set_option maxRecDepth 100000
set_option linter.unusedVariables false
set_option linter.unusedSimpArgs false
theorem own : ownKnob Tryz.prog.godebug = none := by kernel_rfl
theorem laidOut : laidOutB Tryz.prog = true := by kernel_rfl
theorem recordReplays_k1 : (Rows.recordReplaysRow.wf (OpenSpec.ofChange Rows.recordReplaysSpec)) = true := by kernel_rfl
theorem recordReplays_k4 : (Tryz.f6.params.all (Tryz.prog.readableRec ·)) = true := by kernel_rfl
theorem recordReplays_k5 : (namedTie Tryz.prog Rows.recordReplaysRow.named Rows.recordReplaysSpec.vars) = true := by kernel_rfl
theorem recordReplays_k6 : ((Rows.recordReplaysRow.stops == [])) = true := by kernel_rfl
theorem recordReplays_k8 : ((Rows.recordReplaysRow.knobs == [])) = true := by kernel_rfl
theorem recordReplays_k10 : ((Rows.recordReplaysRow.inPlace == Tryz.prog.inPlace 6)) = true := by kernel_rfl
theorem recordReplays_k11 : ((Rows.recordReplaysRow.unfollowed == Tryz.prog.unfollowed 6)) = true := by kernel_rfl
theorem recordReplays_k12 : ((Rows.recordReplaysRow.recurses == Tryz.prog.recurses 6)) = true := by kernel_rfl
theorem recordReplays_k13 : ((Rows.recordReplaysRow.named == Tryz.prog.varsNamed 6)) = true := by kernel_rfl
theorem recordReplays_k14 : ((Rows.recordReplaysRow.maps == (Tryz.f6.params.toList ++ Rows.recordReplaysSpec.plain.varTypes Tryz.prog).any (Tryz.prog.mapsRec ·))) = true := by kernel_rfl
theorem recordReplays_k15 : ((Rows.recordReplaysRow.ifaces == (Tryz.f6.params.toList ++ Rows.recordReplaysSpec.plain.varTypes Tryz.prog).any (Tryz.prog.ifacesRec ·))) = true := by kernel_rfl
theorem recordReplays_k16 : ((Rows.recordReplaysRow.mapsOut == Tryz.prog.mapsAmong Tryz.f6.resultTypes.toList)) = true := by kernel_rfl
theorem recordReplays_k17 : ((Rows.recordReplaysRow.loops == (Tryz.f6.params.toList ++ Rows.recordReplaysSpec.plain.varTypes Tryz.prog).any (Tryz.prog.loopsFrom ·))) = true := by kernel_rfl
theorem recordReplays_k18 : ((Rows.recordReplaysRow.wideKeys == (Tryz.f6.params.toList ++ Rows.recordReplaysSpec.plain.varTypes Tryz.prog ++ Tryz.f6.resultTypes.toList).any (Tryz.prog.wideKeysFrom ·))) = true := by kernel_rfl
theorem recordReplays_k19 : (Rows.recordReplaysSpec.vars.all (Tryz.prog.varReadable ·)) = true := by kernel_rfl
theorem recordReplays_k20 : (Tryz.f6.resultTypes.all (fun t => Tryz.prog.readableRec t && decide (t < Tryz.prog.types.size))) = true := by kernel_rfl
theorem recordReplays_k21 : ((Rows.recordReplaysRow.ifacesOut == Tryz.f6.resultTypes.toList.any (Tryz.prog.ifacesRec ·))) = true := by kernel_rfl
theorem recordReplays_k22 : ((Rows.recordReplaysRow.loopsOut == Tryz.f6.resultTypes.toList.any (Tryz.prog.loopsFrom ·))) = true := by kernel_rfl
theorem recordReplays_k24 : (Rows.recordReplaysRow.shortTexts.isNone) = true := by kernel_rfl
theorem recordReplays_k29 : ((Rows.recordReplaysRow.kinds == (if Rows.recordReplaysRow.domain.isEmpty then [] else Tryz.f6.params.toList.map fun t => match Tryz.prog.underlying t with | some (.int k) => some k | _ => none))) = true := by kernel_rfl
theorem recordReplays_k30 : ((Rows.recordReplaysRow.pinned == Rows.recordReplaysRow.pinnedBy)) = true := by kernel_rfl
theorem recordReplays_k31 : ((Rows.recordReplaysRow.veiled == (Tryz.f6.params.toList ++ Rows.recordReplaysSpec.plain.varTypes Tryz.prog ++ Tryz.f6.resultTypes.toList).any (Tryz.prog.veiledRec ·))) = true := by kernel_rfl
theorem recordReplays_k32 : (Rows.recordReplaysRow.veiledFits Tryz.prog Tryz.f6.params.toList (Tryz.f6.params.toList ++ Rows.recordReplaysSpec.plain.varTypes Tryz.prog ++ Tryz.f6.resultTypes.toList)) = true := by kernel_rfl
theorem recordReplays_closed : joinedFacts Tryz.prog 6 Tryz.f6 Rows.recordReplaysSpec Rows.recordReplaysRow = true := (bd_ (bd_ (bd_ (bd_ (bd_ (bd_ (bd_ (bd_ (bd_ (bd_ (bd_ (bd_ (bd_ (bd_ (bd_ (bd_ (bd_ (bd_ (bd_ (bd_ (bd_ (bd_ (bd_ (bd_ (bd_ (bd_ (bd_ (bd_ (bd_ (bd_ (bd_ recordReplays_k1 Ji3) Jiv) recordReplays_k4) recordReplays_k5) recordReplays_k6) Ji9) recordReplays_k8) Ji4) recordReplays_k10) recordReplays_k11) recordReplays_k12) recordReplays_k13) recordReplays_k14) recordReplays_k15) recordReplays_k16) recordReplays_k17) recordReplays_k18) recordReplays_k19) recordReplays_k20) recordReplays_k21) recordReplays_k22) Jg4) recordReplays_k24) Jha) Jg6) Jgy) Jgv) recordReplays_k29) recordReplays_k30) recordReplays_k31) recordReplays_k32)
set_option maxHeartbeats 2000000 in
theorem recordReplays_lifted (os : Os) (started : os.Started) (H : Type) (enc : TypeId × Value → H) :
  ReturnsInHanded {} Tryz.checked os 6 .any (fun w args => (Rows.recordReplaysSpec.pre enc Tryz.prog Tryz.f6 Rows.recordReplaysRow.domain Rows.recordReplaysRow.apart w args ∧ laidMetH Tryz.prog [("padlock/room.reserved", Rows.laid_padlock_room_reserved)] w) ∧ sizedMet enc Tryz.prog Tryz.f6 (OpenSpec.ofChange Rows.recordReplaysSpec) Rows.recordReplaysRow.apart w args)
   (Rows.recordReplaysSpec.post enc Tryz.prog Tryz.f6 Rows.recordReplaysRow.apart Rows.recordReplaysRow.fresh Rows.recordReplaysRow.handsOn Rows.recordReplaysRow.again) := by
 refine returnsInHanded_of_change_and (C := Tryz.checked) (X := fun w _ => laidMetH Tryz.prog [("padlock/room.reserved", Rows.laid_padlock_room_reserved)] w) (fun _ _ _ hh h => h.of_heap hh) own started (by kernel_rfl) Tryz.func6
  (ChangeSpec.witness_shaped (enc := enc) (C := Tryz.checked) (X := fun w _ => laidMetH Tryz.prog [("padlock/room.reserved", Rows.laid_padlock_room_reserved)] w) false (World.laidAll Tryz.prog os [("padlock/room.reserved", Rows.laid_padlock_room_reserved)]) #[.agg #[.slice none 0 0, .slice none 0 0, .slice none 0 0, .slice none 0 0, .slice none 0 0, .slice none 0 0, .int .i64 0, .slice none 0 0, .slice none 0 0, .slice none 0 0, .slice none 0 0, .int .i64 0], .slice none 0 0] 8 (World.laidAll_os _ _ _) (World.shaped_of_ZipB (by kernel_rfl) (by kernel_rfl)) (by kernel_rfl) (by kernel_rfl) (by kernel_rfl)
   (by rw [MakeChecks.laidMetH_plain _ _ _ (by kernel_rfl)]; exact laidMet_laidAll _ (by kernel_rfl) (by kernel_rfl))) ?_
 intro W base args ds gs before hval0 hW _ _ hL _
 have hval : ∀ (j : Nat) t v, Tryz.f6.params[j]? = some t → args[j]? = some v → Value.okWide Tryz.prog W .any base t v := hval0
 have hW' := hW
 obtain ⟨p, q, hA0, hV, rfl, hfz, hnd⟩ := hW
 have hA : DataW.TrodAll enc Tryz.prog W 0 (fun _ => true) true Tryz.f6.params.toList args.toList ds p := hA0
 rw [Tryz.params6] at hA hval
 obtain ⟨v0, v1, d0, d1, p0, p1, rfl, rfl, rfl, h0, h1⟩ := trodAll_two hA
 obtain ⟨rfl, rfl⟩ := trodVars_none hV
 obtain ⟨g, hG⟩ := Jdt hL
 obtain ⟨⟨c0⟩, rfl, _⟩ := okWide_struct Tryz.underlying36 (hval 0 36 v0 rfl rfl)
 obtain ⟨_, k0⟩ := h0
 obtain ⟨x0, e0, r0⟩ := Jix k0
 change c0 = _ at e0
 subst e0
 obtain ⟨_, _, _, rfl⟩ := okWide_slice Tryz.underlying40 (hval 1 40 v1 rfl rfl)
 obtain ⟨_, k1⟩ := h1
 obtain ⟨x1, e1, r1⟩ := (Ja1 Tryz.underlying40 (by kernel_rfl) (by decide) Jjw) _ _ _ k1
 rw [show Value.slice _ _ _ = x1.v from (List.cons.inj e1).1] at hW' ⊢
 refine Calls.mono (Jkx x0 W r0 g hG x1 r1) ?_
 rintro e W' ⟨rfl, hb⟩
 exact ⟨_, rfl, Jg5 laidOut (by kernel_rfl) rfl Tryz.underlying4 hW' rfl hb rfl rfl rfl⟩
theorem recordReplays_holds : Rows.RecordReplaysSaid :=
 OpenClaim.holds_of_wide 6 Tryz.f6 rfl rfl rfl rfl rfl rfl rfl ⟨rfl, rfl, rfl, rfl, rfl⟩ rfl rfl rfl rfl rfl (by kernel_rfl) Tryz.func6 recordReplays_closed
  (of_decide_eq_true (by kernel_rfl)) (by unfold Func.isWrapper; first | (rw [if_pos (by decide +kernel)]; kernel_rfl) | (rw [if_neg (by decide +kernel)]; exact ⟨rfl, rfl⟩))
  (fun os started H enc _ => recordReplays_lifted os started H enc)
theorem recordReplays_card : Rows.RecordReplaysCardSaid :=
 Claim7.holds_tied_plain_at .later [] [.widerDeep] true (true, "6ba0bab29e1409fa1284d55df0d0845f7bff8f93e6b5e797eca9a17f1bbe3c90") false recordReplays_holds (fun _ h => by cases h) (by kernel_rfl) (fun _ h => by cases h) recordReplays_row_tie rfl ⟨rfl, rfl⟩ (by kernel_rfl) rfl
  (fun f fn hf hfn => by
   obtain rfl : f = 6 := Option.some.inj ((show Tryz.prog.funcNamed "padlock/padlocklaw12.RecordReplays" = some 6 by kernel_rfl).symm.trans hf) |>.symm
   obtain rfl : fn = Tryz.f6 := (Option.some.inj (Tryz.func6.symm.trans hfn)).symm
   exact ⟨by kernel_rfl, fun j t ht => by
    rw [Tryz.params6] at ht
    have hm : t ∈ [36, 40] := by simpa using Array.mem_of_getElem? ht
    have hall : ([36, 40].all fun u => !Tryz.prog.wantsStandIn u) = true := by kernel_rfl
    exact (show Tryz.prog.wantsStandIn t = false by simpa using List.all_eq_true.1 hall t hm)⟩)
  (by kernel_rfl)
end Go.Proofs.YtohneogdekdboaaGreatDoor
