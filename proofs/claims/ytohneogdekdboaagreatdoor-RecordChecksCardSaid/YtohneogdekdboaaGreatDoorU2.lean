/- The tied card of the law RecordChecks: whatever the input, it returns true and the input reads as it did. Condition: the package variable room.reserved starts as the program's text lays it (tied). -/
import Derived.Test.YtohneogdekdboaaGreatDoorJ2
import Derived.Test.YtohneogdekdboaaGreatDoorZx
import Derived.Test.YtohneogdekdboaaGreatDoorZy
import Derived.Test.YtohneogdekdboaaGreatDoorTie
import Derived.Test.YtohneogdekdboaaGreatDoorCards
import Derived.Test.YtohneogdekdboaaGreatDoorY0
import Derived.Test.YtohneogdekdboaaGreatDoorY1
import Derived.Test.YtohneogdekdboaaGreatDoorY2
import Derived.Test.YtohneogdekdboaaGreatDoorY3
import Derived.Test.YtohneogdekdboaaGreatDoorY5
import Derived.Test.YtohneogdekdboaaGreatDoorY6
import Derived.Test.YtohneogdekdboaaGreatDoorY8
import Derived.Test.YtohneogdekdboaaGreatDoorY9
import Derived.Test.YtohneogdekdboaaGreatDoorY15
set_option maxHeartbeats 8000000
namespace Go.Proofs.YtohneogdekdboaaGreatDoor
open Go.ChangeShapes Go.WideShapes Go.ChangeAt Go.RowKit Go.Proofs Go.Joins
set_option maxRecDepth 100000
set_option linter.unusedVariables false
set_option linter.unusedSimpArgs false
theorem own : ownKnob Tryz.prog.godebug = none := by kernel_rfl
theorem laidOut : laidOutB Tryz.prog = true := by kernel_rfl
theorem recordChecks_k1 : (Rows.recordChecksRow.wf (OpenSpec.ofChange Rows.recordChecksSpec)) = true := by kernel_rfl
theorem recordChecks_k4 : (Tryz.f4.params.all (Tryz.prog.readableRec ·)) = true := by kernel_rfl
theorem recordChecks_k5 : (namedTie Tryz.prog Rows.recordChecksRow.named Rows.recordChecksSpec.vars) = true := by kernel_rfl
theorem recordChecks_k6 : ((Rows.recordChecksRow.stops == [])) = true := by kernel_rfl
theorem recordChecks_k8 : ((Rows.recordChecksRow.knobs == [])) = true := by kernel_rfl
theorem recordChecks_k10 : ((Rows.recordChecksRow.inPlace == Tryz.prog.inPlace 4)) = true := by kernel_rfl
theorem recordChecks_k11 : ((Rows.recordChecksRow.unfollowed == Tryz.prog.unfollowed 4)) = true := by kernel_rfl
theorem recordChecks_k12 : ((Rows.recordChecksRow.recurses == Tryz.prog.recurses 4)) = true := by kernel_rfl
theorem recordChecks_k13 : ((Rows.recordChecksRow.named == Tryz.prog.varsNamed 4)) = true := by kernel_rfl
theorem recordChecks_k14 : ((Rows.recordChecksRow.maps == (Tryz.f4.params.toList ++ Rows.recordChecksSpec.plain.varTypes Tryz.prog).any (Tryz.prog.mapsRec ·))) = true := by kernel_rfl
theorem recordChecks_k15 : ((Rows.recordChecksRow.ifaces == (Tryz.f4.params.toList ++ Rows.recordChecksSpec.plain.varTypes Tryz.prog).any (Tryz.prog.ifacesRec ·))) = true := by kernel_rfl
theorem recordChecks_k16 : ((Rows.recordChecksRow.mapsOut == Tryz.prog.mapsAmong Tryz.f4.resultTypes.toList)) = true := by kernel_rfl
theorem recordChecks_k17 : ((Rows.recordChecksRow.loops == (Tryz.f4.params.toList ++ Rows.recordChecksSpec.plain.varTypes Tryz.prog).any (Tryz.prog.loopsFrom ·))) = true := by kernel_rfl
theorem recordChecks_k18 : ((Rows.recordChecksRow.wideKeys == (Tryz.f4.params.toList ++ Rows.recordChecksSpec.plain.varTypes Tryz.prog ++ Tryz.f4.resultTypes.toList).any (Tryz.prog.wideKeysFrom ·))) = true := by kernel_rfl
theorem recordChecks_k19 : (Rows.recordChecksSpec.vars.all (Tryz.prog.varReadable ·)) = true := by kernel_rfl
theorem recordChecks_k20 : (Tryz.f4.resultTypes.all (fun t => Tryz.prog.readableRec t && decide (t < Tryz.prog.types.size))) = true := by kernel_rfl
theorem recordChecks_k21 : ((Rows.recordChecksRow.ifacesOut == Tryz.f4.resultTypes.toList.any (Tryz.prog.ifacesRec ·))) = true := by kernel_rfl
theorem recordChecks_k22 : ((Rows.recordChecksRow.loopsOut == Tryz.f4.resultTypes.toList.any (Tryz.prog.loopsFrom ·))) = true := by kernel_rfl
theorem recordChecks_k24 : (Rows.recordChecksRow.shortTexts.isNone) = true := by kernel_rfl
theorem recordChecks_k29 : ((Rows.recordChecksRow.kinds == (if Rows.recordChecksRow.domain.isEmpty then [] else Tryz.f4.params.toList.map fun t => match Tryz.prog.underlying t with | some (.int k) => some k | _ => none))) = true := by kernel_rfl
theorem recordChecks_k30 : ((Rows.recordChecksRow.pinned == Rows.recordChecksRow.pinnedBy)) = true := by kernel_rfl
theorem recordChecks_k31 : ((Rows.recordChecksRow.veiled == (Tryz.f4.params.toList ++ Rows.recordChecksSpec.plain.varTypes Tryz.prog ++ Tryz.f4.resultTypes.toList).any (Tryz.prog.veiledRec ·))) = true := by kernel_rfl
theorem recordChecks_k32 : (Rows.recordChecksRow.veiledFits Tryz.prog Tryz.f4.params.toList (Tryz.f4.params.toList ++ Rows.recordChecksSpec.plain.varTypes Tryz.prog ++ Tryz.f4.resultTypes.toList)) = true := by kernel_rfl
theorem recordChecks_closed : joinedFacts Tryz.prog 4 Tryz.f4 Rows.recordChecksSpec Rows.recordChecksRow = true := (bd_ (bd_ (bd_ (bd_ (bd_ (bd_ (bd_ (bd_ (bd_ (bd_ (bd_ (bd_ (bd_ (bd_ (bd_ (bd_ (bd_ (bd_ (bd_ (bd_ (bd_ (bd_ (bd_ (bd_ (bd_ (bd_ (bd_ (bd_ (bd_ (bd_ (bd_ recordChecks_k1 Ji3) Jiv) recordChecks_k4) recordChecks_k5) recordChecks_k6) Ji9) recordChecks_k8) Ji4) recordChecks_k10) recordChecks_k11) recordChecks_k12) recordChecks_k13) recordChecks_k14) recordChecks_k15) recordChecks_k16) recordChecks_k17) recordChecks_k18) recordChecks_k19) recordChecks_k20) recordChecks_k21) recordChecks_k22) Jg4) recordChecks_k24) Jha) Jg6) Jgy) Jgv) recordChecks_k29) recordChecks_k30) recordChecks_k31) recordChecks_k32)
set_option maxHeartbeats 2000000 in
theorem recordChecks_lifted (os : Os) (started : os.Started) (H : Type) (enc : TypeId × Value → H) :
  ReturnsInHanded {} Tryz.checked os 4 .any (fun w args => (Rows.recordChecksSpec.pre enc Tryz.prog Tryz.f4 Rows.recordChecksRow.domain Rows.recordChecksRow.apart w args ∧ laidMetH Tryz.prog [("padlock/room.reserved", Rows.laid_padlock_room_reserved)] w) ∧ sizedMet enc Tryz.prog Tryz.f4 (OpenSpec.ofChange Rows.recordChecksSpec) Rows.recordChecksRow.apart w args)
   (Rows.recordChecksSpec.post enc Tryz.prog Tryz.f4 Rows.recordChecksRow.apart Rows.recordChecksRow.fresh Rows.recordChecksRow.handsOn Rows.recordChecksRow.again) := by
 refine returnsInHanded_of_change_and (C := Tryz.checked) (X := fun w _ => laidMetH Tryz.prog [("padlock/room.reserved", Rows.laid_padlock_room_reserved)] w) (fun _ _ _ hh h => h.of_heap hh) own started (by kernel_rfl) Tryz.func4
  (ChangeSpec.witness_shaped (enc := enc) (C := Tryz.checked) (X := fun w _ => laidMetH Tryz.prog [("padlock/room.reserved", Rows.laid_padlock_room_reserved)] w) false (World.laidAll Tryz.prog os [("padlock/room.reserved", Rows.laid_padlock_room_reserved)]) #[.agg #[.slice none 0 0, .slice none 0 0, .slice none 0 0, .slice none 0 0, .slice none 0 0, .slice none 0 0, .int .i64 0, .slice none 0 0, .slice none 0 0, .slice none 0 0, .slice none 0 0, .int .i64 0], .slice none 0 0] 8 (World.laidAll_os _ _ _) (World.shaped_of_ZipB (by kernel_rfl) (by kernel_rfl)) (by kernel_rfl) (by kernel_rfl) (by kernel_rfl)
   (by rw [MakeChecks.laidMetH_plain _ _ _ (by kernel_rfl)]; exact laidMet_laidAll _ (by kernel_rfl) (by kernel_rfl))) ?_
 intro W base args ds gs before hval0 hW _ _ hL _
 have hval : ∀ (j : Nat) t v, Tryz.f4.params[j]? = some t → args[j]? = some v → Value.okWide Tryz.prog W .any base t v := hval0
 have hW' := hW
 obtain ⟨p, q, hA0, hV, rfl, hfz, hnd⟩ := hW
 have hA : DataW.TrodAll enc Tryz.prog W 0 (fun _ => true) true Tryz.f4.params.toList args.toList ds p := hA0
 rw [Tryz.params4] at hA hval
 obtain ⟨v0, v1, d0, d1, p0, p1, rfl, rfl, rfl, h0, h1⟩ := trodAll_two hA
 obtain ⟨rfl, rfl⟩ := trodVars_none hV
 obtain ⟨g, hG⟩ := Jdt hL
 obtain ⟨⟨c0⟩, rfl, _⟩ := okWide_struct Tryz.underlying36 (hval 0 36 v0 rfl rfl)
 obtain ⟨_, k0⟩ := h0
 obtain ⟨x0, e0, r0⟩ := Jix k0
 change c0 = _ at e0
 subst e0
 obtain ⟨_, _, _, rfl⟩ := okWide_slice Tryz.underlying40 (hval 1 40 v1 rfl rfl)
 obtain ⟨_, k1⟩ := h1
 obtain ⟨x1, e1, r1⟩ := (Ja1 Tryz.underlying40 (by kernel_rfl) (by decide) Jjw) _ _ _ k1
 rw [show Value.slice _ _ _ = x1.v from (List.cons.inj e1).1] at hW' ⊢
 refine Calls.mono (Jly x0 W r0 g hG x1 r1) ?_
 rintro e W' ⟨rfl, hb⟩
 exact ⟨_, rfl, Jg5 laidOut (by kernel_rfl) rfl Tryz.underlying4 hW' rfl hb rfl rfl rfl⟩
theorem recordChecks_holds : Rows.RecordChecksSaid :=
 OpenClaim.holds_of_wide 4 Tryz.f4 rfl rfl rfl rfl rfl rfl rfl ⟨rfl, rfl, rfl, rfl, rfl⟩ rfl rfl rfl rfl rfl (by kernel_rfl) Tryz.func4 recordChecks_closed
  (of_decide_eq_true (by kernel_rfl)) (by unfold Func.isWrapper; first | (rw [if_pos (by decide +kernel)]; kernel_rfl) | (rw [if_neg (by decide +kernel)]; exact ⟨rfl, rfl⟩))
  (fun os started H enc _ => recordChecks_lifted os started H enc)
theorem recordChecks_card : Rows.RecordChecksCardSaid :=
 Claim7.holds_tied_plain_at .later [] [.widerDeep] true (true, "6ba0bab29e1409fa1284d55df0d0845f7bff8f93e6b5e797eca9a17f1bbe3c90") false recordChecks_holds (fun _ h => by cases h) (by kernel_rfl) (fun _ h => by cases h) recordChecks_row_tie rfl ⟨rfl, rfl⟩ (by kernel_rfl) rfl
  (fun f fn hf hfn => by
   obtain rfl : f = 4 := Option.some.inj ((show Tryz.prog.funcNamed "padlock/padlocklaw12.RecordChecks" = some 4 by kernel_rfl).symm.trans hf) |>.symm
   obtain rfl : fn = Tryz.f4 := (Option.some.inj (Tryz.func4.symm.trans hfn)).symm
   exact ⟨by kernel_rfl, fun j t ht => by
    rw [Tryz.params4] at ht
    have hm : t ∈ [36, 40] := by simpa using Array.mem_of_getElem? ht
    have hall : ([36, 40].all fun u => !Tryz.prog.wantsStandIn u) = true := by kernel_rfl
    exact (show Tryz.prog.wantsStandIn t = false by simpa using List.all_eq_true.1 hall t hm)⟩)
  (by kernel_rfl)
end Go.Proofs.YtohneogdekdboaaGreatDoor
