/- The tied card of the law RecordMerges: whatever the input, it returns true and the input reads as it did. Condition: the package variable room.reserved starts as the program's text lays it (tied). -/
import Derived.Test.YtbboikncaihafaaGreatDoorV1
import Derived.Test.YtbboikncaihafaaGreatDoorZx
import Derived.Test.YtbboikncaihafaaGreatDoorZy
import Derived.Test.YtbboikncaihafaaGreatDoorTie
import Derived.Test.YtbboikncaihafaaGreatDoorCards
set_option maxHeartbeats 8000000
namespace Go.Proofs.YtbboikncaihafaaGreatDoor
open Go.ChangeShapes Go.WideShapes Go.ChangeAt Go.RowKit Go.Proofs Go.Joins
set_option maxRecDepth 100000
set_option linter.unusedVariables false
set_option linter.unusedSimpArgs false
theorem own : ownKnob Tryz.prog.godebug = none := by kernel_rfl
theorem laidOut : laidOutB Tryz.prog = true := by kernel_rfl
theorem recordMerges_k1 : (Rows.recordMergesRow.wf (OpenSpec.ofChange Rows.recordMergesSpec)) = true := by kernel_rfl
theorem recordMerges_k4 : (Tryz.f4.params.all (Tryz.prog.readableRec ·)) = true := by kernel_rfl
theorem recordMerges_k5 : (namedTie Tryz.prog Rows.recordMergesRow.named Rows.recordMergesSpec.vars) = true := by kernel_rfl
theorem recordMerges_k6 : ((Rows.recordMergesRow.stops == [])) = true := by kernel_rfl
theorem recordMerges_k8 : ((Rows.recordMergesRow.knobs == [])) = true := by kernel_rfl
theorem recordMerges_k10 : ((Rows.recordMergesRow.inPlace == Tryz.prog.inPlace 4)) = true := by kernel_rfl
theorem recordMerges_k11 : ((Rows.recordMergesRow.unfollowed == Tryz.prog.unfollowed 4)) = true := by kernel_rfl
theorem recordMerges_k12 : ((Rows.recordMergesRow.recurses == Tryz.prog.recurses 4)) = true := by kernel_rfl
theorem recordMerges_k13 : ((Rows.recordMergesRow.named == Tryz.prog.varsNamed 4)) = true := by kernel_rfl
theorem recordMerges_k14 : ((Rows.recordMergesRow.maps == (Tryz.f4.params.toList ++ Rows.recordMergesSpec.plain.varTypes Tryz.prog).any (Tryz.prog.mapsRec ·))) = true := by kernel_rfl
theorem recordMerges_k15 : ((Rows.recordMergesRow.ifaces == (Tryz.f4.params.toList ++ Rows.recordMergesSpec.plain.varTypes Tryz.prog).any (Tryz.prog.ifacesRec ·))) = true := by kernel_rfl
theorem recordMerges_k16 : ((Rows.recordMergesRow.mapsOut == Tryz.prog.mapsAmong Tryz.f4.resultTypes.toList)) = true := by kernel_rfl
theorem recordMerges_k17 : ((Rows.recordMergesRow.loops == (Tryz.f4.params.toList ++ Rows.recordMergesSpec.plain.varTypes Tryz.prog).any (Tryz.prog.loopsFrom ·))) = true := by kernel_rfl
theorem recordMerges_k18 : ((Rows.recordMergesRow.wideKeys == (Tryz.f4.params.toList ++ Rows.recordMergesSpec.plain.varTypes Tryz.prog ++ Tryz.f4.resultTypes.toList).any (Tryz.prog.wideKeysFrom ·))) = true := by kernel_rfl
theorem recordMerges_k19 : (Rows.recordMergesSpec.vars.all (Tryz.prog.varReadable ·)) = true := by kernel_rfl
theorem recordMerges_k20 : (Tryz.f4.resultTypes.all (fun t => Tryz.prog.readableRec t && decide (t < Tryz.prog.types.size))) = true := by kernel_rfl
theorem recordMerges_k21 : ((Rows.recordMergesRow.ifacesOut == Tryz.f4.resultTypes.toList.any (Tryz.prog.ifacesRec ·))) = true := by kernel_rfl
theorem recordMerges_k22 : ((Rows.recordMergesRow.loopsOut == Tryz.f4.resultTypes.toList.any (Tryz.prog.loopsFrom ·))) = true := by kernel_rfl
theorem recordMerges_k24 : (Rows.recordMergesRow.shortTexts.isNone) = true := by kernel_rfl
theorem recordMerges_k29 : ((Rows.recordMergesRow.kinds == (if Rows.recordMergesRow.domain.isEmpty then [] else Tryz.f4.params.toList.map fun t => match Tryz.prog.underlying t with | some (.int k) => some k | _ => none))) = true := by kernel_rfl
theorem recordMerges_k30 : ((Rows.recordMergesRow.pinned == Rows.recordMergesRow.pinnedBy)) = true := by kernel_rfl
theorem recordMerges_k31 : ((Rows.recordMergesRow.veiled == (Tryz.f4.params.toList ++ Rows.recordMergesSpec.plain.varTypes Tryz.prog ++ Tryz.f4.resultTypes.toList).any (Tryz.prog.veiledRec ·))) = true := by kernel_rfl
theorem recordMerges_k32 : (Rows.recordMergesRow.veiledFits Tryz.prog Tryz.f4.params.toList (Tryz.f4.params.toList ++ Rows.recordMergesSpec.plain.varTypes Tryz.prog ++ Tryz.f4.resultTypes.toList)) = true := by kernel_rfl
theorem recordMerges_closed : joinedFacts Tryz.prog 4 Tryz.f4 Rows.recordMergesSpec Rows.recordMergesRow = true := (bd_ (bd_ (bd_ (bd_ (bd_ (bd_ (bd_ (bd_ (bd_ (bd_ (bd_ (bd_ (bd_ (bd_ (bd_ (bd_ (bd_ (bd_ (bd_ (bd_ (bd_ (bd_ (bd_ (bd_ (bd_ (bd_ (bd_ (bd_ (bd_ (bd_ (bd_ recordMerges_k1 Jvh) Jvt) recordMerges_k4) recordMerges_k5) recordMerges_k6) Jvs) recordMerges_k8) Jw1) recordMerges_k10) recordMerges_k11) recordMerges_k12) recordMerges_k13) recordMerges_k14) recordMerges_k15) recordMerges_k16) recordMerges_k17) recordMerges_k18) recordMerges_k19) recordMerges_k20) recordMerges_k21) recordMerges_k22) Jrv) recordMerges_k24) Jtj) Jsy) Jsu) Jty) recordMerges_k29) recordMerges_k30) recordMerges_k31) recordMerges_k32)
set_option maxHeartbeats 2000000 in
theorem recordMerges_lifted (os : Os) (started : os.Started) (H : Type) (enc : TypeId × Value → H) :
  ReturnsInHanded {} Tryz.checked os 4 .any (fun w args => (Rows.recordMergesSpec.pre enc Tryz.prog Tryz.f4 Rows.recordMergesRow.domain Rows.recordMergesRow.apart w args ∧ laidMetH Tryz.prog [("padlock/room.reserved", Rows.laid_padlock_room_reserved)] w) ∧ sizedMet enc Tryz.prog Tryz.f4 (OpenSpec.ofChange Rows.recordMergesSpec) Rows.recordMergesRow.apart w args)
   (Rows.recordMergesSpec.post enc Tryz.prog Tryz.f4 Rows.recordMergesRow.apart Rows.recordMergesRow.fresh Rows.recordMergesRow.handsOn Rows.recordMergesRow.again) := by
 refine returnsInHanded_of_change_and (C := Tryz.checked) (X := fun w _ => laidMetH Tryz.prog [("padlock/room.reserved", Rows.laid_padlock_room_reserved)] w) (fun _ _ _ hh h => h.of_heap hh) own started (by kernel_rfl) Tryz.func4
  (ChangeSpec.witness_shaped (enc := enc) (C := Tryz.checked) (X := fun w _ => laidMetH Tryz.prog [("padlock/room.reserved", Rows.laid_padlock_room_reserved)] w) false (World.laidAll Tryz.prog os [("padlock/room.reserved", Rows.laid_padlock_room_reserved)]) #[.slice none 0 0, .slice none 0 0] 8 (World.laidAll_os _ _ _) (World.shaped_of_ZipB (by kernel_rfl) (by kernel_rfl)) (by kernel_rfl) (by kernel_rfl) (by kernel_rfl)
   (by rw [MakeChecks.laidMetH_plain _ _ _ (by kernel_rfl)]; exact laidMet_laidAll _ (by kernel_rfl) (by kernel_rfl))) ?_
 intro W base args ds gs before hval0 hW _ _ hL _
 have hval : ∀ (j : Nat) t v, Tryz.f4.params[j]? = some t → args[j]? = some v → Value.okWide Tryz.prog W .any base t v := hval0
 have hW' := hW
 obtain ⟨p, q, hA0, hV, rfl, hfz, hnd⟩ := hW
 have hA : DataW.TrodAll enc Tryz.prog W 0 (fun _ => true) true Tryz.f4.params.toList args.toList ds p := hA0
 rw [Tryz.params4] at hA hval
 obtain ⟨v0, v1, d0, d1, p0, p1, rfl, rfl, rfl, h0, h1⟩ := trodAll_two hA
 obtain ⟨rfl, rfl⟩ := trodVars_none hV
 obtain ⟨g, hG⟩ := Jkj hL
 obtain ⟨_, _, _, rfl⟩ := okWide_slice Tryz.underlying67 (hval 0 67 v0 rfl rfl)
 obtain ⟨_, k0⟩ := h0
 obtain ⟨x0, e0, r0⟩ := (Jh8 Tryz.underlying67 (by kernel_rfl) (by decide) Jl1) _ _ _ k0
 rw [show Value.slice _ _ _ = x0.v from (List.cons.inj e0).1] at hW' ⊢
 obtain ⟨_, _, _, rfl⟩ := okWide_slice Tryz.underlying67 (hval 1 67 v1 rfl rfl)
 obtain ⟨_, k1⟩ := h1
 obtain ⟨x1, e1, r1⟩ := (Jh8 Tryz.underlying67 (by kernel_rfl) (by decide) Jl1) _ _ _ k1
 rw [show Value.slice _ _ _ = x1.v from (List.cons.inj e1).1] at hW' ⊢
 refine Calls.mono (Jgu W g hG x0 x1 r0 r1) ?_
 rintro e W' ⟨rfl, hb⟩
 exact ⟨_, rfl, Jto laidOut (by kernel_rfl) rfl Tryz.underlying4 hW' rfl hb rfl rfl rfl⟩
theorem recordMerges_holds : Rows.RecordMergesSaid :=
 OpenClaim.holds_of_wide 4 Tryz.f4 rfl rfl rfl rfl rfl rfl rfl ⟨rfl, rfl, rfl, rfl, rfl⟩ rfl rfl rfl rfl rfl (by kernel_rfl) Tryz.func4 recordMerges_closed
  (of_decide_eq_true (by kernel_rfl)) (by unfold Func.isWrapper; first | (rw [if_pos (by decide +kernel)]; kernel_rfl) | (rw [if_neg (by decide +kernel)]; exact ⟨rfl, rfl⟩))
  (fun os started H enc _ => recordMerges_lifted os started H enc)
theorem recordMerges_card : Rows.RecordMergesCardSaid :=
 Claim7.holds_tied_plain_at .later [] [.widerDeep] true (true, "23f0ec78cf0b6fd08abb9e056889bf2e734929b3f2ca8e51bf753b6d1c356c03") false recordMerges_holds (fun _ h => by cases h) (by kernel_rfl) (fun _ h => by cases h) recordMerges_row_tie rfl ⟨rfl, rfl⟩ (by kernel_rfl) rfl
  (fun f fn hf hfn => by
   obtain rfl : f = 4 := Option.some.inj ((show Tryz.prog.funcNamed "padlock/padlocklaw12.RecordMerges" = some 4 by kernel_rfl).symm.trans hf) |>.symm
   obtain rfl : fn = Tryz.f4 := (Option.some.inj (Tryz.func4.symm.trans hfn)).symm
   exact ⟨by kernel_rfl, fun j t ht => by
    rw [Tryz.params4] at ht
    have hm : t ∈ [67, 67] := by simpa using Array.mem_of_getElem? ht
    have hall : ([67, 67].all fun u => !Tryz.prog.wantsStandIn u) = true := by kernel_rfl
    exact (show Tryz.prog.wantsStandIn t = false by simpa using List.all_eq_true.1 hall t hm)⟩)
  (by kernel_rfl)
end Go.Proofs.YtbboikncaihafaaGreatDoor
