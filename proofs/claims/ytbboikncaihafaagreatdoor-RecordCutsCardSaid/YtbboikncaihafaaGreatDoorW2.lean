/- The tied card of the law RecordCuts: whatever the input, it returns true and the input reads as it did. Condition: the package variable room.reserved starts as the program's text lays it (tied). -/
import Derived.Test.YtbboikncaihafaaGreatDoorV2
import Derived.Test.YtbboikncaihafaaGreatDoorZx
import Derived.Test.YtbboikncaihafaaGreatDoorZy
import Derived.Test.YtbboikncaihafaaGreatDoorTie
import Derived.Test.YtbboikncaihafaaGreatDoorCards
import Derived.Test.YtbboikncaihafaaGreatDoorY0
set_option maxHeartbeats 8000000
namespace Go.Proofs.YtbboikncaihafaaGreatDoor
open Go.ChangeShapes Go.WideShapes Go.ChangeAt Go.RowKit Go.Proofs Go.Joins
set_option maxRecDepth 100000
set_option linter.unusedVariables false
set_option linter.unusedSimpArgs false
theorem own:ownKnob Tryz.prog.godebug=none:=by kernel_rfl
theorem laidOut:laidOutB Tryz.prog=true:=by kernel_rfl
theorem recordCuts_k1:(Rows.recordCutsRow.wf (OpenSpec.ofChange Rows.recordCutsSpec))=true:=by kernel_rfl
theorem recordCuts_k4:(Tryz.f6.params.all (Tryz.prog.readableRec ·))=true:=by kernel_rfl
theorem recordCuts_k5:(namedTie Tryz.prog Rows.recordCutsRow.named Rows.recordCutsSpec.vars)=true:=by kernel_rfl
theorem recordCuts_k6:((Rows.recordCutsRow.stops == []))=true:=by kernel_rfl
theorem recordCuts_k8:((Rows.recordCutsRow.knobs == []))=true:=by kernel_rfl
theorem recordCuts_k10:((Rows.recordCutsRow.inPlace == Tryz.prog.inPlace 6))=true:=by kernel_rfl
theorem recordCuts_k11:((Rows.recordCutsRow.unfollowed == Tryz.prog.unfollowed 6))=true:=by kernel_rfl
theorem recordCuts_k12:((Rows.recordCutsRow.recurses == Tryz.prog.recurses 6))=true:=by kernel_rfl
theorem recordCuts_k13:((Rows.recordCutsRow.named == Tryz.prog.varsNamed 6))=true:=by kernel_rfl
theorem recordCuts_k14:((Rows.recordCutsRow.maps == (Tryz.f6.params.toList++Rows.recordCutsSpec.plain.varTypes Tryz.prog).any (Tryz.prog.mapsRec ·)))=true:=by kernel_rfl
theorem recordCuts_k15:((Rows.recordCutsRow.ifaces == (Tryz.f6.params.toList++Rows.recordCutsSpec.plain.varTypes Tryz.prog).any (Tryz.prog.ifacesRec ·)))=true:=by kernel_rfl
theorem recordCuts_k16:((Rows.recordCutsRow.mapsOut == Tryz.prog.mapsAmong Tryz.f6.resultTypes.toList))=true:=by kernel_rfl
theorem recordCuts_k17:((Rows.recordCutsRow.loops == (Tryz.f6.params.toList++Rows.recordCutsSpec.plain.varTypes Tryz.prog).any (Tryz.prog.loopsFrom ·)))=true:=by kernel_rfl
theorem recordCuts_k18:((Rows.recordCutsRow.wideKeys == (Tryz.f6.params.toList++Rows.recordCutsSpec.plain.varTypes Tryz.prog++Tryz.f6.resultTypes.toList).any (Tryz.prog.wideKeysFrom ·)))=true:=by kernel_rfl
theorem recordCuts_k19:(Rows.recordCutsSpec.vars.all (Tryz.prog.varReadable ·))=true:=by kernel_rfl
theorem recordCuts_k20:(Tryz.f6.resultTypes.all (fun t=>Tryz.prog.readableRec t && decide (t < Tryz.prog.types.size)))=true:=by kernel_rfl
theorem recordCuts_k21:((Rows.recordCutsRow.ifacesOut == Tryz.f6.resultTypes.toList.any (Tryz.prog.ifacesRec ·)))=true:=by kernel_rfl
theorem recordCuts_k22:((Rows.recordCutsRow.loopsOut == Tryz.f6.resultTypes.toList.any (Tryz.prog.loopsFrom ·)))=true:=by kernel_rfl
theorem recordCuts_k24:(Rows.recordCutsRow.shortTexts.isNone)=true:=by kernel_rfl
theorem recordCuts_k29:((Rows.recordCutsRow.kinds == (if Rows.recordCutsRow.domain.isEmpty then [] else Tryz.f6.params.toList.map fun t=>match Tryz.prog.underlying t with | some (.int k)=>some k | _=>none)))=true:=by kernel_rfl
theorem recordCuts_k30:((Rows.recordCutsRow.pinned == Rows.recordCutsRow.pinnedBy))=true:=by kernel_rfl
theorem recordCuts_k31:((Rows.recordCutsRow.veiled == (Tryz.f6.params.toList++Rows.recordCutsSpec.plain.varTypes Tryz.prog++Tryz.f6.resultTypes.toList).any (Tryz.prog.veiledRec ·)))=true:=by kernel_rfl
theorem recordCuts_k32:(Rows.recordCutsRow.veiledFits Tryz.prog Tryz.f6.params.toList (Tryz.f6.params.toList++Rows.recordCutsSpec.plain.varTypes Tryz.prog++Tryz.f6.resultTypes.toList))=true:=by kernel_rfl
theorem recordCuts_closed:joinedFacts Tryz.prog 6 Tryz.f6 Rows.recordCutsSpec Rows.recordCutsRow=true:=(bd_ (bd_ (bd_ (bd_ (bd_ (bd_ (bd_ (bd_ (bd_ (bd_ (bd_ (bd_ (bd_ (bd_ (bd_ (bd_ (bd_ (bd_ (bd_ (bd_ (bd_ (bd_ (bd_ (bd_ (bd_ (bd_ (bd_ (bd_ (bd_ (bd_ (bd_ recordCuts_k1 Jzb) Jwb) recordCuts_k4) recordCuts_k5) recordCuts_k6) Jyo) recordCuts_k8) Jwr) recordCuts_k10) recordCuts_k11) recordCuts_k12) recordCuts_k13) recordCuts_k14) recordCuts_k15) recordCuts_k16) recordCuts_k17) recordCuts_k18) recordCuts_k19) recordCuts_k20) recordCuts_k21) recordCuts_k22) Jri) recordCuts_k24) Jte) Jrm) Jsk) Jtl) recordCuts_k29) recordCuts_k30) recordCuts_k31) recordCuts_k32)
set_option maxHeartbeats 2000000 in
theorem recordCuts_lifted (os:Os) (started:os.Started) (H:Type) (enc:TypeId × Value→H) :
  ReturnsInHanded {} Tryz.checked os 6 .any (fun w args=>(Rows.recordCutsSpec.pre enc Tryz.prog Tryz.f6 Rows.recordCutsRow.domain Rows.recordCutsRow.apart w args∧laidMetH Tryz.prog [("padlock/room.reserved", Rows.laid_padlock_room_reserved)] w)∧sizedMet enc Tryz.prog Tryz.f6 (OpenSpec.ofChange Rows.recordCutsSpec) Rows.recordCutsRow.apart w args)
   (Rows.recordCutsSpec.post enc Tryz.prog Tryz.f6 Rows.recordCutsRow.apart Rows.recordCutsRow.fresh Rows.recordCutsRow.handsOn Rows.recordCutsRow.again):=by
 refine returnsInHanded_of_change_and (C:=Tryz.checked) (X:=fun w _=>laidMetH Tryz.prog [("padlock/room.reserved", Rows.laid_padlock_room_reserved)] w) (fun _ _ _ hh h=>h.of_heap hh) own started (by kernel_rfl) Tryz.func6
  (ChangeSpec.witness_shaped (enc:=enc) (C:=Tryz.checked) (X:=fun w _=>laidMetH Tryz.prog [("padlock/room.reserved", Rows.laid_padlock_room_reserved)] w) false (World.laidAll Tryz.prog os [("padlock/room.reserved", Rows.laid_padlock_room_reserved)]) #[.agg #[.slice none 0 0,.slice none 0 0,.slice none 0 0,.slice none 0 0,.slice none 0 0,.slice none 0 0,.int .i64 0,.slice none 0 0,.slice none 0 0,.slice none 0 0,.slice none 0 0,.int .i64 0],.slice none 0 0,.int .i64 0] 8 (World.laidAll_os _ _ _) (World.shaped_of_ZipB (by kernel_rfl) (by kernel_rfl)) (by kernel_rfl) (by kernel_rfl) (by kernel_rfl)
   (by rw [MakeChecks.laidMetH_plain _ _ _ (by kernel_rfl)]; exact laidMet_laidAll _ (by kernel_rfl) (by kernel_rfl))) ?_
 intro W base args ds gs before hval0 hW _ _ hL _
 have hval:∀ (j:Nat) t v,Tryz.f6.params[j]? = some t→args[j]? = some v→Value.okWide Tryz.prog W .any base t v:=hval0
 have hW':=hW
 obtain ⟨p,q,hA0,hV,rfl,hfz,hnd⟩:=hW
 have hA:DataW.TrodAll enc Tryz.prog W 0 (fun _=>true) true Tryz.f6.params.toList args.toList ds p:=hA0
 rw [Tryz.params6] at hA hval
 obtain ⟨v0,v1,v2,d0,d1,d2,p0,p1,p2,rfl,rfl,rfl,h0,h1,h2⟩:=trodAll_three hA
 obtain ⟨rfl,rfl⟩:=trodVars_none hV
 obtain ⟨g,hG⟩:=Jko hL
 obtain ⟨⟨c0⟩,rfl,_⟩:=okWide_struct Tryz.underlying36 (hval 0 36 v0 rfl rfl)
 obtain ⟨_,k0⟩:=h0
 obtain ⟨x0,e0,r0⟩:=Jzm k0
 change c0=_ at e0
 subst e0
 obtain ⟨_,_,_,rfl⟩:=okWide_slice Tryz.underlying67 (hval 1 67 v1 rfl rfl)
 obtain ⟨_,k1⟩:=h1
 obtain ⟨x1,e1,r1⟩:=(Ja8 Tryz.underlying67 (by kernel_rfl) (by decide) Jrs) _ _ _ k1
 rw [show Value.slice _ _ _=x1.v from (List.cons.inj e1).1] at hW' ⊢
 obtain ⟨x2,rfl⟩:=okWide_int Tryz.underlying3 (hval 2 3 v2 rfl rfl)
 refine Calls.mono (Jpc x0 W r0 g hG x1 r1 x2) ?_
 rintro e W' ⟨rfl,hb⟩
 exact ⟨_,rfl,Jtn laidOut (by kernel_rfl) rfl Tryz.underlying4 hW' rfl hb rfl rfl rfl⟩
theorem recordCuts_holds:Rows.RecordCutsSaid :=
 OpenClaim.holds_of_wide 6 Tryz.f6 rfl rfl rfl rfl rfl rfl rfl ⟨rfl,rfl,rfl,rfl,rfl⟩ rfl rfl rfl rfl rfl (by kernel_rfl) Tryz.func6 recordCuts_closed
  (of_decide_eq_true (by kernel_rfl)) (by unfold Func.isWrapper; first | (rw [if_pos (by decide +kernel)]; kernel_rfl) | (rw [if_neg (by decide +kernel)]; exact ⟨rfl,rfl⟩))
  (fun os started H enc _=>recordCuts_lifted os started H enc)
theorem recordCuts_card:Rows.RecordCutsCardSaid :=
 Claim7.holds_tied_plain_at .later [] [.widerDeep] true (true, "23f0ec78cf0b6fd08abb9e056889bf2e734929b3f2ca8e51bf753b6d1c356c03") false recordCuts_holds (fun _ h=>by cases h) (by kernel_rfl) (fun _ h=>by cases h) recordCuts_row_tie rfl ⟨rfl,rfl⟩ (by kernel_rfl) rfl
  (fun f fn hf hfn=>by
   obtain rfl:f=6:=Option.some.inj ((show Tryz.prog.funcNamed "padlock/padlocklaw12.RecordCuts" = some 6 by kernel_rfl).symm.trans hf) |>.symm
   obtain rfl:fn=Tryz.f6:=(Option.some.inj (Tryz.func6.symm.trans hfn)).symm
   exact ⟨by kernel_rfl,fun j t ht=>by
    rw [Tryz.params6] at ht
    have hm:t∈[36,67,3]:=by simpa using Array.mem_of_getElem? ht
    have hall:([36,67,3].all fun u => !Tryz.prog.wantsStandIn u)=true:=by kernel_rfl
    exact (show Tryz.prog.wantsStandIn t=false by simpa using List.all_eq_true.1 hall t hm)⟩)
  (by kernel_rfl)
end Go.Proofs.YtbboikncaihafaaGreatDoor
