/- The tied card of the law RecordRanks: whatever the input, it returns true and the input reads as it did. Condition: the package variable room.reserved starts as the program's text lays it (tied). -/
import Derived.Test.YtbboikncaihafaaGreatDoorV3
import Derived.Test.YtbboikncaihafaaGreatDoorZx
import Derived.Test.YtbboikncaihafaaGreatDoorZy
import Derived.Test.YtbboikncaihafaaGreatDoorTie
import Derived.Test.YtbboikncaihafaaGreatDoorCards
import Derived.Test.YtbboikncaihafaaGreatDoorY1
set_option maxHeartbeats 8000000
namespace Go.Proofs.YtbboikncaihafaaGreatDoor
open Go.ChangeShapes Go.WideShapes Go.ChangeAt Go.RowKit Go.Proofs Go.Joins
set_option maxRecDepth 100000
set_option linter.unusedVariables false
set_option linter.unusedSimpArgs false
theorem own:ownKnob Tryz.prog.godebug=none:=by kernel_rfl
theorem laidOut:laidOutB Tryz.prog=true:=by kernel_rfl
theorem recordRanks_k1:(Rows.recordRanksRow.wf (OpenSpec.ofChange Rows.recordRanksSpec))=true:=by kernel_rfl
theorem recordRanks_k4:(Tryz.f5.params.all (Tryz.prog.readableRec ·))=true:=by kernel_rfl
theorem recordRanks_k5:(namedTie Tryz.prog Rows.recordRanksRow.named Rows.recordRanksSpec.vars)=true:=by kernel_rfl
theorem recordRanks_k6:((Rows.recordRanksRow.stops == []))=true:=by kernel_rfl
theorem recordRanks_k8:((Rows.recordRanksRow.knobs == []))=true:=by kernel_rfl
theorem recordRanks_k10:((Rows.recordRanksRow.inPlace == Tryz.prog.inPlace 5))=true:=by kernel_rfl
theorem recordRanks_k11:((Rows.recordRanksRow.unfollowed == Tryz.prog.unfollowed 5))=true:=by kernel_rfl
theorem recordRanks_k12:((Rows.recordRanksRow.recurses == Tryz.prog.recurses 5))=true:=by kernel_rfl
theorem recordRanks_k13:((Rows.recordRanksRow.named == Tryz.prog.varsNamed 5))=true:=by kernel_rfl
theorem recordRanks_k14:((Rows.recordRanksRow.maps == (Tryz.f5.params.toList++Rows.recordRanksSpec.plain.varTypes Tryz.prog).any (Tryz.prog.mapsRec ·)))=true:=by kernel_rfl
theorem recordRanks_k15:((Rows.recordRanksRow.ifaces == (Tryz.f5.params.toList++Rows.recordRanksSpec.plain.varTypes Tryz.prog).any (Tryz.prog.ifacesRec ·)))=true:=by kernel_rfl
theorem recordRanks_k16:((Rows.recordRanksRow.mapsOut == Tryz.prog.mapsAmong Tryz.f5.resultTypes.toList))=true:=by kernel_rfl
theorem recordRanks_k17:((Rows.recordRanksRow.loops == (Tryz.f5.params.toList++Rows.recordRanksSpec.plain.varTypes Tryz.prog).any (Tryz.prog.loopsFrom ·)))=true:=by kernel_rfl
theorem recordRanks_k18:((Rows.recordRanksRow.wideKeys == (Tryz.f5.params.toList++Rows.recordRanksSpec.plain.varTypes Tryz.prog++Tryz.f5.resultTypes.toList).any (Tryz.prog.wideKeysFrom ·)))=true:=by kernel_rfl
theorem recordRanks_k19:(Rows.recordRanksSpec.vars.all (Tryz.prog.varReadable ·))=true:=by kernel_rfl
theorem recordRanks_k20:(Tryz.f5.resultTypes.all (fun t=>Tryz.prog.readableRec t && decide (t < Tryz.prog.types.size)))=true:=by kernel_rfl
theorem recordRanks_k21:((Rows.recordRanksRow.ifacesOut == Tryz.f5.resultTypes.toList.any (Tryz.prog.ifacesRec ·)))=true:=by kernel_rfl
theorem recordRanks_k22:((Rows.recordRanksRow.loopsOut == Tryz.f5.resultTypes.toList.any (Tryz.prog.loopsFrom ·)))=true:=by kernel_rfl
theorem recordRanks_k24:(Rows.recordRanksRow.shortTexts.isNone)=true:=by kernel_rfl
theorem recordRanks_k29:((Rows.recordRanksRow.kinds == (if Rows.recordRanksRow.domain.isEmpty then [] else Tryz.f5.params.toList.map fun t=>match Tryz.prog.underlying t with | some (.int k)=>some k | _=>none)))=true:=by kernel_rfl
theorem recordRanks_k30:((Rows.recordRanksRow.pinned == Rows.recordRanksRow.pinnedBy))=true:=by kernel_rfl
theorem recordRanks_k31:((Rows.recordRanksRow.veiled == (Tryz.f5.params.toList++Rows.recordRanksSpec.plain.varTypes Tryz.prog++Tryz.f5.resultTypes.toList).any (Tryz.prog.veiledRec ·)))=true:=by kernel_rfl
theorem recordRanks_k32:(Rows.recordRanksRow.veiledFits Tryz.prog Tryz.f5.params.toList (Tryz.f5.params.toList++Rows.recordRanksSpec.plain.varTypes Tryz.prog++Tryz.f5.resultTypes.toList))=true:=by kernel_rfl
theorem recordRanks_closed:joinedFacts Tryz.prog 5 Tryz.f5 Rows.recordRanksSpec Rows.recordRanksRow=true:=(bd_ (bd_ (bd_ (bd_ (bd_ (bd_ (bd_ (bd_ (bd_ (bd_ (bd_ (bd_ (bd_ (bd_ (bd_ (bd_ (bd_ (bd_ (bd_ (bd_ (bd_ (bd_ (bd_ (bd_ (bd_ (bd_ (bd_ (bd_ (bd_ (bd_ (bd_ recordRanks_k1 Jzb) Jwb) recordRanks_k4) recordRanks_k5) recordRanks_k6) Jyo) recordRanks_k8) Jwr) recordRanks_k10) recordRanks_k11) recordRanks_k12) recordRanks_k13) recordRanks_k14) recordRanks_k15) recordRanks_k16) recordRanks_k17) recordRanks_k18) recordRanks_k19) recordRanks_k20) recordRanks_k21) recordRanks_k22) Jri) recordRanks_k24) Jte) Jrm) Jsk) Jtl) recordRanks_k29) recordRanks_k30) recordRanks_k31) recordRanks_k32)
set_option maxHeartbeats 2000000 in
theorem recordRanks_lifted (os:Os) (started:os.Started) (H:Type) (enc:TypeId × Value→H) :
  ReturnsInHanded {} Tryz.checked os 5 .any (fun w args=>(Rows.recordRanksSpec.pre enc Tryz.prog Tryz.f5 Rows.recordRanksRow.domain Rows.recordRanksRow.apart w args∧laidMetH Tryz.prog [("padlock/room.reserved", Rows.laid_padlock_room_reserved)] w)∧sizedMet enc Tryz.prog Tryz.f5 (OpenSpec.ofChange Rows.recordRanksSpec) Rows.recordRanksRow.apart w args)
   (Rows.recordRanksSpec.post enc Tryz.prog Tryz.f5 Rows.recordRanksRow.apart Rows.recordRanksRow.fresh Rows.recordRanksRow.handsOn Rows.recordRanksRow.again):=by
 refine returnsInHanded_of_change_and (C:=Tryz.checked) (X:=fun w _=>laidMetH Tryz.prog [("padlock/room.reserved", Rows.laid_padlock_room_reserved)] w) (fun _ _ _ hh h=>h.of_heap hh) own started (by kernel_rfl) Tryz.func5
  (ChangeSpec.witness_shaped (enc:=enc) (C:=Tryz.checked) (X:=fun w _=>laidMetH Tryz.prog [("padlock/room.reserved", Rows.laid_padlock_room_reserved)] w) false (World.laidAll Tryz.prog os [("padlock/room.reserved", Rows.laid_padlock_room_reserved)]) #[.agg #[.slice none 0 0,.slice none 0 0,.slice none 0 0,.slice none 0 0,.slice none 0 0,.slice none 0 0,.int .i64 0,.slice none 0 0,.slice none 0 0,.slice none 0 0,.slice none 0 0,.int .i64 0],.slice none 0 0,.int .i64 0] 8 (World.laidAll_os _ _ _) (World.shaped_of_ZipB (by kernel_rfl) (by kernel_rfl)) (by kernel_rfl) (by kernel_rfl) (by kernel_rfl)
   (by rw [MakeChecks.laidMetH_plain _ _ _ (by kernel_rfl)]; exact laidMet_laidAll _ (by kernel_rfl) (by kernel_rfl))) ?_
 intro W base args ds gs before hval0 hW _ _ hL _
 have hval:∀ (j:Nat) t v,Tryz.f5.params[j]? = some t→args[j]? = some v→Value.okWide Tryz.prog W .any base t v:=hval0
 have hW':=hW
 obtain ⟨p,q,hA0,hV,rfl,hfz,hnd⟩:=hW
 have hA:DataW.TrodAll enc Tryz.prog W 0 (fun _=>true) true Tryz.f5.params.toList args.toList ds p:=hA0
 rw [Tryz.params5] at hA hval
 obtain ⟨v0,v1,v2,d0,d1,d2,p0,p1,p2,rfl,rfl,rfl,h0,h1,h2⟩:=trodAll_three hA
 obtain ⟨rfl,rfl⟩:=trodVars_none hV
 obtain ⟨g,hG⟩:=Jko hL
 obtain ⟨⟨c0⟩,rfl,_⟩:=okWide_struct Tryz.underlying36 (hval 0 36 v0 rfl rfl)
 obtain ⟨_,k0⟩:=h0
 obtain ⟨x0,e0,r0⟩:=Jzm k0
 change c0=_ at e0
 subst e0
 obtain ⟨_,_,_,rfl⟩:=okWide_slice Tryz.underlying73 (hval 1 73 v1 rfl rfl)
 obtain ⟨_,k1⟩:=h1
 obtain ⟨x1,e1,r1⟩:=(Ja8 Tryz.underlying73 (by kernel_rfl) (by decide) (Ja8 Tryz.underlying67 (by kernel_rfl) (by decide) Jrs)) _ _ _ k1
 rw [show Value.slice _ _ _=x1.v from (List.cons.inj e1).1] at hW' ⊢
 obtain ⟨x2,rfl⟩:=okWide_int Tryz.underlying3 (hval 2 3 v2 rfl rfl)
 refine Calls.mono (Jm7 x0 W r0 g hG x1 r1 x2) ?_
 rintro e W' ⟨rfl,hb⟩
 exact ⟨_,rfl,Jtn laidOut (by kernel_rfl) rfl Tryz.underlying4 hW' rfl hb rfl rfl rfl⟩
theorem recordRanks_holds:Rows.RecordRanksSaid :=
 OpenClaim.holds_of_wide 5 Tryz.f5 rfl rfl rfl rfl rfl rfl rfl ⟨rfl,rfl,rfl,rfl,rfl⟩ rfl rfl rfl rfl rfl (by kernel_rfl) Tryz.func5 recordRanks_closed
  (of_decide_eq_true (by kernel_rfl)) (by unfold Func.isWrapper; first | (rw [if_pos (by decide +kernel)]; kernel_rfl) | (rw [if_neg (by decide +kernel)]; exact ⟨rfl,rfl⟩))
  (fun os started H enc _=>recordRanks_lifted os started H enc)
theorem recordRanks_card:Rows.RecordRanksCardSaid :=
 Claim7.holds_tied_plain_at .later [] [.widerDeep] true (true, "23f0ec78cf0b6fd08abb9e056889bf2e734929b3f2ca8e51bf753b6d1c356c03") false recordRanks_holds (fun _ h=>by cases h) (by kernel_rfl) (fun _ h=>by cases h) recordRanks_row_tie rfl ⟨rfl,rfl⟩ (by kernel_rfl) rfl
  (fun f fn hf hfn=>by
   obtain rfl:f=5:=Option.some.inj ((show Tryz.prog.funcNamed "padlock/padlocklaw12.RecordRanks" = some 5 by kernel_rfl).symm.trans hf) |>.symm
   obtain rfl:fn=Tryz.f5:=(Option.some.inj (Tryz.func5.symm.trans hfn)).symm
   exact ⟨by kernel_rfl,fun j t ht=>by
    rw [Tryz.params5] at ht
    have hm:t∈[36,73,3]:=by simpa using Array.mem_of_getElem? ht
    have hall:([36,73,3].all fun u => !Tryz.prog.wantsStandIn u)=true:=by kernel_rfl
    exact (show Tryz.prog.wantsStandIn t=false by simpa using List.all_eq_true.1 hall t hm)⟩)
  (by kernel_rfl)
end Go.Proofs.YtbboikncaihafaaGreatDoor
