/- The tied card of the law RoomShows: whatever the input, it returns true and the input reads as it did. Condition: the package variable room.reserved starts as the program's text lays it (tied). -/
import Derived.Test.YtdpbapffdmahnaaGreatDoorLh
import Derived.LaidSub
import Derived.Test.YtdpbapffdmahnaaGreatDoorZx
import Derived.Test.YtdpbapffdmahnaaGreatDoorZy
import Derived.Test.YtdpbapffdmahnaaGreatDoorTie
import Derived.Test.YtdpbapffdmahnaaGreatDoorCards
set_option maxHeartbeats 8000000
namespace Go.Proofs.YtdpbapffdmahnaaGreatDoor
open Go.ChangeShapes Go.WideShapes Go.ChangeAt Go.RowKit Go.Proofs Go.Joins
set_option maxRecDepth 100000
set_option linter.unusedVariables false
set_option linter.unusedSimpArgs false
theorem own:ownKnob Tryz.prog.godebug=none:=by kernel_rfl
theorem laidOut:laidOutB Tryz.prog=true:=by kernel_rfl
theorem gOk_of_laidL {W:World} (h:laidMetH Tryz.prog [("math/bits.deBruijn32tab", Rows.laid_math_bits_deBruijn32tab),("math/bits.deBruijn64tab", Rows.laid_math_bits_deBruijn64tab),("internal/strconv.uint64pow10", Rows.laid_internal_strconv_uint64pow10),("padlock/room.reserved", Rows.laid_padlock_room_reserved)] W):∃ g,GOk W g:=Jgm (by
 have h2:=h.filter (fun x=>x.1 == "padlock/room.reserved")
 exact h2)
theorem roomShows_k1:(Rows.roomShowsRow.wf (OpenSpec.ofChange Rows.roomShowsSpec))=true:=by kernel_rfl
theorem roomShows_k4:(Tryz.f3.params.all (Tryz.prog.readableRec ·))=true:=by kernel_rfl
theorem roomShows_k5:(namedTie Tryz.prog Rows.roomShowsRow.named Rows.roomShowsSpec.vars)=true:=by kernel_rfl
theorem roomShows_k6:((Rows.roomShowsRow.stops == []))=true:=by kernel_rfl
theorem roomShows_k8:((Rows.roomShowsRow.knobs == []))=true:=by kernel_rfl
theorem roomShows_k10:((Rows.roomShowsRow.inPlace == Tryz.prog.inPlace 3))=true:=by kernel_rfl
theorem roomShows_k11:((Rows.roomShowsRow.unfollowed == Tryz.prog.unfollowed 3))=true:=by kernel_rfl
theorem roomShows_k12:((Rows.roomShowsRow.recurses == Tryz.prog.recurses 3))=true:=by kernel_rfl
theorem roomShows_k13:((Rows.roomShowsRow.named == Tryz.prog.varsNamed 3))=true:=by kernel_rfl
theorem roomShows_k14:((Rows.roomShowsRow.maps == (Tryz.f3.params.toList++Rows.roomShowsSpec.plain.varTypes Tryz.prog).any (Tryz.prog.mapsRec ·)))=true:=by kernel_rfl
theorem roomShows_k15:((Rows.roomShowsRow.ifaces == (Tryz.f3.params.toList++Rows.roomShowsSpec.plain.varTypes Tryz.prog).any (Tryz.prog.ifacesRec ·)))=true:=by kernel_rfl
theorem roomShows_k16:((Rows.roomShowsRow.mapsOut == Tryz.prog.mapsAmong Tryz.f3.resultTypes.toList))=true:=by kernel_rfl
theorem roomShows_k17:((Rows.roomShowsRow.loops == (Tryz.f3.params.toList++Rows.roomShowsSpec.plain.varTypes Tryz.prog).any (Tryz.prog.loopsFrom ·)))=true:=by kernel_rfl
theorem roomShows_k18:((Rows.roomShowsRow.wideKeys == (Tryz.f3.params.toList++Rows.roomShowsSpec.plain.varTypes Tryz.prog++Tryz.f3.resultTypes.toList).any (Tryz.prog.wideKeysFrom ·)))=true:=by kernel_rfl
theorem roomShows_k19:(Rows.roomShowsSpec.vars.all (Tryz.prog.varReadable ·))=true:=by kernel_rfl
theorem roomShows_k20:(Tryz.f3.resultTypes.all (fun t=>Tryz.prog.readableRec t && decide (t < Tryz.prog.types.size)))=true:=by kernel_rfl
theorem roomShows_k21:((Rows.roomShowsRow.ifacesOut == Tryz.f3.resultTypes.toList.any (Tryz.prog.ifacesRec ·)))=true:=by kernel_rfl
theorem roomShows_k22:((Rows.roomShowsRow.loopsOut == Tryz.f3.resultTypes.toList.any (Tryz.prog.loopsFrom ·)))=true:=by kernel_rfl
theorem roomShows_k24:(Rows.roomShowsRow.shortTexts.isNone)=true:=by kernel_rfl
theorem roomShows_k29:((Rows.roomShowsRow.kinds == (if Rows.roomShowsRow.domain.isEmpty then [] else Tryz.f3.params.toList.map fun t=>match Tryz.prog.underlying t with | some (.int k)=>some k | _=>none)))=true:=by kernel_rfl
theorem roomShows_k30:((Rows.roomShowsRow.pinned == Rows.roomShowsRow.pinnedBy))=true:=by kernel_rfl
theorem roomShows_k31:((Rows.roomShowsRow.veiled == (Tryz.f3.params.toList++Rows.roomShowsSpec.plain.varTypes Tryz.prog++Tryz.f3.resultTypes.toList).any (Tryz.prog.veiledRec ·)))=true:=by kernel_rfl
theorem roomShows_k32:(Rows.roomShowsRow.veiledFits Tryz.prog Tryz.f3.params.toList (Tryz.f3.params.toList++Rows.roomShowsSpec.plain.varTypes Tryz.prog++Tryz.f3.resultTypes.toList))=true:=by kernel_rfl
theorem roomShows_closed:joinedFacts Tryz.prog 3 Tryz.f3 Rows.roomShowsSpec Rows.roomShowsRow=true:=(bd_ (bd_ (bd_ (bd_ (bd_ (bd_ (bd_ (bd_ (bd_ (bd_ (bd_ (bd_ (bd_ (bd_ (bd_ (bd_ (bd_ (bd_ (bd_ (bd_ (bd_ (bd_ (bd_ (bd_ (bd_ (bd_ (bd_ (bd_ (bd_ (bd_ (bd_ roomShows_k1 Jns) Jni) roomShows_k4) roomShows_k5) roomShows_k6) Jnf) roomShows_k8) Jm5) roomShows_k10) roomShows_k11) roomShows_k12) roomShows_k13) roomShows_k14) roomShows_k15) roomShows_k16) roomShows_k17) roomShows_k18) roomShows_k19) roomShows_k20) roomShows_k21) roomShows_k22) Jlw) roomShows_k24) Jk1) Jly) Jl8) Jlm) roomShows_k29) roomShows_k30) roomShows_k31) roomShows_k32)
set_option maxHeartbeats 2000000 in
theorem roomShows_lifted (os:Os) (started:os.Started) (H:Type) (enc:TypeId × Value→H) :
  ReturnsInHanded {} Tryz.checked os 3 .any (fun w args=>(Rows.roomShowsSpec.pre enc Tryz.prog Tryz.f3 Rows.roomShowsRow.domain Rows.roomShowsRow.apart w args∧laidMetH Tryz.prog [("math/bits.deBruijn32tab", Rows.laid_math_bits_deBruijn32tab),("math/bits.deBruijn64tab", Rows.laid_math_bits_deBruijn64tab),("internal/strconv.uint64pow10", Rows.laid_internal_strconv_uint64pow10),("padlock/room.reserved", Rows.laid_padlock_room_reserved)] w)∧sizedMet enc Tryz.prog Tryz.f3 (OpenSpec.ofChange Rows.roomShowsSpec) Rows.roomShowsRow.apart w args)
   (Rows.roomShowsSpec.post enc Tryz.prog Tryz.f3 Rows.roomShowsRow.apart Rows.roomShowsRow.fresh Rows.roomShowsRow.handsOn Rows.roomShowsRow.again):=by
 refine returnsInHanded_of_change_and (C:=Tryz.checked) (X:=fun w _=>laidMetH Tryz.prog [("math/bits.deBruijn32tab", Rows.laid_math_bits_deBruijn32tab),("math/bits.deBruijn64tab", Rows.laid_math_bits_deBruijn64tab),("internal/strconv.uint64pow10", Rows.laid_internal_strconv_uint64pow10),("padlock/room.reserved", Rows.laid_padlock_room_reserved)] w) (fun _ _ _ hh h=>h.of_heap hh) own started (by kernel_rfl) Tryz.func3
  (ChangeSpec.witness_shaped (enc:=enc) (C:=Tryz.checked) (X:=fun w _=>laidMetH Tryz.prog [("math/bits.deBruijn32tab", Rows.laid_math_bits_deBruijn32tab),("math/bits.deBruijn64tab", Rows.laid_math_bits_deBruijn64tab),("internal/strconv.uint64pow10", Rows.laid_internal_strconv_uint64pow10),("padlock/room.reserved", Rows.laid_padlock_room_reserved)] w) false (World.laidAll Tryz.prog os [("math/bits.deBruijn32tab", Rows.laid_math_bits_deBruijn32tab),("math/bits.deBruijn64tab", Rows.laid_math_bits_deBruijn64tab),("internal/strconv.uint64pow10", Rows.laid_internal_strconv_uint64pow10),("padlock/room.reserved", Rows.laid_padlock_room_reserved)]) #[.agg #[.slice none 0 0,.slice none 0 0,.slice none 0 0,.slice none 0 0,.slice none 0 0,.slice none 0 0,.int .i64 0,.slice none 0 0],.agg #[.slice none 0 0,.slice none 0 0,.slice none 0 0]] 8 (World.laidAll_os _ _ _) (World.shaped_of_ZipB (by kernel_rfl) (by kernel_rfl)) (by kernel_rfl) (by kernel_rfl) (by kernel_rfl)
   (by rw [MakeChecks.laidMetH_plain _ _ _ (by kernel_rfl)]; exact laidMet_laidAll _ (by kernel_rfl) (by kernel_rfl))) ?_
 intro W base args ds gs before hval0 hW _ _ hL _
 have hval:∀ (j:Nat) t v,Tryz.f3.params[j]? = some t→args[j]? = some v→Value.okWide Tryz.prog W .any base t v:=hval0
 have hW':=hW
 obtain ⟨p,q,hA0,hV,rfl,hfz,hnd⟩:=hW
 have hA:DataW.TrodAll enc Tryz.prog W 0 (fun _=>true) true Tryz.f3.params.toList args.toList ds p:=hA0
 rw [Tryz.params3] at hA hval
 obtain ⟨v0,v1,d0,d1,p0,p1,rfl,rfl,rfl,h0,h1⟩:=trodAll_two hA
 obtain ⟨rfl,rfl⟩:=trodVars_none hV
 obtain ⟨g,hG⟩:=gOk_of_laidL hL
 obtain ⟨⟨c0⟩,rfl,_⟩:=okWide_struct Tryz.underlying31 (hval 0 31 v0 rfl rfl)
 obtain ⟨_,k0⟩:=h0
 obtain ⟨x0,e0,r0⟩:=Jnq k0
 change c0=_ at e0
 subst e0
 obtain ⟨⟨c1⟩,rfl,_⟩:=okWide_struct Tryz.underlying34 (hval 1 34 v1 rfl rfl)
 obtain ⟨_,k1⟩:=h1
 obtain ⟨x1,e1,r1⟩:=Jou k1
 change c1=_ at e1
 subst e1
 refine Calls.mono (Jf2 x0 W r0 g hG x1 r1) ?_
 rintro e W' ⟨rfl,hb⟩
 exact ⟨_,rfl,Jle laidOut (by kernel_rfl) rfl Tryz.underlying4 hW' rfl hb rfl rfl rfl⟩
theorem roomShows_holds:Rows.RoomShowsSaid :=
 OpenClaim.holds_of_wide 3 Tryz.f3 rfl rfl rfl rfl rfl rfl rfl ⟨rfl,rfl,rfl,rfl,rfl⟩ rfl rfl rfl rfl rfl (by kernel_rfl) Tryz.func3 roomShows_closed
  (of_decide_eq_true (by kernel_rfl)) (by unfold Func.isWrapper; first | (rw [if_pos (by decide +kernel)]; kernel_rfl) | (rw [if_neg (by decide +kernel)]; exact ⟨rfl,rfl⟩))
  (fun os started H enc _=>roomShows_lifted os started H enc)
theorem roomShows_card:Rows.RoomShowsCardSaid :=
 Claim7.holds_tied_plain_at .later [] [.data,.data,.data,.widerDeep] true (true, "053617055d583a362f6f508b926281926e184b4aeeac6771cf8cd91eadbfd520") true roomShows_holds (fun _ h=>by cases h) (by kernel_rfl) (fun _ h=>by cases h) roomShows_row_tie rfl ⟨rfl,rfl⟩ (by kernel_rfl) rfl
  (fun f fn hf hfn=>by
   obtain rfl:f=3:=Option.some.inj ((show Tryz.prog.funcNamed "padlock/padlocklaw02.RoomShows" = some 3 by kernel_rfl).symm.trans hf) |>.symm
   obtain rfl:fn=Tryz.f3:=(Option.some.inj (Tryz.func3.symm.trans hfn)).symm
   exact ⟨by kernel_rfl,fun j t ht=>by
    rw [Tryz.params3] at ht
    have hm:t∈[31,34]:=by simpa using Array.mem_of_getElem? ht
    have hall:([31,34].all fun u => !Tryz.prog.wantsStandIn u)=true:=by kernel_rfl
    exact (show Tryz.prog.wantsStandIn t=false by simpa using List.all_eq_true.1 hall t hm)⟩)
  (by kernel_rfl)
end Go.Proofs.YtdpbapffdmahnaaGreatDoor
