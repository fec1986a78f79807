/- The tied card of the law RoomFormats: whatever the input, it returns true and the input reads as it did. Condition: the package variable room.reserved starts as the program's text lays it (tied). -/
import Derived.Test.YtkekjhcmephhjaaGreatDoorM2
import Derived.LaidSub
import Derived.Test.YtkekjhcmephhjaaGreatDoorZx
import Derived.Test.YtkekjhcmephhjaaGreatDoorZy
import Derived.Test.YtkekjhcmephhjaaGreatDoorTie
import Derived.Test.YtkekjhcmephhjaaGreatDoorCards
set_option maxHeartbeats 8000000
namespace Go.Proofs.YtkekjhcmephhjaaGreatDoor
open Go.ChangeShapes Go.WideShapes Go.ChangeAt Go.RowKit Go.Proofs Go.Joins
set_option maxRecDepth 100000
set_option linter.unusedVariables false
set_option linter.unusedSimpArgs false
theorem own:ownKnob Tryz.prog.godebug=none:=by kernel_rfl
theorem laidOut:laidOutB Tryz.prog=true:=by kernel_rfl
theorem gOk_of_laidL {W:World} (h:laidMetH Tryz.prog [("math/bits.deBruijn32tab", Rows.laid_math_bits_deBruijn32tab),("math/bits.deBruijn64tab", Rows.laid_math_bits_deBruijn64tab),("internal/strconv.uint64pow10", Rows.laid_internal_strconv_uint64pow10),("unicode/utf8.acceptRanges", Rows.laid_unicode_utf8_acceptRanges),("strconv.ErrRange", Rows.laid_strconv_ErrRange),("strconv.ErrSyntax", Rows.laid_strconv_ErrSyntax),("padlock/room.reserved", Rows.laid_padlock_room_reserved),("padlock/room.kinds", Rows.laid_padlock_room_kinds),("unicode/utf8.first", Rows.laid_unicode_utf8_first)] W):∃ g,GOk W g:=Jmy (by
 have h2:=h.filter (fun x=>x.1 == "padlock/room.reserved")
 exact h2)
theorem kOk_of_laidL {W:World} (h0:laidMetH Tryz.prog [("math/bits.deBruijn32tab", Rows.laid_math_bits_deBruijn32tab),("math/bits.deBruijn64tab", Rows.laid_math_bits_deBruijn64tab),("internal/strconv.uint64pow10", Rows.laid_internal_strconv_uint64pow10),("unicode/utf8.acceptRanges", Rows.laid_unicode_utf8_acceptRanges),("strconv.ErrRange", Rows.laid_strconv_ErrRange),("strconv.ErrSyntax", Rows.laid_strconv_ErrSyntax),("padlock/room.reserved", Rows.laid_padlock_room_reserved),("padlock/room.kinds", Rows.laid_padlock_room_kinds),("unicode/utf8.first", Rows.laid_unicode_utf8_first)] W):∃ g,KOk W g:=by
 have h2:=h0.filter (fun x=>x.1 == "padlock/room.kinds")
 have h:laidMetH Tryz.prog [("padlock/room.kinds", Rows.laid_padlock_room_kinds)] W:=h2
 rw [MakeChecks.laidMetH_plain _ _ _ (by kernel_rfl)] at h
 obtain ⟨ps,⟨gg,t,cs,fuel,p,q,hg,ht,hv,hd,_,_⟩,_,_⟩:=h
 obtain rfl:=Option.some.inj ((show Tryz.prog.globalNamed "padlock/room.kinds" = some 0 by kernel_rfl).symm.trans hg)
 obtain rfl:=Option.some.inj ((show (Tryz.prog.globals[0]?).map (·.type)=some 23 by kernel_rfl).symm.trans ht)
 have hc:Tryz.prog.cellsOf 9=1:=by kernel_rfl
 obtain ⟨s,e,_⟩:=((Jbm Tryz.underlying23 (by kernel_rfl) (by decide) (Jjk Tryz.underlying9)):Rd (fun _=>()) Tryz.prog W 0 false 23 (cSl cStr)) _ _ _ hd
 have e1:cs.toList=[s.v]:=e
 rw [e1] at hd
 have hs:=Jld Tryz.underlying23 Tryz.underlying9 hc hd (l:=kindsL) (sp:=[]) rfl
 refine ⟨⟨s.v,kindsL⟩,rfl,fun u hb=>⟨?_,hs.ext hb⟩⟩
 refine Jfj hb (Nat.le_refl _) ?_
 rw [World.var?_cell hg hv 0]
 have:cs[0]? = cs.toList[0]?:=by simp
 rw [this,e1]; rfl
theorem roomFormats_k1:(Rows.roomFormatsRow.wf (OpenSpec.ofChange Rows.roomFormatsSpec))=true:=by kernel_rfl
theorem roomFormats_k4:(Tryz.f4.params.all (Tryz.prog.readableRec ·))=true:=by kernel_rfl
theorem roomFormats_k5:(namedTie Tryz.prog Rows.roomFormatsRow.named Rows.roomFormatsSpec.vars)=true:=by kernel_rfl
theorem roomFormats_k6:((Rows.roomFormatsRow.stops == []))=true:=by kernel_rfl
theorem roomFormats_k8:((Rows.roomFormatsRow.knobs == []))=true:=by kernel_rfl
theorem roomFormats_k10:((Rows.roomFormatsRow.inPlace == Tryz.prog.inPlace 4))=true:=by kernel_rfl
theorem roomFormats_k11:((Rows.roomFormatsRow.unfollowed == Tryz.prog.unfollowed 4))=true:=by kernel_rfl
theorem roomFormats_k12:((Rows.roomFormatsRow.recurses == Tryz.prog.recurses 4))=true:=by kernel_rfl
theorem roomFormats_k13:((Rows.roomFormatsRow.named == Tryz.prog.varsNamed 4))=true:=by kernel_rfl
theorem roomFormats_k14:((Rows.roomFormatsRow.maps == (Tryz.f4.params.toList++Rows.roomFormatsSpec.plain.varTypes Tryz.prog).any (Tryz.prog.mapsRec ·)))=true:=by kernel_rfl
theorem roomFormats_k15:((Rows.roomFormatsRow.ifaces == (Tryz.f4.params.toList++Rows.roomFormatsSpec.plain.varTypes Tryz.prog).any (Tryz.prog.ifacesRec ·)))=true:=by kernel_rfl
theorem roomFormats_k16:((Rows.roomFormatsRow.mapsOut == Tryz.prog.mapsAmong Tryz.f4.resultTypes.toList))=true:=by kernel_rfl
theorem roomFormats_k17:((Rows.roomFormatsRow.loops == (Tryz.f4.params.toList++Rows.roomFormatsSpec.plain.varTypes Tryz.prog).any (Tryz.prog.loopsFrom ·)))=true:=by kernel_rfl
theorem roomFormats_k18:((Rows.roomFormatsRow.wideKeys == (Tryz.f4.params.toList++Rows.roomFormatsSpec.plain.varTypes Tryz.prog++Tryz.f4.resultTypes.toList).any (Tryz.prog.wideKeysFrom ·)))=true:=by kernel_rfl
theorem roomFormats_k19:(Rows.roomFormatsSpec.vars.all (Tryz.prog.varReadable ·))=true:=by kernel_rfl
theorem roomFormats_k20:(Tryz.f4.resultTypes.all (fun t=>Tryz.prog.readableRec t && decide (t < Tryz.prog.types.size)))=true:=by kernel_rfl
theorem roomFormats_k21:((Rows.roomFormatsRow.ifacesOut == Tryz.f4.resultTypes.toList.any (Tryz.prog.ifacesRec ·)))=true:=by kernel_rfl
theorem roomFormats_k22:((Rows.roomFormatsRow.loopsOut == Tryz.f4.resultTypes.toList.any (Tryz.prog.loopsFrom ·)))=true:=by kernel_rfl
theorem roomFormats_k24:(Rows.roomFormatsRow.shortTexts.isNone)=true:=by kernel_rfl
theorem roomFormats_k29:((Rows.roomFormatsRow.kinds == (if Rows.roomFormatsRow.domain.isEmpty then [] else Tryz.f4.params.toList.map fun t=>match Tryz.prog.underlying t with | some (.int k)=>some k | _=>none)))=true:=by kernel_rfl
theorem roomFormats_k30:((Rows.roomFormatsRow.pinned == Rows.roomFormatsRow.pinnedBy))=true:=by kernel_rfl
theorem roomFormats_k31:((Rows.roomFormatsRow.veiled == (Tryz.f4.params.toList++Rows.roomFormatsSpec.plain.varTypes Tryz.prog++Tryz.f4.resultTypes.toList).any (Tryz.prog.veiledRec ·)))=true:=by kernel_rfl
theorem roomFormats_k32:(Rows.roomFormatsRow.veiledFits Tryz.prog Tryz.f4.params.toList (Tryz.f4.params.toList++Rows.roomFormatsSpec.plain.varTypes Tryz.prog++Tryz.f4.resultTypes.toList))=true:=by kernel_rfl
theorem roomFormats_closed:joinedFacts Tryz.prog 4 Tryz.f4 Rows.roomFormatsSpec Rows.roomFormatsRow=true:=(bd_ (bd_ (bd_ (bd_ (bd_ (bd_ (bd_ (bd_ (bd_ (bd_ (bd_ (bd_ (bd_ (bd_ (bd_ (bd_ (bd_ (bd_ (bd_ (bd_ (bd_ (bd_ (bd_ (bd_ (bd_ (bd_ (bd_ (bd_ (bd_ (bd_ (bd_ roomFormats_k1 Jzg) J0j) roomFormats_k4) roomFormats_k5) roomFormats_k6) Jz1) roomFormats_k8) Jy1) roomFormats_k10) roomFormats_k11) roomFormats_k12) roomFormats_k13) roomFormats_k14) roomFormats_k15) roomFormats_k16) roomFormats_k17) roomFormats_k18) roomFormats_k19) roomFormats_k20) roomFormats_k21) roomFormats_k22) Jvw) roomFormats_k24) Jw0) Jvi) Jv9) Jxl) roomFormats_k29) roomFormats_k30) roomFormats_k31) roomFormats_k32)
set_option maxHeartbeats 2000000 in
theorem roomFormats_lifted (os:Os) (started:os.Started) (H:Type) (enc:TypeId × Value→H) :
  ReturnsInHanded {} Tryz.checked os 4 .any (fun w args=>(Rows.roomFormatsSpec.pre enc Tryz.prog Tryz.f4 Rows.roomFormatsRow.domain Rows.roomFormatsRow.apart w args∧laidMetH Tryz.prog [("math/bits.deBruijn32tab", Rows.laid_math_bits_deBruijn32tab),("math/bits.deBruijn64tab", Rows.laid_math_bits_deBruijn64tab),("internal/strconv.uint64pow10", Rows.laid_internal_strconv_uint64pow10),("unicode/utf8.acceptRanges", Rows.laid_unicode_utf8_acceptRanges),("strconv.ErrRange", Rows.laid_strconv_ErrRange),("strconv.ErrSyntax", Rows.laid_strconv_ErrSyntax),("padlock/room.reserved", Rows.laid_padlock_room_reserved),("padlock/room.kinds", Rows.laid_padlock_room_kinds),("unicode/utf8.first", Rows.laid_unicode_utf8_first)] w)∧sizedMet enc Tryz.prog Tryz.f4 (OpenSpec.ofChange Rows.roomFormatsSpec) Rows.roomFormatsRow.apart w args)
   (Rows.roomFormatsSpec.post enc Tryz.prog Tryz.f4 Rows.roomFormatsRow.apart Rows.roomFormatsRow.fresh Rows.roomFormatsRow.handsOn Rows.roomFormatsRow.again):=by
 refine Jkl (C:=Tryz.checked) (X:=fun w _=>laidMetH Tryz.prog [("math/bits.deBruijn32tab", Rows.laid_math_bits_deBruijn32tab),("math/bits.deBruijn64tab", Rows.laid_math_bits_deBruijn64tab),("internal/strconv.uint64pow10", Rows.laid_internal_strconv_uint64pow10),("unicode/utf8.acceptRanges", Rows.laid_unicode_utf8_acceptRanges),("strconv.ErrRange", Rows.laid_strconv_ErrRange),("strconv.ErrSyntax", Rows.laid_strconv_ErrSyntax),("padlock/room.reserved", Rows.laid_padlock_room_reserved),("padlock/room.kinds", Rows.laid_padlock_room_kinds),("unicode/utf8.first", Rows.laid_unicode_utf8_first)] w) (fun _ _ _ hh h=>h.of_heap hh) own started (by kernel_rfl) Tryz.func4
  (ChangeSpec.witness_shaped (enc:=enc) (C:=Tryz.checked) (X:=fun w _=>laidMetH Tryz.prog [("math/bits.deBruijn32tab", Rows.laid_math_bits_deBruijn32tab),("math/bits.deBruijn64tab", Rows.laid_math_bits_deBruijn64tab),("internal/strconv.uint64pow10", Rows.laid_internal_strconv_uint64pow10),("unicode/utf8.acceptRanges", Rows.laid_unicode_utf8_acceptRanges),("strconv.ErrRange", Rows.laid_strconv_ErrRange),("strconv.ErrSyntax", Rows.laid_strconv_ErrSyntax),("padlock/room.reserved", Rows.laid_padlock_room_reserved),("padlock/room.kinds", Rows.laid_padlock_room_kinds),("unicode/utf8.first", Rows.laid_unicode_utf8_first)] w) false (World.laidAll Tryz.prog os [("math/bits.deBruijn32tab", Rows.laid_math_bits_deBruijn32tab),("math/bits.deBruijn64tab", Rows.laid_math_bits_deBruijn64tab),("internal/strconv.uint64pow10", Rows.laid_internal_strconv_uint64pow10),("unicode/utf8.acceptRanges", Rows.laid_unicode_utf8_acceptRanges),("strconv.ErrRange", Rows.laid_strconv_ErrRange),("strconv.ErrSyntax", Rows.laid_strconv_ErrSyntax),("padlock/room.reserved", Rows.laid_padlock_room_reserved),("padlock/room.kinds", Rows.laid_padlock_room_kinds),("unicode/utf8.first", Rows.laid_unicode_utf8_first)]) #[.agg #[.slice none 0 0,.slice none 0 0,.slice none 0 0,.slice none 0 0,.slice none 0 0,.slice none 0 0,.int .i64 0,.slice none 0 0],.agg #[.slice none 0 0,.slice none 0 0,.slice none 0 0,.slice none 0 0,.slice none 0 0,.slice none 0 0,.int .i64 0,.slice none 0 0]] 8 (World.laidAll_os _ _ _) (World.shaped_of_ZipB (by kernel_rfl) (by kernel_rfl)) (by kernel_rfl) (by kernel_rfl) (by kernel_rfl)
   (by rw [MakeChecks.laidMetH_plain _ _ _ (by kernel_rfl)]; exact laidMet_laidAll _ (by kernel_rfl) (by kernel_rfl))) ?_
 intro W base args ds gs before hsh hval0 hW hL
 have hval:∀ (j:Nat) t v,Tryz.f4.params[j]? = some t→args[j]? = some v→Value.okWide Tryz.prog W .any base t v:=hval0
 have hW':=hW
 obtain ⟨p,q,hA0,hV,rfl,hfz,hnd⟩:=hW
 have hA:DataW.TrodAll enc Tryz.prog W 0 (fun _=>true) true Tryz.f4.params.toList args.toList ds p:=hA0
 rw [Tryz.params4] at hA hval
 obtain ⟨v0,v1,d0,d1,p0,p1,rfl,rfl,rfl,h0,h1⟩:=trodAll_two hA
 obtain ⟨rfl,rfl⟩:=trodVars_none hV
 obtain ⟨g,hG⟩:=gOk_of_laidL hL
 obtain ⟨gk,hK⟩:=kOk_of_laidL hL
 obtain ⟨⟨c0⟩,rfl,_⟩:=okWide_struct Tryz.underlying32 (hval 0 32 v0 rfl rfl)
 obtain ⟨_,k0⟩:=h0
 obtain ⟨x0,e0,r0⟩:=Jtz k0
 change c0=_ at e0
 subst e0
 obtain ⟨⟨c1⟩,rfl,_⟩:=okWide_struct Tryz.underlying32 (hval 1 32 v1 rfl rfl)
 obtain ⟨_,k1⟩:=h1
 obtain ⟨x1,e1,r1⟩:=Jtz k1
 change c1=_ at e1
 subst e1
 refine Calls.mono (Jk5 x0 x1 W r0 r1 g hG gk hK (Jwc hsh)) ?_
 rintro e W' ⟨rfl,hb⟩
 exact ⟨_,rfl,Jvc laidOut (by kernel_rfl) rfl Tryz.underlying4 hW' rfl hb rfl rfl rfl⟩
theorem roomFormats_holds:Rows.RoomFormatsSaid :=
 OpenClaim.holds_of_wide 4 Tryz.f4 rfl rfl rfl rfl rfl rfl rfl ⟨rfl,rfl,rfl,rfl,rfl⟩ rfl rfl rfl rfl rfl (by kernel_rfl) Tryz.func4 roomFormats_closed
  (of_decide_eq_true (by kernel_rfl)) (by unfold Func.isWrapper; first | (rw [if_pos (by decide +kernel)]; kernel_rfl) | (rw [if_neg (by decide +kernel)]; exact ⟨rfl,rfl⟩))
  (fun os started H enc _=>roomFormats_lifted os started H enc)
theorem roomFormats_card:Rows.RoomFormatsCardSaid :=
 Claim7.holds_tied_plain_at .later [] [.data,.data,.data,.data,.sentinel,.sentinel,.widerDeep,.widerDeep,.pinned] true (true, "1da686ef83c8d1eb36e46d7a83acad393e5a19f5a3fe850798a9d87c1f4356b5") true roomFormats_holds (fun _ h=>by cases h) (by kernel_rfl) (fun _ h=>by cases h) roomFormats_row_tie rfl ⟨rfl,rfl⟩ (by kernel_rfl) rfl
  (fun f fn hf hfn=>by
   obtain rfl:f=4:=Option.some.inj ((show Tryz.prog.funcNamed "padlock/padlocklaw02.RoomFormats" = some 4 by kernel_rfl).symm.trans hf) |>.symm
   obtain rfl:fn=Tryz.f4:=(Option.some.inj (Tryz.func4.symm.trans hfn)).symm
   exact ⟨by kernel_rfl,fun j t ht=>by
    rw [Tryz.params4] at ht
    have hm:t∈[32,32]:=by simpa using Array.mem_of_getElem? ht
    have hall:([32,32].all fun u => !Tryz.prog.wantsStandIn u)=true:=by kernel_rfl
    exact (show Tryz.prog.wantsStandIn t=false by simpa using List.all_eq_true.1 hall t hm)⟩)
  (by kernel_rfl)
end Go.Proofs.YtkekjhcmephhjaaGreatDoor
