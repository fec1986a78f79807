/- The tied card of the law RoomParses: whatever the input, it returns true and the input reads as it did. Condition: the package variable room.reserved starts as the program's text lays it (tied). -/
import Derived.Test.YtkekjhcmephhjaaGreatDoorM1
import Derived.LaidSub
import Derived.Test.YtkekjhcmephhjaaGreatDoorZx
import Derived.Test.YtkekjhcmephhjaaGreatDoorZy
import Derived.Test.YtkekjhcmephhjaaGreatDoorTie
import Derived.Test.YtkekjhcmephhjaaGreatDoorCards
set_option maxHeartbeats 8000000
namespace Go.Proofs.YtkekjhcmephhjaaGreatDoor
open Go.ChangeShapes Go.WideShapes Go.ChangeAt Go.RowKit Go.Proofs Go.Joins
set_option maxRecDepth 100000
set_option linter.unusedVariables false
set_option linter.unusedSimpArgs false
theorem own:ownKnob Tryz.prog.godebug=none:=by kernel_rfl
theorem laidOut:laidOutB Tryz.prog=true:=by kernel_rfl
theorem gOk_of_laidL {W:World} (h:laidMetH Tryz.prog [("math/bits.deBruijn32tab", Rows.laid_math_bits_deBruijn32tab),("math/bits.deBruijn64tab", Rows.laid_math_bits_deBruijn64tab),("internal/strconv.uint64pow10", Rows.laid_internal_strconv_uint64pow10),("unicode/utf8.acceptRanges", Rows.laid_unicode_utf8_acceptRanges),("strconv.ErrRange", Rows.laid_strconv_ErrRange),("strconv.ErrSyntax", Rows.laid_strconv_ErrSyntax),("padlock/room.reserved", Rows.laid_padlock_room_reserved),("padlock/room.kinds", Rows.laid_padlock_room_kinds),("unicode/utf8.first", Rows.laid_unicode_utf8_first)] W):∃ g,GOk W g:=Jkn (by
 have h2:=h.filter (fun x=>x.1 == "padlock/room.reserved")
 exact h2)
theorem kOk_of_laidL {W:World} (h0:laidMetH Tryz.prog [("math/bits.deBruijn32tab", Rows.laid_math_bits_deBruijn32tab),("math/bits.deBruijn64tab", Rows.laid_math_bits_deBruijn64tab),("internal/strconv.uint64pow10", Rows.laid_internal_strconv_uint64pow10),("unicode/utf8.acceptRanges", Rows.laid_unicode_utf8_acceptRanges),("strconv.ErrRange", Rows.laid_strconv_ErrRange),("strconv.ErrSyntax", Rows.laid_strconv_ErrSyntax),("padlock/room.reserved", Rows.laid_padlock_room_reserved),("padlock/room.kinds", Rows.laid_padlock_room_kinds),("unicode/utf8.first", Rows.laid_unicode_utf8_first)] W):∃ g,KOk W g:=by
 have h2:=h0.filter (fun x=>x.1 == "padlock/room.kinds")
 have h:laidMetH Tryz.prog [("padlock/room.kinds", Rows.laid_padlock_room_kinds)] W:=h2
 rw [MakeChecks.laidMetH_plain _ _ _ (by kernel_rfl)] at h
 obtain ⟨ps,⟨gg,t,cs,fuel,p,q,hg,ht,hv,hd,_,_⟩,_,_⟩:=h
 obtain rfl:=Option.some.inj ((show Tryz.prog.globalNamed "padlock/room.kinds" = some 0 by kernel_rfl).symm.trans hg)
 obtain rfl:=Option.some.inj ((show (Tryz.prog.globals[0]?).map (·.type)=some 23 by kernel_rfl).symm.trans ht)
 have hc:Tryz.prog.cellsOf 9=1:=by kernel_rfl
 obtain ⟨s,e,_⟩:=((Jlo Tryz.underlying23 (by kernel_rfl) (by decide) (Jtx Tryz.underlying9)):Rd (fun _=>()) Tryz.prog W 0 false 23 (cSl cStr)) _ _ _ hd
 have e1:cs.toList=[s.v]:=e
 rw [e1] at hd
 have hs:=Jir Tryz.underlying23 Tryz.underlying9 hc hd (l:=kindsL) (sp:=[]) rfl
 refine ⟨⟨s.v,kindsL⟩,rfl,fun u hb=>⟨?_,hs.ext hb⟩⟩
 refine Jdj hb (Nat.le_refl _) ?_
 rw [World.var?_cell hg hv 0]
 have:cs[0]? = cs.toList[0]?:=by simp
 rw [this,e1]; rfl
theorem roomParses_k1:(Rows.roomParsesRow.wf (OpenSpec.ofChange Rows.roomParsesSpec))=true:=by kernel_rfl
theorem roomParses_k4:(Tryz.f3.params.all (Tryz.prog.readableRec ·))=true:=by kernel_rfl
theorem roomParses_k5:(namedTie Tryz.prog Rows.roomParsesRow.named Rows.roomParsesSpec.vars)=true:=by kernel_rfl
theorem roomParses_k6:((Rows.roomParsesRow.stops == []))=true:=by kernel_rfl
theorem roomParses_k8:((Rows.roomParsesRow.knobs == []))=true:=by kernel_rfl
theorem roomParses_k10:((Rows.roomParsesRow.inPlace == Tryz.prog.inPlace 3))=true:=by kernel_rfl
theorem roomParses_k11:((Rows.roomParsesRow.unfollowed == Tryz.prog.unfollowed 3))=true:=by kernel_rfl
theorem roomParses_k12:((Rows.roomParsesRow.recurses == Tryz.prog.recurses 3))=true:=by kernel_rfl
theorem roomParses_k13:((Rows.roomParsesRow.named == Tryz.prog.varsNamed 3))=true:=by kernel_rfl
theorem roomParses_k14:((Rows.roomParsesRow.maps == (Tryz.f3.params.toList++Rows.roomParsesSpec.plain.varTypes Tryz.prog).any (Tryz.prog.mapsRec ·)))=true:=by kernel_rfl
theorem roomParses_k15:((Rows.roomParsesRow.ifaces == (Tryz.f3.params.toList++Rows.roomParsesSpec.plain.varTypes Tryz.prog).any (Tryz.prog.ifacesRec ·)))=true:=by kernel_rfl
theorem roomParses_k16:((Rows.roomParsesRow.mapsOut == Tryz.prog.mapsAmong Tryz.f3.resultTypes.toList))=true:=by kernel_rfl
theorem roomParses_k17:((Rows.roomParsesRow.loops == (Tryz.f3.params.toList++Rows.roomParsesSpec.plain.varTypes Tryz.prog).any (Tryz.prog.loopsFrom ·)))=true:=by kernel_rfl
theorem roomParses_k18:((Rows.roomParsesRow.wideKeys == (Tryz.f3.params.toList++Rows.roomParsesSpec.plain.varTypes Tryz.prog++Tryz.f3.resultTypes.toList).any (Tryz.prog.wideKeysFrom ·)))=true:=by kernel_rfl
theorem roomParses_k19:(Rows.roomParsesSpec.vars.all (Tryz.prog.varReadable ·))=true:=by kernel_rfl
theorem roomParses_k20:(Tryz.f3.resultTypes.all (fun t=>Tryz.prog.readableRec t && decide (t < Tryz.prog.types.size)))=true:=by kernel_rfl
theorem roomParses_k21:((Rows.roomParsesRow.ifacesOut == Tryz.f3.resultTypes.toList.any (Tryz.prog.ifacesRec ·)))=true:=by kernel_rfl
theorem roomParses_k22:((Rows.roomParsesRow.loopsOut == Tryz.f3.resultTypes.toList.any (Tryz.prog.loopsFrom ·)))=true:=by kernel_rfl
theorem roomParses_k24:(Rows.roomParsesRow.shortTexts.isNone)=true:=by kernel_rfl
theorem roomParses_k29:((Rows.roomParsesRow.kinds == (if Rows.roomParsesRow.domain.isEmpty then [] else Tryz.f3.params.toList.map fun t=>match Tryz.prog.underlying t with | some (.int k)=>some k | _=>none)))=true:=by kernel_rfl
theorem roomParses_k30:((Rows.roomParsesRow.pinned == Rows.roomParsesRow.pinnedBy))=true:=by kernel_rfl
theorem roomParses_k31:((Rows.roomParsesRow.veiled == (Tryz.f3.params.toList++Rows.roomParsesSpec.plain.varTypes Tryz.prog++Tryz.f3.resultTypes.toList).any (Tryz.prog.veiledRec ·)))=true:=by kernel_rfl
theorem roomParses_k32:(Rows.roomParsesRow.veiledFits Tryz.prog Tryz.f3.params.toList (Tryz.f3.params.toList++Rows.roomParsesSpec.plain.varTypes Tryz.prog++Tryz.f3.resultTypes.toList))=true:=by kernel_rfl
theorem roomParses_closed:joinedFacts Tryz.prog 3 Tryz.f3 Rows.roomParsesSpec Rows.roomParsesRow=true:=(bd_ (bd_ (bd_ (bd_ (bd_ (bd_ (bd_ (bd_ (bd_ (bd_ (bd_ (bd_ (bd_ (bd_ (bd_ (bd_ (bd_ (bd_ (bd_ (bd_ (bd_ (bd_ (bd_ (bd_ (bd_ (bd_ (bd_ (bd_ (bd_ (bd_ (bd_ roomParses_k1 Jve) Juo) roomParses_k4) roomParses_k5) roomParses_k6) Jvi) roomParses_k8) Juc) roomParses_k10) roomParses_k11) roomParses_k12) roomParses_k13) roomParses_k14) roomParses_k15) roomParses_k16) roomParses_k17) roomParses_k18) roomParses_k19) roomParses_k20) roomParses_k21) roomParses_k22) Jtb) roomParses_k24) Jrr) Js6) Jtf) Jrg) roomParses_k29) roomParses_k30) roomParses_k31) roomParses_k32)
set_option maxHeartbeats 2000000 in
theorem roomParses_lifted (os:Os) (started:os.Started) (H:Type) (enc:TypeId × Value→H) :
  ReturnsInHanded {} Tryz.checked os 3 .any (fun w args=>(Rows.roomParsesSpec.pre enc Tryz.prog Tryz.f3 Rows.roomParsesRow.domain Rows.roomParsesRow.apart w args∧laidMetH Tryz.prog [("math/bits.deBruijn32tab", Rows.laid_math_bits_deBruijn32tab),("math/bits.deBruijn64tab", Rows.laid_math_bits_deBruijn64tab),("internal/strconv.uint64pow10", Rows.laid_internal_strconv_uint64pow10),("unicode/utf8.acceptRanges", Rows.laid_unicode_utf8_acceptRanges),("strconv.ErrRange", Rows.laid_strconv_ErrRange),("strconv.ErrSyntax", Rows.laid_strconv_ErrSyntax),("padlock/room.reserved", Rows.laid_padlock_room_reserved),("padlock/room.kinds", Rows.laid_padlock_room_kinds),("unicode/utf8.first", Rows.laid_unicode_utf8_first)] w)∧sizedMet enc Tryz.prog Tryz.f3 (OpenSpec.ofChange Rows.roomParsesSpec) Rows.roomParsesRow.apart w args)
   (Rows.roomParsesSpec.post enc Tryz.prog Tryz.f3 Rows.roomParsesRow.apart Rows.roomParsesRow.fresh Rows.roomParsesRow.handsOn Rows.roomParsesRow.again):=by
 refine Jht (C:=Tryz.checked) (X:=fun w _=>laidMetH Tryz.prog [("math/bits.deBruijn32tab", Rows.laid_math_bits_deBruijn32tab),("math/bits.deBruijn64tab", Rows.laid_math_bits_deBruijn64tab),("internal/strconv.uint64pow10", Rows.laid_internal_strconv_uint64pow10),("unicode/utf8.acceptRanges", Rows.laid_unicode_utf8_acceptRanges),("strconv.ErrRange", Rows.laid_strconv_ErrRange),("strconv.ErrSyntax", Rows.laid_strconv_ErrSyntax),("padlock/room.reserved", Rows.laid_padlock_room_reserved),("padlock/room.kinds", Rows.laid_padlock_room_kinds),("unicode/utf8.first", Rows.laid_unicode_utf8_first)] w) (fun _ _ _ hh h=>h.of_heap hh) own started (by kernel_rfl) Tryz.func3
  (ChangeSpec.witness_shaped (enc:=enc) (C:=Tryz.checked) (X:=fun w _=>laidMetH Tryz.prog [("math/bits.deBruijn32tab", Rows.laid_math_bits_deBruijn32tab),("math/bits.deBruijn64tab", Rows.laid_math_bits_deBruijn64tab),("internal/strconv.uint64pow10", Rows.laid_internal_strconv_uint64pow10),("unicode/utf8.acceptRanges", Rows.laid_unicode_utf8_acceptRanges),("strconv.ErrRange", Rows.laid_strconv_ErrRange),("strconv.ErrSyntax", Rows.laid_strconv_ErrSyntax),("padlock/room.reserved", Rows.laid_padlock_room_reserved),("padlock/room.kinds", Rows.laid_padlock_room_kinds),("unicode/utf8.first", Rows.laid_unicode_utf8_first)] w) false (World.laidAll Tryz.prog os [("math/bits.deBruijn32tab", Rows.laid_math_bits_deBruijn32tab),("math/bits.deBruijn64tab", Rows.laid_math_bits_deBruijn64tab),("internal/strconv.uint64pow10", Rows.laid_internal_strconv_uint64pow10),("unicode/utf8.acceptRanges", Rows.laid_unicode_utf8_acceptRanges),("strconv.ErrRange", Rows.laid_strconv_ErrRange),("strconv.ErrSyntax", Rows.laid_strconv_ErrSyntax),("padlock/room.reserved", Rows.laid_padlock_room_reserved),("padlock/room.kinds", Rows.laid_padlock_room_kinds),("unicode/utf8.first", Rows.laid_unicode_utf8_first)]) #[.string ⟨#[]⟩] 8 (World.laidAll_os _ _ _) (World.shaped_of_ZipB (by kernel_rfl) (by kernel_rfl)) (by kernel_rfl) (by kernel_rfl) (by kernel_rfl)
   (by rw [MakeChecks.laidMetH_plain _ _ _ (by kernel_rfl)]; exact laidMet_laidAll _ (by kernel_rfl) (by kernel_rfl))) ?_
 intro W base args ds gs before hsh hval0 hW hL
 have hval:∀ (j:Nat) t v,Tryz.f3.params[j]? = some t→args[j]? = some v→Value.okWide Tryz.prog W .any base t v:=hval0
 have hW':=hW
 obtain ⟨p,q,hA0,hV,rfl,hfz,hnd⟩:=hW
 have hA:DataW.TrodAll enc Tryz.prog W 0 (fun _=>true) true Tryz.f3.params.toList args.toList ds p:=hA0
 rw [Tryz.params3] at hA hval
 obtain ⟨v0,d0,rfl,rfl,h0⟩:=trodAll_one hA
 obtain ⟨rfl,rfl⟩:=trodVars_none hV
 obtain ⟨g,hG⟩:=gOk_of_laidL hL
 obtain ⟨gk,hK⟩:=kOk_of_laidL hL
 obtain ⟨x0,rfl⟩:=okWide_string Tryz.underlying9 (hval 0 9 v0 rfl rfl)
 refine Calls.mono (Jja x0 W g hG gk hK (Jsy hsh)) ?_
 rintro e W' ⟨rfl,hb⟩
 exact ⟨_,rfl,Jq4 laidOut (by kernel_rfl) rfl Tryz.underlying4 hW' rfl hb rfl rfl rfl⟩
theorem roomParses_holds:Rows.RoomParsesSaid :=
 OpenClaim.holds_of_wide 3 Tryz.f3 rfl rfl rfl rfl rfl rfl rfl ⟨rfl,rfl,rfl,rfl,rfl⟩ rfl rfl rfl rfl rfl (by kernel_rfl) Tryz.func3 roomParses_closed
  (of_decide_eq_true (by kernel_rfl)) (by unfold Func.isWrapper; first | (rw [if_pos (by decide +kernel)]; kernel_rfl) | (rw [if_neg (by decide +kernel)]; exact ⟨rfl,rfl⟩))
  (fun os started H enc _=>roomParses_lifted os started H enc)
theorem roomParses_card:Rows.RoomParsesCardSaid :=
 Claim7.holds_tied_plain_at .later [] [.data,.data,.data,.data,.sentinel,.sentinel,.widerDeep,.widerDeep,.pinned] true (true, "1da686ef83c8d1eb36e46d7a83acad393e5a19f5a3fe850798a9d87c1f4356b5") true roomParses_holds (fun _ h=>by cases h) (by kernel_rfl) (fun _ h=>by cases h) roomParses_row_tie rfl ⟨rfl,rfl⟩ (by kernel_rfl) rfl
  (fun f fn hf hfn=>by
   obtain rfl:f=3:=Option.some.inj ((show Tryz.prog.funcNamed "padlock/padlocklaw02.RoomParses" = some 3 by kernel_rfl).symm.trans hf) |>.symm
   obtain rfl:fn=Tryz.f3:=(Option.some.inj (Tryz.func3.symm.trans hfn)).symm
   exact ⟨by kernel_rfl,fun j t ht=>by
    rw [Tryz.params3] at ht
    have hm:t∈[9]:=by simpa using Array.mem_of_getElem? ht
    have hall:([9].all fun u => !Tryz.prog.wantsStandIn u)=true:=by kernel_rfl
    exact (show Tryz.prog.wantsStandIn t=false by simpa using List.all_eq_true.1 hall t hm)⟩)
  (by kernel_rfl)
end Go.Proofs.YtkekjhcmephhjaaGreatDoor
