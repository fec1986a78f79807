/- The tied card of the law RecordFormats: whatever the input, it returns true and the input reads as it did. Condition: the package variable room.reserved starts as the program's text lays it (tied). -/
import Derived.Test.YtfbfdnoodccgiaaGreatDoorY2
import Derived.LaidSub
import Derived.Test.YtfbfdnoodccgiaaGreatDoorZx
import Derived.Test.YtfbfdnoodccgiaaGreatDoorZy
import Derived.Test.YtfbfdnoodccgiaaGreatDoorTie
import Derived.Test.YtfbfdnoodccgiaaGreatDoorCards
set_option maxHeartbeats 8000000
namespace Go.Proofs.YtfbfdnoodccgiaaGreatDoor
open Go.ChangeShapes Go.WideShapes Go.ChangeAt Go.RowKit Go.Proofs Go.Joins
set_option maxRecDepth 100000
set_option linter.unusedVariables false
set_option linter.unusedSimpArgs false
theorem own:ownKnob Tryz.prog.godebug=none:=by kernel_rfl
theorem laidOut:laidOutB Tryz.prog=true:=by kernel_rfl
theorem recordFormats_k1:(Rows.recordFormatsRow.wf (OpenSpec.ofChange Rows.recordFormatsSpec))=true:=by kernel_rfl
theorem recordFormats_k4:(Tryz.f4.params.all (Tryz.prog.readableRec ·))=true:=by kernel_rfl
theorem recordFormats_k5:(namedTie Tryz.prog Rows.recordFormatsRow.named Rows.recordFormatsSpec.vars)=true:=by kernel_rfl
theorem recordFormats_k6:((Rows.recordFormatsRow.stops == []))=true:=by kernel_rfl
theorem recordFormats_k8:((Rows.recordFormatsRow.knobs == []))=true:=by kernel_rfl
theorem recordFormats_k10:((Rows.recordFormatsRow.inPlace == Tryz.prog.inPlace 4))=true:=by kernel_rfl
theorem recordFormats_k11:((Rows.recordFormatsRow.unfollowed == Tryz.prog.unfollowed 4))=true:=by kernel_rfl
theorem recordFormats_k12:((Rows.recordFormatsRow.recurses == Tryz.prog.recurses 4))=true:=by kernel_rfl
theorem recordFormats_k13:((Rows.recordFormatsRow.named == Tryz.prog.varsNamed 4))=true:=by kernel_rfl
theorem recordFormats_k14:((Rows.recordFormatsRow.maps == (Tryz.f4.params.toList++Rows.recordFormatsSpec.plain.varTypes Tryz.prog).any (Tryz.prog.mapsRec ·)))=true:=by kernel_rfl
theorem recordFormats_k15:((Rows.recordFormatsRow.ifaces == (Tryz.f4.params.toList++Rows.recordFormatsSpec.plain.varTypes Tryz.prog).any (Tryz.prog.ifacesRec ·)))=true:=by kernel_rfl
theorem recordFormats_k16:((Rows.recordFormatsRow.mapsOut == Tryz.prog.mapsAmong Tryz.f4.resultTypes.toList))=true:=by kernel_rfl
theorem recordFormats_k17:((Rows.recordFormatsRow.loops == (Tryz.f4.params.toList++Rows.recordFormatsSpec.plain.varTypes Tryz.prog).any (Tryz.prog.loopsFrom ·)))=true:=by kernel_rfl
theorem recordFormats_k18:((Rows.recordFormatsRow.wideKeys == (Tryz.f4.params.toList++Rows.recordFormatsSpec.plain.varTypes Tryz.prog++Tryz.f4.resultTypes.toList).any (Tryz.prog.wideKeysFrom ·)))=true:=by kernel_rfl
theorem recordFormats_k19:(Rows.recordFormatsSpec.vars.all (Tryz.prog.varReadable ·))=true:=by kernel_rfl
theorem recordFormats_k20:(Tryz.f4.resultTypes.all (fun t=>Tryz.prog.readableRec t && decide (t < Tryz.prog.types.size)))=true:=by kernel_rfl
theorem recordFormats_k21:((Rows.recordFormatsRow.ifacesOut == Tryz.f4.resultTypes.toList.any (Tryz.prog.ifacesRec ·)))=true:=by kernel_rfl
theorem recordFormats_k22:((Rows.recordFormatsRow.loopsOut == Tryz.f4.resultTypes.toList.any (Tryz.prog.loopsFrom ·)))=true:=by kernel_rfl
theorem recordFormats_k24:(Rows.recordFormatsRow.shortTexts.isNone)=true:=by kernel_rfl
theorem recordFormats_k29:((Rows.recordFormatsRow.kinds == (if Rows.recordFormatsRow.domain.isEmpty then [] else Tryz.f4.params.toList.map fun t=>match Tryz.prog.underlying t with | some (.int k)=>some k | _=>none)))=true:=by kernel_rfl
theorem recordFormats_k30:((Rows.recordFormatsRow.pinned == Rows.recordFormatsRow.pinnedBy))=true:=by kernel_rfl
theorem recordFormats_k31:((Rows.recordFormatsRow.veiled == (Tryz.f4.params.toList++Rows.recordFormatsSpec.plain.varTypes Tryz.prog++Tryz.f4.resultTypes.toList).any (Tryz.prog.veiledRec ·)))=true:=by kernel_rfl
theorem recordFormats_k32:(Rows.recordFormatsRow.veiledFits Tryz.prog Tryz.f4.params.toList (Tryz.f4.params.toList++Rows.recordFormatsSpec.plain.varTypes Tryz.prog++Tryz.f4.resultTypes.toList))=true:=by kernel_rfl
theorem recordFormats_closed:joinedFacts Tryz.prog 4 Tryz.f4 Rows.recordFormatsSpec Rows.recordFormatsRow=true:=(bd_ (bd_ (bd_ (bd_ (bd_ (bd_ (bd_ (bd_ (bd_ (bd_ (bd_ (bd_ (bd_ (bd_ (bd_ (bd_ (bd_ (bd_ (bd_ (bd_ (bd_ (bd_ (bd_ (bd_ (bd_ (bd_ (bd_ (bd_ (bd_ (bd_ (bd_ recordFormats_k1 J0x) J0d) recordFormats_k4) recordFormats_k5) recordFormats_k6) Jzj) recordFormats_k8) Jzw) recordFormats_k10) recordFormats_k11) recordFormats_k12) recordFormats_k13) recordFormats_k14) recordFormats_k15) recordFormats_k16) recordFormats_k17) recordFormats_k18) recordFormats_k19) recordFormats_k20) recordFormats_k21) recordFormats_k22) Jv4) recordFormats_k24) Jwp) Jww) Jx2) Jxv) recordFormats_k29) recordFormats_k30) recordFormats_k31) recordFormats_k32)
set_option maxHeartbeats 2000000 in
theorem recordFormats_lifted (os:Os) (started:os.Started) (H:Type) (enc:TypeId × Value→H) :
  ReturnsInHanded {} Tryz.checked os 4 .any (fun w args=>(Rows.recordFormatsSpec.pre enc Tryz.prog Tryz.f4 Rows.recordFormatsRow.domain Rows.recordFormatsRow.apart w args∧laidMetH Tryz.prog [("math/bits.deBruijn32tab", Rows.laid_math_bits_deBruijn32tab),("math/bits.deBruijn64tab", Rows.laid_math_bits_deBruijn64tab),("internal/strconv.uint64pow10", Rows.laid_internal_strconv_uint64pow10),("unicode/utf8.acceptRanges", Rows.laid_unicode_utf8_acceptRanges),("strconv.ErrRange", Rows.laid_strconv_ErrRange),("strconv.ErrSyntax", Rows.laid_strconv_ErrSyntax),("padlock/room.reserved", Rows.laid_padlock_room_reserved),("padlock/record.shapes", Rows.laid_padlock_record_shapes),("unicode/utf8.first", Rows.laid_unicode_utf8_first)] w)∧sizedMet enc Tryz.prog Tryz.f4 (OpenSpec.ofChange Rows.recordFormatsSpec) Rows.recordFormatsRow.apart w args)
   (Rows.recordFormatsSpec.post enc Tryz.prog Tryz.f4 Rows.recordFormatsRow.apart Rows.recordFormatsRow.fresh Rows.recordFormatsRow.handsOn Rows.recordFormatsRow.again):=by
 refine Jjg (C:=Tryz.checked) (X:=fun w _=>laidMetH Tryz.prog [("math/bits.deBruijn32tab", Rows.laid_math_bits_deBruijn32tab),("math/bits.deBruijn64tab", Rows.laid_math_bits_deBruijn64tab),("internal/strconv.uint64pow10", Rows.laid_internal_strconv_uint64pow10),("unicode/utf8.acceptRanges", Rows.laid_unicode_utf8_acceptRanges),("strconv.ErrRange", Rows.laid_strconv_ErrRange),("strconv.ErrSyntax", Rows.laid_strconv_ErrSyntax),("padlock/room.reserved", Rows.laid_padlock_room_reserved),("padlock/record.shapes", Rows.laid_padlock_record_shapes),("unicode/utf8.first", Rows.laid_unicode_utf8_first)] w) (fun _ _ _ hh h=>h.of_heap hh) own started (by kernel_rfl) Tryz.func4
  (ChangeSpec.witness_shaped (enc:=enc) (C:=Tryz.checked) (X:=fun w _=>laidMetH Tryz.prog [("math/bits.deBruijn32tab", Rows.laid_math_bits_deBruijn32tab),("math/bits.deBruijn64tab", Rows.laid_math_bits_deBruijn64tab),("internal/strconv.uint64pow10", Rows.laid_internal_strconv_uint64pow10),("unicode/utf8.acceptRanges", Rows.laid_unicode_utf8_acceptRanges),("strconv.ErrRange", Rows.laid_strconv_ErrRange),("strconv.ErrSyntax", Rows.laid_strconv_ErrSyntax),("padlock/room.reserved", Rows.laid_padlock_room_reserved),("padlock/record.shapes", Rows.laid_padlock_record_shapes),("unicode/utf8.first", Rows.laid_unicode_utf8_first)] w) false (wit os) #[.slice none 0 0] 8 (J2v os) (Jpw os _) (by kernel_rfl) (by kernel_rfl) (by kernel_rfl)
   (Jzn os _)) ?_
 intro W base args ds gs before hsh hval0 hW hL
 have hval:∀ (j:Nat) t v,Tryz.f4.params[j]? = some t→args[j]? = some v→Value.okWide Tryz.prog W .any base t v:=hval0
 have hW':=hW
 obtain ⟨p,q,hA0,hV,rfl,hfz,hnd⟩:=hW
 have hA:DataW.TrodAll enc Tryz.prog W 0 (fun _=>true) true Tryz.f4.params.toList args.toList ds p:=hA0
 rw [Tryz.params4] at hA hval
 obtain ⟨v0,d0,rfl,rfl,h0⟩:=trodAll_one hA
 obtain ⟨rfl,rfl⟩:=trodVars_none hV
 obtain ⟨g,hG⟩:=Jkw hL
 obtain ⟨_,_,_,hS⟩:=Jhu hL
 obtain ⟨_,_,_,rfl⟩:=okWide_slice Tryz.underlying23 (hval 0 23 v0 rfl rfl)
 obtain ⟨_,k0⟩:=h0
 obtain ⟨x0,e0,r0⟩:=(Jnn Tryz.underlying23 (by kernel_rfl) (by decide) Jxj) _ _ _ k0
 rw [show Value.slice _ _ _=x0.v from (List.cons.inj e0).1] at hW' ⊢
 refine Calls.mono (Jg8 x0 W r0 g hG (Jvp hsh) hS (Jk6 hL)) ?_
 rintro e W' ⟨rfl,hb⟩
 exact ⟨_,rfl,Jxl laidOut (by kernel_rfl) rfl Tryz.underlying4 hW' rfl hb rfl rfl rfl⟩
theorem recordFormats_holds:Rows.RecordFormatsSaid :=
 OpenClaim.holds_of_wide 4 Tryz.f4 rfl rfl rfl rfl rfl rfl rfl ⟨rfl,rfl,rfl,rfl,rfl⟩ rfl rfl rfl rfl rfl (by kernel_rfl) Tryz.func4 recordFormats_closed
  (of_decide_eq_true (by kernel_rfl)) (by unfold Func.isWrapper; first | (rw [if_pos (by decide +kernel)]; kernel_rfl) | (rw [if_neg (by decide +kernel)]; exact ⟨rfl,rfl⟩))
  (fun os started H enc _=>recordFormats_lifted os started H enc)
theorem recordFormats_card:Rows.RecordFormatsCardSaid :=
 Claim7.holds_tied_plain_at .later [] [.data,.data,.data,.data,.sentinel,.sentinel,.widerDeep,.funcs,.pinned] true (true, "4f1b03409777d7a16851ee6568dd79716feb49a8fa8ff0246aff88e9cc816522") true recordFormats_holds (fun _ h=>by cases h) (by kernel_rfl) (fun _ h=>by cases h) recordFormats_row_tie rfl ⟨rfl,rfl⟩ (by kernel_rfl) rfl
  (fun f fn hf hfn=>by
   obtain rfl:f=4:=Option.some.inj ((show Tryz.prog.funcNamed "padlock/padlocklaw12.RecordFormats" = some 4 by kernel_rfl).symm.trans hf) |>.symm
   obtain rfl:fn=Tryz.f4:=(Option.some.inj (Tryz.func4.symm.trans hfn)).symm
   exact ⟨by kernel_rfl,fun j t ht=>by
    rw [Tryz.params4] at ht
    have hm:t∈[23]:=by simpa using Array.mem_of_getElem? ht
    have hall:([23].all fun u => !Tryz.prog.wantsStandIn u)=true:=by kernel_rfl
    exact (show Tryz.prog.wantsStandIn t=false by simpa using List.all_eq_true.1 hall t hm)⟩)
  (by kernel_rfl)
end Go.Proofs.YtfbfdnoodccgiaaGreatDoor
