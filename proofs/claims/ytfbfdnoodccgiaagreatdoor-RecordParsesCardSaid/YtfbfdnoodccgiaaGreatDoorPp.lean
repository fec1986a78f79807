/- The tied card of the law RecordParses: whatever the input, it returns true and the input reads as it did. Condition: the package variable room.reserved starts as the program's text lays it (tied). -/
import Derived.Test.YtfbfdnoodccgiaaGreatDoorY1
import Derived.LaidSub
import Derived.Test.YtfbfdnoodccgiaaGreatDoorZx
import Derived.Test.YtfbfdnoodccgiaaGreatDoorZy
import Derived.Test.YtfbfdnoodccgiaaGreatDoorTie
import Derived.Test.YtfbfdnoodccgiaaGreatDoorCards
set_option maxHeartbeats 8000000
namespace Go.Proofs.YtfbfdnoodccgiaaGreatDoor
open Go.ChangeShapes Go.WideShapes Go.ChangeAt Go.RowKit Go.Proofs Go.Joins
set_option maxRecDepth 100000
set_option linter.unusedVariables false
set_option linter.unusedSimpArgs false
theorem own:ownKnob Tryz.prog.godebug=none:=by kernel_rfl
theorem laidOut:laidOutB Tryz.prog=true:=by kernel_rfl
theorem recordParses_k1:(Rows.recordParsesRow.wf (OpenSpec.ofChange Rows.recordParsesSpec))=true:=by kernel_rfl
theorem recordParses_k4:(Tryz.f3.params.all (Tryz.prog.readableRec ·))=true:=by kernel_rfl
theorem recordParses_k5:(namedTie Tryz.prog Rows.recordParsesRow.named Rows.recordParsesSpec.vars)=true:=by kernel_rfl
theorem recordParses_k6:((Rows.recordParsesRow.stops == []))=true:=by kernel_rfl
theorem recordParses_k8:((Rows.recordParsesRow.knobs == []))=true:=by kernel_rfl
theorem recordParses_k10:((Rows.recordParsesRow.inPlace == Tryz.prog.inPlace 3))=true:=by kernel_rfl
theorem recordParses_k11:((Rows.recordParsesRow.unfollowed == Tryz.prog.unfollowed 3))=true:=by kernel_rfl
theorem recordParses_k12:((Rows.recordParsesRow.recurses == Tryz.prog.recurses 3))=true:=by kernel_rfl
theorem recordParses_k13:((Rows.recordParsesRow.named == Tryz.prog.varsNamed 3))=true:=by kernel_rfl
theorem recordParses_k14:((Rows.recordParsesRow.maps == (Tryz.f3.params.toList++Rows.recordParsesSpec.plain.varTypes Tryz.prog).any (Tryz.prog.mapsRec ·)))=true:=by kernel_rfl
theorem recordParses_k15:((Rows.recordParsesRow.ifaces == (Tryz.f3.params.toList++Rows.recordParsesSpec.plain.varTypes Tryz.prog).any (Tryz.prog.ifacesRec ·)))=true:=by kernel_rfl
theorem recordParses_k16:((Rows.recordParsesRow.mapsOut == Tryz.prog.mapsAmong Tryz.f3.resultTypes.toList))=true:=by kernel_rfl
theorem recordParses_k17:((Rows.recordParsesRow.loops == (Tryz.f3.params.toList++Rows.recordParsesSpec.plain.varTypes Tryz.prog).any (Tryz.prog.loopsFrom ·)))=true:=by kernel_rfl
theorem recordParses_k18:((Rows.recordParsesRow.wideKeys == (Tryz.f3.params.toList++Rows.recordParsesSpec.plain.varTypes Tryz.prog++Tryz.f3.resultTypes.toList).any (Tryz.prog.wideKeysFrom ·)))=true:=by kernel_rfl
theorem recordParses_k19:(Rows.recordParsesSpec.vars.all (Tryz.prog.varReadable ·))=true:=by kernel_rfl
theorem recordParses_k20:(Tryz.f3.resultTypes.all (fun t=>Tryz.prog.readableRec t && decide (t < Tryz.prog.types.size)))=true:=by kernel_rfl
theorem recordParses_k21:((Rows.recordParsesRow.ifacesOut == Tryz.f3.resultTypes.toList.any (Tryz.prog.ifacesRec ·)))=true:=by kernel_rfl
theorem recordParses_k22:((Rows.recordParsesRow.loopsOut == Tryz.f3.resultTypes.toList.any (Tryz.prog.loopsFrom ·)))=true:=by kernel_rfl
theorem recordParses_k24:(Rows.recordParsesRow.shortTexts.isNone)=true:=by kernel_rfl
theorem recordParses_k29:((Rows.recordParsesRow.kinds == (if Rows.recordParsesRow.domain.isEmpty then [] else Tryz.f3.params.toList.map fun t=>match Tryz.prog.underlying t with | some (.int k)=>some k | _=>none)))=true:=by kernel_rfl
theorem recordParses_k30:((Rows.recordParsesRow.pinned == Rows.recordParsesRow.pinnedBy))=true:=by kernel_rfl
theorem recordParses_k31:((Rows.recordParsesRow.veiled == (Tryz.f3.params.toList++Rows.recordParsesSpec.plain.varTypes Tryz.prog++Tryz.f3.resultTypes.toList).any (Tryz.prog.veiledRec ·)))=true:=by kernel_rfl
theorem recordParses_k32:(Rows.recordParsesRow.veiledFits Tryz.prog Tryz.f3.params.toList (Tryz.f3.params.toList++Rows.recordParsesSpec.plain.varTypes Tryz.prog++Tryz.f3.resultTypes.toList))=true:=by kernel_rfl
theorem recordParses_closed:joinedFacts Tryz.prog 3 Tryz.f3 Rows.recordParsesSpec Rows.recordParsesRow=true:=(bd_ (bd_ (bd_ (bd_ (bd_ (bd_ (bd_ (bd_ (bd_ (bd_ (bd_ (bd_ (bd_ (bd_ (bd_ (bd_ (bd_ (bd_ (bd_ (bd_ (bd_ (bd_ (bd_ (bd_ (bd_ (bd_ (bd_ (bd_ (bd_ (bd_ (bd_ recordParses_k1 Jxr) Jxl) recordParses_k4) recordParses_k5) recordParses_k6) Jyj) recordParses_k8) Jy4) recordParses_k10) recordParses_k11) recordParses_k12) recordParses_k13) recordParses_k14) recordParses_k15) recordParses_k16) recordParses_k17) recordParses_k18) recordParses_k19) recordParses_k20) recordParses_k21) recordParses_k22) Jtw) recordParses_k24) Juh) Jvp) Ju6) Jug) recordParses_k29) recordParses_k30) recordParses_k31) recordParses_k32)
set_option maxHeartbeats 2000000 in
theorem recordParses_lifted (os:Os) (started:os.Started) (H:Type) (enc:TypeId × Value→H) :
  ReturnsInHanded {} Tryz.checked os 3 .any (fun w args=>(Rows.recordParsesSpec.pre enc Tryz.prog Tryz.f3 Rows.recordParsesRow.domain Rows.recordParsesRow.apart w args∧laidMetH Tryz.prog [("math/bits.deBruijn32tab", Rows.laid_math_bits_deBruijn32tab),("math/bits.deBruijn64tab", Rows.laid_math_bits_deBruijn64tab),("internal/strconv.uint64pow10", Rows.laid_internal_strconv_uint64pow10),("unicode/utf8.acceptRanges", Rows.laid_unicode_utf8_acceptRanges),("strconv.ErrRange", Rows.laid_strconv_ErrRange),("strconv.ErrSyntax", Rows.laid_strconv_ErrSyntax),("padlock/room.reserved", Rows.laid_padlock_room_reserved),("padlock/record.shapes", Rows.laid_padlock_record_shapes),("unicode/utf8.first", Rows.laid_unicode_utf8_first)] w)∧sizedMet enc Tryz.prog Tryz.f3 (OpenSpec.ofChange Rows.recordParsesSpec) Rows.recordParsesRow.apart w args)
   (Rows.recordParsesSpec.post enc Tryz.prog Tryz.f3 Rows.recordParsesRow.apart Rows.recordParsesRow.fresh Rows.recordParsesRow.handsOn Rows.recordParsesRow.again):=by
 refine Jh8 (C:=Tryz.checked) (X:=fun w _=>laidMetH Tryz.prog [("math/bits.deBruijn32tab", Rows.laid_math_bits_deBruijn32tab),("math/bits.deBruijn64tab", Rows.laid_math_bits_deBruijn64tab),("internal/strconv.uint64pow10", Rows.laid_internal_strconv_uint64pow10),("unicode/utf8.acceptRanges", Rows.laid_unicode_utf8_acceptRanges),("strconv.ErrRange", Rows.laid_strconv_ErrRange),("strconv.ErrSyntax", Rows.laid_strconv_ErrSyntax),("padlock/room.reserved", Rows.laid_padlock_room_reserved),("padlock/record.shapes", Rows.laid_padlock_record_shapes),("unicode/utf8.first", Rows.laid_unicode_utf8_first)] w) (fun _ _ _ hh h=>h.of_heap hh) own started (by kernel_rfl) Tryz.func3
  (ChangeSpec.witness_shaped (enc:=enc) (C:=Tryz.checked) (X:=fun w _=>laidMetH Tryz.prog [("math/bits.deBruijn32tab", Rows.laid_math_bits_deBruijn32tab),("math/bits.deBruijn64tab", Rows.laid_math_bits_deBruijn64tab),("internal/strconv.uint64pow10", Rows.laid_internal_strconv_uint64pow10),("unicode/utf8.acceptRanges", Rows.laid_unicode_utf8_acceptRanges),("strconv.ErrRange", Rows.laid_strconv_ErrRange),("strconv.ErrSyntax", Rows.laid_strconv_ErrSyntax),("padlock/room.reserved", Rows.laid_padlock_room_reserved),("padlock/record.shapes", Rows.laid_padlock_record_shapes),("unicode/utf8.first", Rows.laid_unicode_utf8_first)] w) false (wit os) #[.string ⟨#[]⟩] 8 (J1i os) (Joy os _) (by kernel_rfl) (by kernel_rfl) (by kernel_rfl)
   (Jyt os _)) ?_
 intro W base args ds gs before hsh hval0 hW hL
 have hval:∀ (j:Nat) t v,Tryz.f3.params[j]? = some t→args[j]? = some v→Value.okWide Tryz.prog W .any base t v:=hval0
 have hW':=hW
 obtain ⟨p,q,hA0,hV,rfl,hfz,hnd⟩:=hW
 have hA:DataW.TrodAll enc Tryz.prog W 0 (fun _=>true) true Tryz.f3.params.toList args.toList ds p:=hA0
 rw [Tryz.params3] at hA hval
 obtain ⟨v0,d0,rfl,rfl,h0⟩:=trodAll_one hA
 obtain ⟨rfl,rfl⟩:=trodVars_none hV
 obtain ⟨g,hG⟩:=Jjy hL
 obtain ⟨_,_,_,hS⟩:=Jg5 hL
 obtain ⟨x0,rfl⟩:=okWide_string Tryz.underlying9 (hval 0 9 v0 rfl rfl)
 refine Calls.mono (Jhc x0 W g hG (Jth hsh) hS) ?_
 rintro e W' ⟨rfl,hb⟩
 exact ⟨_,rfl,Jud laidOut (by kernel_rfl) rfl Tryz.underlying4 hW' rfl hb rfl rfl rfl⟩
theorem recordParses_holds:Rows.RecordParsesSaid :=
 OpenClaim.holds_of_wide 3 Tryz.f3 rfl rfl rfl rfl rfl rfl rfl ⟨rfl,rfl,rfl,rfl,rfl⟩ rfl rfl rfl rfl rfl (by kernel_rfl) Tryz.func3 recordParses_closed
  (of_decide_eq_true (by kernel_rfl)) (by unfold Func.isWrapper; first | (rw [if_pos (by decide +kernel)]; kernel_rfl) | (rw [if_neg (by decide +kernel)]; exact ⟨rfl,rfl⟩))
  (fun os started H enc _=>recordParses_lifted os started H enc)
theorem recordParses_card:Rows.RecordParsesCardSaid :=
 Claim7.holds_tied_plain_at .later [] [.data,.data,.data,.data,.sentinel,.sentinel,.widerDeep,.funcs,.pinned] true (true, "4f1b03409777d7a16851ee6568dd79716feb49a8fa8ff0246aff88e9cc816522") true recordParses_holds (fun _ h=>by cases h) (by kernel_rfl) (fun _ h=>by cases h) recordParses_row_tie rfl ⟨rfl,rfl⟩ (by kernel_rfl) rfl
  (fun f fn hf hfn=>by
   obtain rfl:f=3:=Option.some.inj ((show Tryz.prog.funcNamed "padlock/padlocklaw12.RecordParses" = some 3 by kernel_rfl).symm.trans hf) |>.symm
   obtain rfl:fn=Tryz.f3:=(Option.some.inj (Tryz.func3.symm.trans hfn)).symm
   exact ⟨by kernel_rfl,fun j t ht=>by
    rw [Tryz.params3] at ht
    have hm:t∈[9]:=by simpa using Array.mem_of_getElem? ht
    have hall:([9].all fun u => !Tryz.prog.wantsStandIn u)=true:=by kernel_rfl
    exact (show Tryz.prog.wantsStandIn t=false by simpa using List.all_eq_true.1 hall t hm)⟩)
  (by kernel_rfl)
end Go.Proofs.YtfbfdnoodccgiaaGreatDoor
