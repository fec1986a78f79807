/- The tied card of the law CodesParses: whatever the input, it returns true and the input reads as it did. Condition: the package variable room.reserved starts as the program's text lays it (tied). -/
import Derived.Test.YtdpbapffdmahnaaGreatDoorLd
import Derived.LaidSub
import Derived.Test.YtdpbapffdmahnaaGreatDoorZw
import Derived.Test.YtdpbapffdmahnaaGreatDoorZy
import Derived.Test.YtdpbapffdmahnaaGreatDoorTie
import Derived.Test.YtdpbapffdmahnaaGreatDoorCards
set_option maxHeartbeats 8000000
namespace Go.Proofs.YtdpbapffdmahnaaGreatDoor
open Go.ChangeShapes Go.WideShapes Go.ChangeAt Go.RowKit Go.Proofs Go.Joins
set_option maxRecDepth 100000
set_option linter.unusedVariables false
set_option linter.unusedSimpArgs false
theorem own:ownKnob Tryz.prog.godebug=none:=by kernel_rfl
theorem laidOut:laidOutB Tryz.prog=true:=by kernel_rfl
theorem wOk_of_laid {W:World} (h:laidMetH Tryz.prog [("math/bits.deBruijn32tab", Rows.laid_math_bits_deBruijn32tab),("math/bits.deBruijn64tab", Rows.laid_math_bits_deBruijn64tab),("internal/strconv.uint64pow10", Rows.laid_internal_strconv_uint64pow10),("unicode/utf8.acceptRanges", Rows.laid_unicode_utf8_acceptRanges),("strconv.ErrRange", Rows.laid_strconv_ErrRange),("strconv.ErrSyntax", Rows.laid_strconv_ErrSyntax),("padlock/codes.words", Rows.laid_padlock_codes_words),("unicode/utf8.first", Rows.laid_unicode_utf8_first)] W):WOk W:=by
 have h2:=h.filter (fun x=>x.1 == "padlock/codes.words")
 have h3:laidMetH Tryz.prog [("padlock/codes.words", Rows.laid_padlock_codes_words)] W:=h2
 rw [MakeChecks.laidMetH_plain _ _ _ (by kernel_rfl)] at h3
 intro j hj
 rw [Jfr (zs:=kindL.map bl) (t:=93) (e:=9) (n:=8) (by kernel_rfl) (by kernel_rfl) Tryz.underlying93 Tryz.underlying9 (by kernel_rfl) (by kernel_rfl) h3 j hj]
 rcases (show j=0∨j=1∨j=2∨j=3∨j=4∨j=5∨j=6∨j=7 by omega) with rfl | rfl | rfl | rfl | rfl | rfl | rfl | rfl <;> rfl
theorem codesParses_k1:(Rows.codesParsesRow.wf (OpenSpec.ofChange Rows.codesParsesSpec))=true:=by kernel_rfl
theorem codesParses_k4:(Tryz.f4.params.all (Tryz.prog.readableRec ·))=true:=by kernel_rfl
theorem codesParses_k5:(namedTie Tryz.prog Rows.codesParsesRow.named Rows.codesParsesSpec.vars)=true:=by kernel_rfl
theorem codesParses_k6:((Rows.codesParsesRow.stops == []))=true:=by kernel_rfl
theorem codesParses_k8:((Rows.codesParsesRow.knobs == []))=true:=by kernel_rfl
theorem codesParses_k10:((Rows.codesParsesRow.inPlace == Tryz.prog.inPlace 4))=true:=by kernel_rfl
theorem codesParses_k11:((Rows.codesParsesRow.unfollowed == Tryz.prog.unfollowed 4))=true:=by kernel_rfl
theorem codesParses_k12:((Rows.codesParsesRow.recurses == Tryz.prog.recurses 4))=true:=by kernel_rfl
theorem codesParses_k13:((Rows.codesParsesRow.named == Tryz.prog.varsNamed 4))=true:=by kernel_rfl
theorem codesParses_k14:((Rows.codesParsesRow.maps == (Tryz.f4.params.toList++Rows.codesParsesSpec.plain.varTypes Tryz.prog).any (Tryz.prog.mapsRec ·)))=true:=by kernel_rfl
theorem codesParses_k15:((Rows.codesParsesRow.ifaces == (Tryz.f4.params.toList++Rows.codesParsesSpec.plain.varTypes Tryz.prog).any (Tryz.prog.ifacesRec ·)))=true:=by kernel_rfl
theorem codesParses_k16:((Rows.codesParsesRow.mapsOut == Tryz.prog.mapsAmong Tryz.f4.resultTypes.toList))=true:=by kernel_rfl
theorem codesParses_k17:((Rows.codesParsesRow.loops == (Tryz.f4.params.toList++Rows.codesParsesSpec.plain.varTypes Tryz.prog).any (Tryz.prog.loopsFrom ·)))=true:=by kernel_rfl
theorem codesParses_k18:((Rows.codesParsesRow.wideKeys == (Tryz.f4.params.toList++Rows.codesParsesSpec.plain.varTypes Tryz.prog++Tryz.f4.resultTypes.toList).any (Tryz.prog.wideKeysFrom ·)))=true:=by kernel_rfl
theorem codesParses_k19:(Rows.codesParsesSpec.vars.all (Tryz.prog.varReadable ·))=true:=by kernel_rfl
theorem codesParses_k20:(Tryz.f4.resultTypes.all (fun t=>Tryz.prog.readableRec t && decide (t < Tryz.prog.types.size)))=true:=by kernel_rfl
theorem codesParses_k21:((Rows.codesParsesRow.ifacesOut == Tryz.f4.resultTypes.toList.any (Tryz.prog.ifacesRec ·)))=true:=by kernel_rfl
theorem codesParses_k22:((Rows.codesParsesRow.loopsOut == Tryz.f4.resultTypes.toList.any (Tryz.prog.loopsFrom ·)))=true:=by kernel_rfl
theorem codesParses_k24:(Rows.codesParsesRow.shortTexts.isNone)=true:=by kernel_rfl
theorem codesParses_k29:((Rows.codesParsesRow.kinds == (if Rows.codesParsesRow.domain.isEmpty then [] else Tryz.f4.params.toList.map fun t=>match Tryz.prog.underlying t with | some (.int k)=>some k | _=>none)))=true:=by kernel_rfl
theorem codesParses_k30:((Rows.codesParsesRow.pinned == Rows.codesParsesRow.pinnedBy))=true:=by kernel_rfl
theorem codesParses_k31:((Rows.codesParsesRow.veiled == (Tryz.f4.params.toList++Rows.codesParsesSpec.plain.varTypes Tryz.prog++Tryz.f4.resultTypes.toList).any (Tryz.prog.veiledRec ·)))=true:=by kernel_rfl
theorem codesParses_k32:(Rows.codesParsesRow.veiledFits Tryz.prog Tryz.f4.params.toList (Tryz.f4.params.toList++Rows.codesParsesSpec.plain.varTypes Tryz.prog++Tryz.f4.resultTypes.toList))=true:=by kernel_rfl
theorem codesParses_closed:joinedFacts Tryz.prog 4 Tryz.f4 Rows.codesParsesSpec Rows.codesParsesRow=true:=(bd_ (bd_ (bd_ (bd_ (bd_ (bd_ (bd_ (bd_ (bd_ (bd_ (bd_ (bd_ (bd_ (bd_ (bd_ (bd_ (bd_ (bd_ (bd_ (bd_ (bd_ (bd_ (bd_ (bd_ (bd_ (bd_ (bd_ (bd_ (bd_ (bd_ (bd_ codesParses_k1 Jlz) Jlb) codesParses_k4) codesParses_k5) codesParses_k6) Jmm) codesParses_k8) Jl3) codesParses_k10) codesParses_k11) codesParses_k12) codesParses_k13) codesParses_k14) codesParses_k15) codesParses_k16) codesParses_k17) codesParses_k18) codesParses_k19) codesParses_k20) codesParses_k21) codesParses_k22) Jjl) codesParses_k24) Jjm) Jkc) Ji7) Jjq) codesParses_k29) codesParses_k30) codesParses_k31) codesParses_k32)
set_option maxHeartbeats 2000000 in
theorem codesParses_lifted (os:Os) (started:os.Started) (H:Type) (enc:TypeId × Value→H) :
  ReturnsInHanded {} Tryz.checked os 4 .any (fun w args=>(Rows.codesParsesSpec.pre enc Tryz.prog Tryz.f4 Rows.codesParsesRow.domain Rows.codesParsesRow.apart w args∧laidMetH Tryz.prog [("math/bits.deBruijn32tab", Rows.laid_math_bits_deBruijn32tab),("math/bits.deBruijn64tab", Rows.laid_math_bits_deBruijn64tab),("internal/strconv.uint64pow10", Rows.laid_internal_strconv_uint64pow10),("unicode/utf8.acceptRanges", Rows.laid_unicode_utf8_acceptRanges),("strconv.ErrRange", Rows.laid_strconv_ErrRange),("strconv.ErrSyntax", Rows.laid_strconv_ErrSyntax),("padlock/codes.words", Rows.laid_padlock_codes_words),("unicode/utf8.first", Rows.laid_unicode_utf8_first)] w)∧sizedMet enc Tryz.prog Tryz.f4 (OpenSpec.ofChange Rows.codesParsesSpec) Rows.codesParsesRow.apart w args)
   (Rows.codesParsesSpec.post enc Tryz.prog Tryz.f4 Rows.codesParsesRow.apart Rows.codesParsesRow.fresh Rows.codesParsesRow.handsOn Rows.codesParsesRow.again):=by
 refine Jex (C:=Tryz.checked) (X:=fun w _=>laidMetH Tryz.prog [("math/bits.deBruijn32tab", Rows.laid_math_bits_deBruijn32tab),("math/bits.deBruijn64tab", Rows.laid_math_bits_deBruijn64tab),("internal/strconv.uint64pow10", Rows.laid_internal_strconv_uint64pow10),("unicode/utf8.acceptRanges", Rows.laid_unicode_utf8_acceptRanges),("strconv.ErrRange", Rows.laid_strconv_ErrRange),("strconv.ErrSyntax", Rows.laid_strconv_ErrSyntax),("padlock/codes.words", Rows.laid_padlock_codes_words),("unicode/utf8.first", Rows.laid_unicode_utf8_first)] w) (fun _ _ _ hh h=>h.of_heap hh) own started (by kernel_rfl) Tryz.func4
  (ChangeSpec.witness_shaped (enc:=enc) (C:=Tryz.checked) (X:=fun w _=>laidMetH Tryz.prog [("math/bits.deBruijn32tab", Rows.laid_math_bits_deBruijn32tab),("math/bits.deBruijn64tab", Rows.laid_math_bits_deBruijn64tab),("internal/strconv.uint64pow10", Rows.laid_internal_strconv_uint64pow10),("unicode/utf8.acceptRanges", Rows.laid_unicode_utf8_acceptRanges),("strconv.ErrRange", Rows.laid_strconv_ErrRange),("strconv.ErrSyntax", Rows.laid_strconv_ErrSyntax),("padlock/codes.words", Rows.laid_padlock_codes_words),("unicode/utf8.first", Rows.laid_unicode_utf8_first)] w) false (World.laidAll Tryz.prog os [("math/bits.deBruijn32tab", Rows.laid_math_bits_deBruijn32tab),("math/bits.deBruijn64tab", Rows.laid_math_bits_deBruijn64tab),("internal/strconv.uint64pow10", Rows.laid_internal_strconv_uint64pow10),("unicode/utf8.acceptRanges", Rows.laid_unicode_utf8_acceptRanges),("strconv.ErrRange", Rows.laid_strconv_ErrRange),("strconv.ErrSyntax", Rows.laid_strconv_ErrSyntax),("padlock/codes.words", Rows.laid_padlock_codes_words),("unicode/utf8.first", Rows.laid_unicode_utf8_first)]) #[.agg #[.int .i64 0,.int .i64 0],.string ⟨#[]⟩] 8 (World.laidAll_os _ _ _) (World.shaped_of_ZipB (by kernel_rfl) (by kernel_rfl)) (by kernel_rfl) (by kernel_rfl) (by kernel_rfl)
   (by rw [MakeChecks.laidMetH_plain _ _ _ (by kernel_rfl)]; exact laidMet_laidAll _ (by kernel_rfl) (by kernel_rfl))) ?_
 intro W base args ds gs before hsh hval0 hW hL
 have hval:∀ (j:Nat) t v,Tryz.f4.params[j]? = some t→args[j]? = some v→Value.okWide Tryz.prog W .any base t v:=hval0
 have hW':=hW
 obtain ⟨p,q,hA0,hV,rfl,hfz,hnd⟩:=hW
 have hA:DataW.TrodAll enc Tryz.prog W 0 (fun _=>true) true Tryz.f4.params.toList args.toList ds p:=hA0
 rw [Tryz.params4] at hA hval
 obtain ⟨v0,v1,d0,d1,p0,p1,rfl,rfl,rfl,h0,h1⟩:=trodAll_two hA
 obtain ⟨rfl,rfl⟩:=trodVars_none hV
 skip
 obtain ⟨⟨c0⟩,rfl,_⟩:=okWide_struct Tryz.underlying45 (hval 0 45 v0 rfl rfl)
 obtain ⟨_,k0⟩:=h0
 obtain ⟨x0,e0,r0⟩:=Joe _ _ _ k0
 change c0=_ at e0
 subst e0
 obtain ⟨x1,rfl⟩:=okWide_string Tryz.underlying9 (hval 1 9 v1 rfl rfl)
 refine Calls.mono (Jew x0.1 x0.2 x1 W (Jjf hsh) (wOk_of_laid hL)) ?_
 rintro e W' ⟨rfl,hb⟩
 exact ⟨_,rfl,Jkn laidOut (by kernel_rfl) rfl Tryz.underlying4 hW' rfl hb rfl rfl rfl⟩
theorem codesParses_holds:Rows.CodesParsesSaid :=
 OpenClaim.holds_of_wide 4 Tryz.f4 rfl rfl rfl rfl rfl rfl rfl ⟨rfl,rfl,rfl,rfl,rfl⟩ rfl rfl rfl rfl rfl (by kernel_rfl) Tryz.func4 codesParses_closed
  (of_decide_eq_true (by kernel_rfl)) (by unfold Func.isWrapper; first | (rw [if_pos (by decide +kernel)]; kernel_rfl) | (rw [if_neg (by decide +kernel)]; exact ⟨rfl,rfl⟩))
  (fun os started H enc _=>codesParses_lifted os started H enc)
theorem codesParses_card:Rows.CodesParsesCardSaid :=
 Claim7.holds_tied_plain_at .later [] [.data,.data,.data,.data,.sentinel,.sentinel,.widerDeep,.pinned] true (true, "053617055d583a362f6f508b926281926e184b4aeeac6771cf8cd91eadbfd520") true codesParses_holds (fun _ h=>by cases h) (by kernel_rfl) (fun _ h=>by cases h) codesParses_row_tie rfl ⟨rfl,rfl⟩ (by kernel_rfl) rfl
  (fun f fn hf hfn=>by
   obtain rfl:f=4:=Option.some.inj ((show Tryz.prog.funcNamed "padlock/padlocklaw01.CodesParses" = some 4 by kernel_rfl).symm.trans hf) |>.symm
   obtain rfl:fn=Tryz.f4:=(Option.some.inj (Tryz.func4.symm.trans hfn)).symm
   exact ⟨by kernel_rfl,fun j t ht=>by
    rw [Tryz.params4] at ht
    have hm:t∈[45,9]:=by simpa using Array.mem_of_getElem? ht
    have hall:([45,9].all fun u => !Tryz.prog.wantsStandIn u)=true:=by kernel_rfl
    exact (show Tryz.prog.wantsStandIn t=false by simpa using List.all_eq_true.1 hall t hm)⟩)
  (by kernel_rfl)
end Go.Proofs.YtdpbapffdmahnaaGreatDoor
