/- The tied card of the law CodesWrites: whatever the input, it returns true and the input reads as it did. Condition: the package variable room.reserved starts as the program's text lays it (tied). -/
import Derived.Test.YtdpbapffdmahnaaGreatDoorLe
import Derived.LaidSub
import Derived.Lib.LaidTab
import Derived.Test.YtdpbapffdmahnaaGreatDoorZw
import Derived.Test.YtdpbapffdmahnaaGreatDoorZy
import Derived.Test.YtdpbapffdmahnaaGreatDoorTie
import Derived.Test.YtdpbapffdmahnaaGreatDoorCards
set_option maxHeartbeats 8000000
namespace Go.Proofs.YtdpbapffdmahnaaGreatDoor
open Go.ChangeShapes Go.WideShapes Go.ChangeAt Go.RowKit Go.Proofs Go.Joins
set_option maxRecDepth 100000
set_option linter.unusedVariables false
set_option linter.unusedSimpArgs false
theorem own:ownKnob Tryz.prog.godebug=none:=by kernel_rfl
theorem laidOut:laidOutB Tryz.prog=true:=by kernel_rfl
theorem wOk_of_laid {W:World} (h:laidMetH Tryz.prog [("math/bits.deBruijn32tab", Rows.laid_math_bits_deBruijn32tab),("math/bits.deBruijn64tab", Rows.laid_math_bits_deBruijn64tab),("internal/strconv.uint64pow10", Rows.laid_internal_strconv_uint64pow10),("unicode/utf8.acceptRanges", Rows.laid_unicode_utf8_acceptRanges),("strconv.ErrRange", Rows.laid_strconv_ErrRange),("strconv.ErrSyntax", Rows.laid_strconv_ErrSyntax),("padlock/codes.words", Rows.laid_padlock_codes_words),("unicode/utf8.first", Rows.laid_unicode_utf8_first)] W):WOk W:=by
 have h2:=h.filter (fun x=>x.1 == "padlock/codes.words")
 have h3:laidMetH Tryz.prog [("padlock/codes.words", Rows.laid_padlock_codes_words)] W:=h2
 rw [MakeChecks.laidMetH_plain _ _ _ (by kernel_rfl)] at h3
 intro j hj
 rw [Jf0 (zs:=kindL.map bl) (t:=93) (e:=9) (n:=8) (by kernel_rfl) (by kernel_rfl) Tryz.underlying93 Tryz.underlying9 (by kernel_rfl) (by kernel_rfl) h3 j hj]
 rcases (show j=0∨j=1∨j=2∨j=3∨j=4∨j=5∨j=6∨j=7 by omega) with rfl | rfl | rfl | rfl | rfl | rfl | rfl | rfl <;> rfl
theorem tab_of_laid {W:World} (h:laidMetH Tryz.prog [("math/bits.deBruijn32tab", Rows.laid_math_bits_deBruijn32tab),("math/bits.deBruijn64tab", Rows.laid_math_bits_deBruijn64tab),("internal/strconv.uint64pow10", Rows.laid_internal_strconv_uint64pow10),("unicode/utf8.acceptRanges", Rows.laid_unicode_utf8_acceptRanges),("strconv.ErrRange", Rows.laid_strconv_ErrRange),("strconv.ErrSyntax", Rows.laid_strconv_ErrSyntax),("padlock/codes.words", Rows.laid_padlock_codes_words),("unicode/utf8.first", Rows.laid_unicode_utf8_first)] W):Lib.TabIs Tryz.prog W "internal/strconv.uint64pow10" .u64 Lib.pow10Tab:=by
 have h2:=h.filter (fun x=>x.1 == "internal/strconv.uint64pow10")
 have h3:laidMetH Tryz.prog [("internal/strconv.uint64pow10", Lib.tabData .u64 Lib.pow10Tab)] W:=h2
 rw [MakeChecks.laidMetH_plain _ _ _ (by kernel_rfl)] at h3
 exact Lib.tabIs_of_head (g:=2) (t:=212) (e:=179) (n:=20) (by kernel_rfl) (by kernel_rfl) Tryz.underlying212 Tryz.underlying179 (by kernel_rfl) (by kernel_rfl) h3
theorem codesWrites_k1:(Rows.codesWritesRow.wf (OpenSpec.ofChange Rows.codesWritesSpec))=true:=by kernel_rfl
theorem codesWrites_k4:(Tryz.f5.params.all (Tryz.prog.readableRec ·))=true:=by kernel_rfl
theorem codesWrites_k5:(namedTie Tryz.prog Rows.codesWritesRow.named Rows.codesWritesSpec.vars)=true:=by kernel_rfl
theorem codesWrites_k6:((Rows.codesWritesRow.stops == []))=true:=by kernel_rfl
theorem codesWrites_k8:((Rows.codesWritesRow.knobs == []))=true:=by kernel_rfl
theorem codesWrites_k10:((Rows.codesWritesRow.inPlace == Tryz.prog.inPlace 5))=true:=by kernel_rfl
theorem codesWrites_k11:((Rows.codesWritesRow.unfollowed == Tryz.prog.unfollowed 5))=true:=by kernel_rfl
theorem codesWrites_k12:((Rows.codesWritesRow.recurses == Tryz.prog.recurses 5))=true:=by kernel_rfl
theorem codesWrites_k13:((Rows.codesWritesRow.named == Tryz.prog.varsNamed 5))=true:=by kernel_rfl
theorem codesWrites_k14:((Rows.codesWritesRow.maps == (Tryz.f5.params.toList++Rows.codesWritesSpec.plain.varTypes Tryz.prog).any (Tryz.prog.mapsRec ·)))=true:=by kernel_rfl
theorem codesWrites_k15:((Rows.codesWritesRow.ifaces == (Tryz.f5.params.toList++Rows.codesWritesSpec.plain.varTypes Tryz.prog).any (Tryz.prog.ifacesRec ·)))=true:=by kernel_rfl
theorem codesWrites_k16:((Rows.codesWritesRow.mapsOut == Tryz.prog.mapsAmong Tryz.f5.resultTypes.toList))=true:=by kernel_rfl
theorem codesWrites_k17:((Rows.codesWritesRow.loops == (Tryz.f5.params.toList++Rows.codesWritesSpec.plain.varTypes Tryz.prog).any (Tryz.prog.loopsFrom ·)))=true:=by kernel_rfl
theorem codesWrites_k18:((Rows.codesWritesRow.wideKeys == (Tryz.f5.params.toList++Rows.codesWritesSpec.plain.varTypes Tryz.prog++Tryz.f5.resultTypes.toList).any (Tryz.prog.wideKeysFrom ·)))=true:=by kernel_rfl
theorem codesWrites_k19:(Rows.codesWritesSpec.vars.all (Tryz.prog.varReadable ·))=true:=by kernel_rfl
theorem codesWrites_k20:(Tryz.f5.resultTypes.all (fun t=>Tryz.prog.readableRec t && decide (t < Tryz.prog.types.size)))=true:=by kernel_rfl
theorem codesWrites_k21:((Rows.codesWritesRow.ifacesOut == Tryz.f5.resultTypes.toList.any (Tryz.prog.ifacesRec ·)))=true:=by kernel_rfl
theorem codesWrites_k22:((Rows.codesWritesRow.loopsOut == Tryz.f5.resultTypes.toList.any (Tryz.prog.loopsFrom ·)))=true:=by kernel_rfl
theorem codesWrites_k24:(Rows.codesWritesRow.shortTexts.isNone)=true:=by kernel_rfl
theorem codesWrites_k29:((Rows.codesWritesRow.kinds == (if Rows.codesWritesRow.domain.isEmpty then [] else Tryz.f5.params.toList.map fun t=>match Tryz.prog.underlying t with | some (.int k)=>some k | _=>none)))=true:=by kernel_rfl
theorem codesWrites_k30:((Rows.codesWritesRow.pinned == Rows.codesWritesRow.pinnedBy))=true:=by kernel_rfl
theorem codesWrites_k31:((Rows.codesWritesRow.veiled == (Tryz.f5.params.toList++Rows.codesWritesSpec.plain.varTypes Tryz.prog++Tryz.f5.resultTypes.toList).any (Tryz.prog.veiledRec ·)))=true:=by kernel_rfl
theorem codesWrites_k32:(Rows.codesWritesRow.veiledFits Tryz.prog Tryz.f5.params.toList (Tryz.f5.params.toList++Rows.codesWritesSpec.plain.varTypes Tryz.prog++Tryz.f5.resultTypes.toList))=true:=by kernel_rfl
theorem codesWrites_closed:joinedFacts Tryz.prog 5 Tryz.f5 Rows.codesWritesSpec Rows.codesWritesRow=true:=(bd_ (bd_ (bd_ (bd_ (bd_ (bd_ (bd_ (bd_ (bd_ (bd_ (bd_ (bd_ (bd_ (bd_ (bd_ (bd_ (bd_ (bd_ (bd_ (bd_ (bd_ (bd_ (bd_ (bd_ (bd_ (bd_ (bd_ (bd_ (bd_ (bd_ (bd_ codesWrites_k1 Jmi) Jnc) codesWrites_k4) codesWrites_k5) codesWrites_k6) Jl7) codesWrites_k8) Jnq) codesWrites_k10) codesWrites_k11) codesWrites_k12) codesWrites_k13) codesWrites_k14) codesWrites_k15) codesWrites_k16) codesWrites_k17) codesWrites_k18) codesWrites_k19) codesWrites_k20) codesWrites_k21) codesWrites_k22) Jld) codesWrites_k24) Jla) Jks) Jkm) Jj7) codesWrites_k29) codesWrites_k30) codesWrites_k31) codesWrites_k32)
set_option maxHeartbeats 2000000 in
theorem codesWrites_lifted (os:Os) (started:os.Started) (H:Type) (enc:TypeId × Value→H) :
  ReturnsInHanded {} Tryz.checked os 5 .any (fun w args=>(Rows.codesWritesSpec.pre enc Tryz.prog Tryz.f5 Rows.codesWritesRow.domain Rows.codesWritesRow.apart w args∧laidMetH Tryz.prog [("math/bits.deBruijn32tab", Rows.laid_math_bits_deBruijn32tab),("math/bits.deBruijn64tab", Rows.laid_math_bits_deBruijn64tab),("internal/strconv.uint64pow10", Rows.laid_internal_strconv_uint64pow10),("unicode/utf8.acceptRanges", Rows.laid_unicode_utf8_acceptRanges),("strconv.ErrRange", Rows.laid_strconv_ErrRange),("strconv.ErrSyntax", Rows.laid_strconv_ErrSyntax),("padlock/codes.words", Rows.laid_padlock_codes_words),("unicode/utf8.first", Rows.laid_unicode_utf8_first)] w)∧sizedMet enc Tryz.prog Tryz.f5 (OpenSpec.ofChange Rows.codesWritesSpec) Rows.codesWritesRow.apart w args)
   (Rows.codesWritesSpec.post enc Tryz.prog Tryz.f5 Rows.codesWritesRow.apart Rows.codesWritesRow.fresh Rows.codesWritesRow.handsOn Rows.codesWritesRow.again):=by
 refine Je4 (C:=Tryz.checked) (X:=fun w _=>laidMetH Tryz.prog [("math/bits.deBruijn32tab", Rows.laid_math_bits_deBruijn32tab),("math/bits.deBruijn64tab", Rows.laid_math_bits_deBruijn64tab),("internal/strconv.uint64pow10", Rows.laid_internal_strconv_uint64pow10),("unicode/utf8.acceptRanges", Rows.laid_unicode_utf8_acceptRanges),("strconv.ErrRange", Rows.laid_strconv_ErrRange),("strconv.ErrSyntax", Rows.laid_strconv_ErrSyntax),("padlock/codes.words", Rows.laid_padlock_codes_words),("unicode/utf8.first", Rows.laid_unicode_utf8_first)] w) (fun _ _ _ hh h=>h.of_heap hh) own started (by kernel_rfl) Tryz.func5
  (ChangeSpec.witness_shaped (enc:=enc) (C:=Tryz.checked) (X:=fun w _=>laidMetH Tryz.prog [("math/bits.deBruijn32tab", Rows.laid_math_bits_deBruijn32tab),("math/bits.deBruijn64tab", Rows.laid_math_bits_deBruijn64tab),("internal/strconv.uint64pow10", Rows.laid_internal_strconv_uint64pow10),("unicode/utf8.acceptRanges", Rows.laid_unicode_utf8_acceptRanges),("strconv.ErrRange", Rows.laid_strconv_ErrRange),("strconv.ErrSyntax", Rows.laid_strconv_ErrSyntax),("padlock/codes.words", Rows.laid_padlock_codes_words),("unicode/utf8.first", Rows.laid_unicode_utf8_first)] w) false (World.laidAll Tryz.prog os [("math/bits.deBruijn32tab", Rows.laid_math_bits_deBruijn32tab),("math/bits.deBruijn64tab", Rows.laid_math_bits_deBruijn64tab),("internal/strconv.uint64pow10", Rows.laid_internal_strconv_uint64pow10),("unicode/utf8.acceptRanges", Rows.laid_unicode_utf8_acceptRanges),("strconv.ErrRange", Rows.laid_strconv_ErrRange),("strconv.ErrSyntax", Rows.laid_strconv_ErrSyntax),("padlock/codes.words", Rows.laid_padlock_codes_words),("unicode/utf8.first", Rows.laid_unicode_utf8_first)]) #[.agg #[.int .i64 0,.int .i64 0],.agg #[.int .i64 0,.int .i64 0,.int .i64 0,.int .i64 0,.int .i64 0,.slice none 0 0,.bool false]] 8 (World.laidAll_os _ _ _) (World.shaped_of_ZipB (by kernel_rfl) (by kernel_rfl)) (by kernel_rfl) (by kernel_rfl) (by kernel_rfl)
   (by rw [MakeChecks.laidMetH_plain _ _ _ (by kernel_rfl)]; exact laidMet_laidAll _ (by kernel_rfl) (by kernel_rfl))) ?_
 intro W base args ds gs before hsh hval0 hW hL
 have hval:∀ (j:Nat) t v,Tryz.f5.params[j]? = some t→args[j]? = some v→Value.okWide Tryz.prog W .any base t v:=hval0
 have hW':=hW
 obtain ⟨p,q,hA0,hV,rfl,hfz,hnd⟩:=hW
 have hA:DataW.TrodAll enc Tryz.prog W 0 (fun _=>true) true Tryz.f5.params.toList args.toList ds p:=hA0
 rw [Tryz.params5] at hA hval
 obtain ⟨v0,v1,d0,d1,p0,p1,rfl,rfl,rfl,h0,h1⟩:=trodAll_two hA
 obtain ⟨rfl,rfl⟩:=trodVars_none hV
 skip
 obtain ⟨⟨c0⟩,rfl,_⟩:=okWide_struct Tryz.underlying45 (hval 0 45 v0 rfl rfl)
 obtain ⟨_,k0⟩:=h0
 obtain ⟨x0,e0,r0⟩:=Jpt _ _ _ k0
 change c0=_ at e0
 subst e0
 obtain ⟨⟨c1⟩,rfl,_⟩:=okWide_struct Tryz.underlying47 (hval 1 47 v1 rfl rfl)
 obtain ⟨_,k1⟩:=h1
 obtain ⟨x1,e1,r1⟩:=Jph _ _ _ k1
 change c1=_ at e1
 subst e1
 refine Calls.mono (Jex x0.1 x0.2 x1.1 x1.2 W r1 (Jk6 hsh) (wOk_of_laid hL) (tab_of_laid hL)) ?_
 rintro e W' ⟨rfl,hb⟩
 exact ⟨_,rfl,Jkl laidOut (by kernel_rfl) rfl Tryz.underlying4 hW' rfl hb rfl rfl rfl⟩
theorem codesWrites_holds:Rows.CodesWritesSaid :=
 OpenClaim.holds_of_wide 5 Tryz.f5 rfl rfl rfl rfl rfl rfl rfl ⟨rfl,rfl,rfl,rfl,rfl⟩ rfl rfl rfl rfl rfl (by kernel_rfl) Tryz.func5 codesWrites_closed
  (of_decide_eq_true (by kernel_rfl)) (by unfold Func.isWrapper; first | (rw [if_pos (by decide +kernel)]; kernel_rfl) | (rw [if_neg (by decide +kernel)]; exact ⟨rfl,rfl⟩))
  (fun os started H enc _=>codesWrites_lifted os started H enc)
theorem codesWrites_card:Rows.CodesWritesCardSaid :=
 Claim7.holds_tied_plain_at .later [] [.data,.data,.data,.data,.sentinel,.sentinel,.widerDeep,.pinned] true (true, "053617055d583a362f6f508b926281926e184b4aeeac6771cf8cd91eadbfd520") true codesWrites_holds (fun _ h=>by cases h) (by kernel_rfl) (fun _ h=>by cases h) codesWrites_row_tie rfl ⟨rfl,rfl⟩ (by kernel_rfl) rfl
  (fun f fn hf hfn=>by
   obtain rfl:f=5:=Option.some.inj ((show Tryz.prog.funcNamed "padlock/padlocklaw01.CodesWrites" = some 5 by kernel_rfl).symm.trans hf) |>.symm
   obtain rfl:fn=Tryz.f5:=(Option.some.inj (Tryz.func5.symm.trans hfn)).symm
   exact ⟨by kernel_rfl,fun j t ht=>by
    rw [Tryz.params5] at ht
    have hm:t∈[45,47]:=by simpa using Array.mem_of_getElem? ht
    have hall:([45,47].all fun u => !Tryz.prog.wantsStandIn u)=true:=by kernel_rfl
    exact (show Tryz.prog.wantsStandIn t=false by simpa using List.all_eq_true.1 hall t hm)⟩)
  (by kernel_rfl)
end Go.Proofs.YtdpbapffdmahnaaGreatDoor
