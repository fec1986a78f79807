/- The tied card of the law TopNext: whatever the input, it returns true and the input reads as it did. Condition: the package variable room.reserved starts as the program's text lays it (tied). -/
import Derived.Test.YtbboikncaihafaaGreatDoorV4
import Derived.Lib.LaidTab
import Derived.LaidSub
import Derived.Test.YtbboikncaihafaaGreatDoorZx
import Derived.Test.YtbboikncaihafaaGreatDoorZy
import Derived.Test.YtbboikncaihafaaGreatDoorTie
import Derived.Test.YtbboikncaihafaaGreatDoorCards
set_option maxHeartbeats 8000000
namespace Go.Proofs.YtbboikncaihafaaGreatDoor
open Go.ChangeShapes Go.WideShapes Go.ChangeAt Go.RowKit Go.Proofs Go.Joins
set_option maxRecDepth 100000
set_option linter.unusedVariables false
set_option linter.unusedSimpArgs false
theorem own:ownKnob Tryz.prog.godebug=none:=by kernel_rfl
theorem laidOut:laidOutB Tryz.prog=true:=by kernel_rfl
theorem gOk_of_laid4 {W:World} (h:laidMetH Tryz.prog [("math/bits.deBruijn32tab", Rows.laid_math_bits_deBruijn32tab),("math/bits.deBruijn64tab", Rows.laid_math_bits_deBruijn64tab),("internal/strconv.uint64pow10", Rows.laid_internal_strconv_uint64pow10),("padlock/room.reserved", Rows.laid_padlock_room_reserved)] W):∃ g,GOk W g:=Jk1 (by
 have h2:=h.filter (fun x=>x.1 == "padlock/room.reserved")
 exact h2)
theorem tab_of_laid4 {W:World} (h:laidMetH Tryz.prog [("math/bits.deBruijn32tab", Rows.laid_math_bits_deBruijn32tab),("math/bits.deBruijn64tab", Rows.laid_math_bits_deBruijn64tab),("internal/strconv.uint64pow10", Rows.laid_internal_strconv_uint64pow10),("padlock/room.reserved", Rows.laid_padlock_room_reserved)] W):Lib.TabIs Tryz.prog W "internal/strconv.uint64pow10" .u64 Lib.pow10Tab:=by
 have h2:=h.filter (fun x=>x.1 == "internal/strconv.uint64pow10")
 have h3:laidMetH Tryz.prog [("internal/strconv.uint64pow10", Lib.tabData .u64 Lib.pow10Tab)] W:=h2
 rw [MakeChecks.laidMetH_plain _ _ _ (by kernel_rfl)] at h3
 exact Lib.tabIs_of_head (g:=1) (t:=289) (e:=268) (n:=20) (by kernel_rfl) (by kernel_rfl) Tryz.underlying289 Tryz.underlying268 (by kernel_rfl) (by kernel_rfl) h3
theorem topNext_k1:(Rows.topNextRow.wf (OpenSpec.ofChange Rows.topNextSpec))=true:=by kernel_rfl
theorem topNext_k4:(Tryz.f3.params.all (Tryz.prog.readableRec ·))=true:=by kernel_rfl
theorem topNext_k5:(namedTie Tryz.prog Rows.topNextRow.named Rows.topNextSpec.vars)=true:=by kernel_rfl
theorem topNext_k6:((Rows.topNextRow.stops == []))=true:=by kernel_rfl
theorem topNext_k8:((Rows.topNextRow.knobs == []))=true:=by kernel_rfl
theorem topNext_k10:((Rows.topNextRow.inPlace == Tryz.prog.inPlace 3))=true:=by kernel_rfl
theorem topNext_k11:((Rows.topNextRow.unfollowed == Tryz.prog.unfollowed 3))=true:=by kernel_rfl
theorem topNext_k12:((Rows.topNextRow.recurses == Tryz.prog.recurses 3))=true:=by kernel_rfl
theorem topNext_k13:((Rows.topNextRow.named == Tryz.prog.varsNamed 3))=true:=by kernel_rfl
theorem topNext_k14:((Rows.topNextRow.maps == (Tryz.f3.params.toList++Rows.topNextSpec.plain.varTypes Tryz.prog).any (Tryz.prog.mapsRec ·)))=true:=by kernel_rfl
theorem topNext_k15:((Rows.topNextRow.ifaces == (Tryz.f3.params.toList++Rows.topNextSpec.plain.varTypes Tryz.prog).any (Tryz.prog.ifacesRec ·)))=true:=by kernel_rfl
theorem topNext_k16:((Rows.topNextRow.mapsOut == Tryz.prog.mapsAmong Tryz.f3.resultTypes.toList))=true:=by kernel_rfl
theorem topNext_k17:((Rows.topNextRow.loops == (Tryz.f3.params.toList++Rows.topNextSpec.plain.varTypes Tryz.prog).any (Tryz.prog.loopsFrom ·)))=true:=by kernel_rfl
theorem topNext_k18:((Rows.topNextRow.wideKeys == (Tryz.f3.params.toList++Rows.topNextSpec.plain.varTypes Tryz.prog++Tryz.f3.resultTypes.toList).any (Tryz.prog.wideKeysFrom ·)))=true:=by kernel_rfl
theorem topNext_k19:(Rows.topNextSpec.vars.all (Tryz.prog.varReadable ·))=true:=by kernel_rfl
theorem topNext_k20:(Tryz.f3.resultTypes.all (fun t=>Tryz.prog.readableRec t && decide (t < Tryz.prog.types.size)))=true:=by kernel_rfl
theorem topNext_k21:((Rows.topNextRow.ifacesOut == Tryz.f3.resultTypes.toList.any (Tryz.prog.ifacesRec ·)))=true:=by kernel_rfl
theorem topNext_k22:((Rows.topNextRow.loopsOut == Tryz.f3.resultTypes.toList.any (Tryz.prog.loopsFrom ·)))=true:=by kernel_rfl
theorem topNext_k24:(Rows.topNextRow.shortTexts.isNone)=true:=by kernel_rfl
theorem topNext_k29:((Rows.topNextRow.kinds == (if Rows.topNextRow.domain.isEmpty then [] else Tryz.f3.params.toList.map fun t=>match Tryz.prog.underlying t with | some (.int k)=>some k | _=>none)))=true:=by kernel_rfl
theorem topNext_k30:((Rows.topNextRow.pinned == Rows.topNextRow.pinnedBy))=true:=by kernel_rfl
theorem topNext_k31:((Rows.topNextRow.veiled == (Tryz.f3.params.toList++Rows.topNextSpec.plain.varTypes Tryz.prog++Tryz.f3.resultTypes.toList).any (Tryz.prog.veiledRec ·)))=true:=by kernel_rfl
theorem topNext_k32:(Rows.topNextRow.veiledFits Tryz.prog Tryz.f3.params.toList (Tryz.f3.params.toList++Rows.topNextSpec.plain.varTypes Tryz.prog++Tryz.f3.resultTypes.toList))=true:=by kernel_rfl
theorem topNext_closed:joinedFacts Tryz.prog 3 Tryz.f3 Rows.topNextSpec Rows.topNextRow=true:=(bd_ (bd_ (bd_ (bd_ (bd_ (bd_ (bd_ (bd_ (bd_ (bd_ (bd_ (bd_ (bd_ (bd_ (bd_ (bd_ (bd_ (bd_ (bd_ (bd_ (bd_ (bd_ (bd_ (bd_ (bd_ (bd_ (bd_ (bd_ (bd_ (bd_ (bd_ topNext_k1 Jvy) Jw7) topNext_k4) topNext_k5) topNext_k6) Jxc) topNext_k8) Jvb) topNext_k10) topNext_k11) topNext_k12) topNext_k13) topNext_k14) topNext_k15) topNext_k16) topNext_k17) topNext_k18) topNext_k19) topNext_k20) topNext_k21) topNext_k22) Jsl) topNext_k24) Jsq) Js6) Jtd) Jtf) topNext_k29) topNext_k30) topNext_k31) topNext_k32)
set_option maxHeartbeats 2000000 in
theorem topNext_lifted (os:Os) (started:os.Started) (H:Type) (enc:TypeId × Value→H) :
  ReturnsInHanded {} Tryz.checked os 3 .any (fun w args=>(Rows.topNextSpec.pre enc Tryz.prog Tryz.f3 Rows.topNextRow.domain Rows.topNextRow.apart w args∧laidMetH Tryz.prog [("math/bits.deBruijn32tab", Rows.laid_math_bits_deBruijn32tab),("math/bits.deBruijn64tab", Rows.laid_math_bits_deBruijn64tab),("internal/strconv.uint64pow10", Rows.laid_internal_strconv_uint64pow10),("padlock/room.reserved", Rows.laid_padlock_room_reserved)] w)∧sizedMet enc Tryz.prog Tryz.f3 (OpenSpec.ofChange Rows.topNextSpec) Rows.topNextRow.apart w args)
   (Rows.topNextSpec.post enc Tryz.prog Tryz.f3 Rows.topNextRow.apart Rows.topNextRow.fresh Rows.topNextRow.handsOn Rows.topNextRow.again):=by
 refine returnsInHanded_of_change_and (C:=Tryz.checked) (X:=fun w _=>laidMetH Tryz.prog [("math/bits.deBruijn32tab", Rows.laid_math_bits_deBruijn32tab),("math/bits.deBruijn64tab", Rows.laid_math_bits_deBruijn64tab),("internal/strconv.uint64pow10", Rows.laid_internal_strconv_uint64pow10),("padlock/room.reserved", Rows.laid_padlock_room_reserved)] w) (fun _ _ _ hh h=>h.of_heap hh) own started (by kernel_rfl) Tryz.func3
  (ChangeSpec.witness_shaped (enc:=enc) (C:=Tryz.checked) (X:=fun w _=>laidMetH Tryz.prog [("math/bits.deBruijn32tab", Rows.laid_math_bits_deBruijn32tab),("math/bits.deBruijn64tab", Rows.laid_math_bits_deBruijn64tab),("internal/strconv.uint64pow10", Rows.laid_internal_strconv_uint64pow10),("padlock/room.reserved", Rows.laid_padlock_room_reserved)] w) false (World.laidAll Tryz.prog os [("math/bits.deBruijn32tab", Rows.laid_math_bits_deBruijn32tab),("math/bits.deBruijn64tab", Rows.laid_math_bits_deBruijn64tab),("internal/strconv.uint64pow10", Rows.laid_internal_strconv_uint64pow10),("padlock/room.reserved", Rows.laid_padlock_room_reserved)]) #[.agg #[.slice none 0 0,.slice none 0 0,.slice none 0 0,.slice none 0 0,.slice none 0 0,.slice none 0 0,.int .i64 0,.slice none 0 0,.slice none 0 0,.slice none 0 0,.slice none 0 0,.int .i64 0],.slice none 0 0] 8 (World.laidAll_os _ _ _) (World.shaped_of_ZipB (by kernel_rfl) (by kernel_rfl)) (by kernel_rfl) (by kernel_rfl) (by kernel_rfl)
   (by rw [MakeChecks.laidMetH_plain _ _ _ (by kernel_rfl)]; exact laidMet_laidAll _ (by kernel_rfl) (by kernel_rfl))) ?_
 intro W base args ds gs before hval0 hW _ _ hL _
 have hval:∀ (j:Nat) t v,Tryz.f3.params[j]? = some t→args[j]? = some v→Value.okWide Tryz.prog W .any base t v:=hval0
 have hW':=hW
 obtain ⟨p,q,hA0,hV,rfl,hfz,hnd⟩:=hW
 have hA:DataW.TrodAll enc Tryz.prog W 0 (fun _=>true) true Tryz.f3.params.toList args.toList ds p:=hA0
 rw [Tryz.params3] at hA hval
 obtain ⟨v0,v1,d0,d1,p0,p1,rfl,rfl,rfl,h0,h1⟩:=trodAll_two hA
 obtain ⟨rfl,rfl⟩:=trodVars_none hV
 obtain ⟨g,hG⟩:=gOk_of_laid4 hL
 obtain ⟨⟨c0⟩,rfl,_⟩:=okWide_struct Tryz.underlying36 (hval 0 36 v0 rfl rfl)
 obtain ⟨_,k0⟩:=h0
 obtain ⟨x0,e0,r0⟩:=Jvx k0
 change c0=_ at e0
 subst e0
 obtain ⟨_,_,_,rfl⟩:=okWide_slice Tryz.underlying37 (hval 1 37 v1 rfl rfl)
 obtain ⟨_,k1⟩:=h1
 obtain ⟨x1,e1,r1⟩:=(Ja0 Tryz.underlying37 (by kernel_rfl) (by decide) Jwl) _ _ _ k1
 rw [show Value.slice _ _ _=x1.v from (List.cons.inj e1).1] at hW' ⊢
 refine Calls.mono (Jpy x0 W r0 g hG x1 r1 (tab_of_laid4 hL)) ?_
 rintro e W' ⟨rfl,hb⟩
 exact ⟨_,rfl,Jsb laidOut (by kernel_rfl) rfl Tryz.underlying4 hW' rfl hb rfl rfl rfl⟩
theorem topNext_holds:Rows.TopNextSaid :=
 OpenClaim.holds_of_wide 3 Tryz.f3 rfl rfl rfl rfl rfl rfl rfl ⟨rfl,rfl,rfl,rfl,rfl⟩ rfl rfl rfl rfl rfl (by kernel_rfl) Tryz.func3 topNext_closed
  (of_decide_eq_true (by kernel_rfl)) (by unfold Func.isWrapper; first | (rw [if_pos (by decide +kernel)]; kernel_rfl) | (rw [if_neg (by decide +kernel)]; exact ⟨rfl,rfl⟩))
  (fun os started H enc _=>topNext_lifted os started H enc)
theorem topNext_card:Rows.TopNextCardSaid :=
 Claim7.holds_tied_plain_at .later [] [.data,.data,.data,.widerDeep] true (true, "23f0ec78cf0b6fd08abb9e056889bf2e734929b3f2ca8e51bf753b6d1c356c03") false topNext_holds (fun _ h=>by cases h) (by kernel_rfl) (fun _ h=>by cases h) topNext_row_tie rfl ⟨rfl,rfl⟩ (by kernel_rfl) rfl
  (fun f fn hf hfn=>by
   obtain rfl:f=3:=Option.some.inj ((show Tryz.prog.funcNamed "padlock/padlocktop.TopNext" = some 3 by kernel_rfl).symm.trans hf) |>.symm
   obtain rfl:fn=Tryz.f3:=(Option.some.inj (Tryz.func3.symm.trans hfn)).symm
   exact ⟨by kernel_rfl,fun j t ht=>by
    rw [Tryz.params3] at ht
    have hm:t∈[36,37]:=by simpa using Array.mem_of_getElem? ht
    have hall:([36,37].all fun u => !Tryz.prog.wantsStandIn u)=true:=by kernel_rfl
    exact (show Tryz.prog.wantsStandIn t=false by simpa using List.all_eq_true.1 hall t hm)⟩)
  (by kernel_rfl)
end Go.Proofs.YtbboikncaihafaaGreatDoor
