/- The tied card of the law TopRecorded: whatever the input, it returns true and the input reads as it did. Condition: the package variable room.reserved starts as the program's text lays it (tied). -/
import Derived.Test.YtmoojmgihdgceaaGreatDoorB4
import Derived.Lib.LaidTab
import Derived.LaidSub
import Derived.Test.YtmoojmgihdgceaaGreatDoorZx
import Derived.Test.YtmoojmgihdgceaaGreatDoorZy
import Derived.Test.YtmoojmgihdgceaaGreatDoorTie
import Derived.Test.YtmoojmgihdgceaaGreatDoorCards
set_option maxHeartbeats 8000000
namespace Go.Proofs.YtmoojmgihdgceaaGreatDoor
open Go.ChangeShapes Go.WideShapes Go.ChangeAt Go.RowKit Go.Proofs Go.Joins
set_option maxRecDepth 100000
set_option linter.unusedVariables false
set_option linter.unusedSimpArgs false
theorem own:ownKnob Tryz.prog.godebug=none:=by kernel_rfl
theorem laidOut:laidOutB Tryz.prog=true:=by kernel_rfl
theorem gOk_of_laid4 {W:World} (h:laidMetH Tryz.prog [("math/bits.deBruijn32tab",Rows.laid_math_bits_deBruijn32tab),("math/bits.deBruijn64tab",Rows.laid_math_bits_deBruijn64tab),("internal/strconv.uint64pow10",Rows.laid_internal_strconv_uint64pow10),("padlock/room.reserved",Rows.laid_padlock_room_reserved)] W):∃g,GOk W g:=Lg (by
 have h2:=h.filter (fun x=>x.1 == "padlock/room.reserved")
 exact h2)
theorem tab_of_laid4 {W:World} (h:laidMetH Tryz.prog [("math/bits.deBruijn32tab",Rows.laid_math_bits_deBruijn32tab),("math/bits.deBruijn64tab",Rows.laid_math_bits_deBruijn64tab),("internal/strconv.uint64pow10",Rows.laid_internal_strconv_uint64pow10),("padlock/room.reserved",Rows.laid_padlock_room_reserved)] W):Lib.TabIs Tryz.prog W "internal/strconv.uint64pow10" .u64 Lib.pow10Tab:=by
 have h2:=h.filter (fun x=>x.1 == "internal/strconv.uint64pow10");have h3:laidMetH Tryz.prog [("internal/strconv.uint64pow10",Lib.tabData .u64 Lib.pow10Tab)] W:=h2;rw[MakeChecks.laidMetH_plain _ _ _ (by kernel_rfl)]at h3;exact Lib.tabIs_of_head (g:=1) (t:=313) (e:=242) (n:=20) (by kernel_rfl) (by kernel_rfl) Tryz.underlying313 Tryz.underlying242 (by kernel_rfl) (by kernel_rfl) h3
theorem topRecorded_k1:(Rows.topRecordedRow.wf (OpenSpec.ofChange Rows.topRecordedSpec))=true:=by kernel_rfl
theorem topRecorded_k4:(Tryz.f3.params.all (Tryz.prog.readableRec ·))=true:=by kernel_rfl
theorem topRecorded_k5:(namedTie Tryz.prog Rows.topRecordedRow.named Rows.topRecordedSpec.vars)=true:=by kernel_rfl
theorem topRecorded_k6:((Rows.topRecordedRow.stops == []))=true:=by kernel_rfl
theorem topRecorded_k8:((Rows.topRecordedRow.knobs == []))=true:=by kernel_rfl
theorem topRecorded_k10:((Rows.topRecordedRow.inPlace == Tryz.prog.inPlace 3))=true:=by kernel_rfl
theorem topRecorded_k11:((Rows.topRecordedRow.unfollowed == Tryz.prog.unfollowed 3))=true:=by kernel_rfl
theorem topRecorded_k12:((Rows.topRecordedRow.recurses == Tryz.prog.recurses 3))=true:=by kernel_rfl
theorem topRecorded_k13:((Rows.topRecordedRow.named == Tryz.prog.varsNamed 3))=true:=by kernel_rfl
theorem topRecorded_k14:((Rows.topRecordedRow.maps == (Tryz.f3.params.toList++Rows.topRecordedSpec.plain.varTypes Tryz.prog).any (Tryz.prog.mapsRec ·)))=true:=by kernel_rfl
theorem topRecorded_k15:((Rows.topRecordedRow.ifaces == (Tryz.f3.params.toList++Rows.topRecordedSpec.plain.varTypes Tryz.prog).any (Tryz.prog.ifacesRec ·)))=true:=by kernel_rfl
theorem topRecorded_k16:((Rows.topRecordedRow.mapsOut == Tryz.prog.mapsAmong Tryz.f3.resultTypes.toList))=true:=by kernel_rfl
theorem topRecorded_k17:((Rows.topRecordedRow.loops == (Tryz.f3.params.toList++Rows.topRecordedSpec.plain.varTypes Tryz.prog).any (Tryz.prog.loopsFrom ·)))=true:=by kernel_rfl
theorem topRecorded_k18:((Rows.topRecordedRow.wideKeys == (Tryz.f3.params.toList++Rows.topRecordedSpec.plain.varTypes Tryz.prog++Tryz.f3.resultTypes.toList).any (Tryz.prog.wideKeysFrom ·)))=true:=by kernel_rfl
theorem topRecorded_k19:(Rows.topRecordedSpec.vars.all (Tryz.prog.varReadable ·))=true:=by kernel_rfl
theorem topRecorded_k20:(Tryz.f3.resultTypes.all (fun t=>Tryz.prog.readableRec t&&decide (t<Tryz.prog.types.size)))=true:=by kernel_rfl
theorem topRecorded_k21:((Rows.topRecordedRow.ifacesOut == Tryz.f3.resultTypes.toList.any (Tryz.prog.ifacesRec ·)))=true:=by kernel_rfl
theorem topRecorded_k22:((Rows.topRecordedRow.loopsOut == Tryz.f3.resultTypes.toList.any (Tryz.prog.loopsFrom ·)))=true:=by kernel_rfl
theorem topRecorded_k24:(Rows.topRecordedRow.shortTexts.isNone)=true:=by kernel_rfl
theorem topRecorded_k29:((Rows.topRecordedRow.kinds == (if Rows.topRecordedRow.domain.isEmpty then[]else Tryz.f3.params.toList.map fun t=>match Tryz.prog.underlying t with|some (.int k)=>some k|_=>none)))=true:=by kernel_rfl
theorem topRecorded_k30:((Rows.topRecordedRow.pinned == Rows.topRecordedRow.pinnedBy))=true:=by kernel_rfl
theorem topRecorded_k31:((Rows.topRecordedRow.veiled == (Tryz.f3.params.toList++Rows.topRecordedSpec.plain.varTypes Tryz.prog++Tryz.f3.resultTypes.toList).any (Tryz.prog.veiledRec ·)))=true:=by kernel_rfl
theorem topRecorded_k32:(Rows.topRecordedRow.veiledFits Tryz.prog Tryz.f3.params.toList (Tryz.f3.params.toList++Rows.topRecordedSpec.plain.varTypes Tryz.prog++Tryz.f3.resultTypes.toList))=true:=by kernel_rfl
theorem topRecorded_closed:joinedFacts Tryz.prog 3 Tryz.f3 Rows.topRecordedSpec Rows.topRecordedRow=true:=(bd_ (bd_ (bd_ (bd_ (bd_ (bd_ (bd_ (bd_ (bd_ (bd_ (bd_ (bd_ (bd_ (bd_ (bd_ (bd_ (bd_ (bd_ (bd_ (bd_ (bd_ (bd_ (bd_ (bd_ (bd_ (bd_ (bd_ (bd_ (bd_ (bd_ (bd_ topRecorded_k1 WJ) W4) topRecorded_k4) topRecorded_k5) topRecorded_k6) Vs) topRecorded_k8) Vx) topRecorded_k10) topRecorded_k11) topRecorded_k12) topRecorded_k13) topRecorded_k14) topRecorded_k15) topRecorded_k16) topRecorded_k17) topRecorded_k18) topRecorded_k19) topRecorded_k20) topRecorded_k21) topRecorded_k22) Sn) topRecorded_k24) TV) Sr) TW) Ss) topRecorded_k29) topRecorded_k30) topRecorded_k31) topRecorded_k32)
set_option maxHeartbeats 2000000 in
theorem topRecorded_lifted (os:Os) (started:os.Started) (H:Type) (enc:TypeId×Value→H):
  ReturnsInHanded {} Tryz.checked os 3 .any (fun w args=>(Rows.topRecordedSpec.pre enc Tryz.prog Tryz.f3 Rows.topRecordedRow.domain Rows.topRecordedRow.apart w args∧laidMetH Tryz.prog [("math/bits.deBruijn32tab",Rows.laid_math_bits_deBruijn32tab),("math/bits.deBruijn64tab",Rows.laid_math_bits_deBruijn64tab),("internal/strconv.uint64pow10",Rows.laid_internal_strconv_uint64pow10),("padlock/room.reserved",Rows.laid_padlock_room_reserved)] w)∧sizedMet enc Tryz.prog Tryz.f3 (OpenSpec.ofChange Rows.topRecordedSpec) Rows.topRecordedRow.apart w args)
   (Rows.topRecordedSpec.post enc Tryz.prog Tryz.f3 Rows.topRecordedRow.apart Rows.topRecordedRow.fresh Rows.topRecordedRow.handsOn Rows.topRecordedRow.again):=by
 refine returnsInHanded_of_change_and (C:=Tryz.checked) (X:=fun w _=>laidMetH Tryz.prog [("math/bits.deBruijn32tab",Rows.laid_math_bits_deBruijn32tab),("math/bits.deBruijn64tab",Rows.laid_math_bits_deBruijn64tab),("internal/strconv.uint64pow10",Rows.laid_internal_strconv_uint64pow10),("padlock/room.reserved",Rows.laid_padlock_room_reserved)] w) (fun _ _ _ hh h=>h.of_heap hh) own started (by kernel_rfl) Tryz.func3
  (ChangeSpec.witness_shaped (enc:=enc) (C:=Tryz.checked) (X:=fun w _=>laidMetH Tryz.prog [("math/bits.deBruijn32tab",Rows.laid_math_bits_deBruijn32tab),("math/bits.deBruijn64tab",Rows.laid_math_bits_deBruijn64tab),("internal/strconv.uint64pow10",Rows.laid_internal_strconv_uint64pow10),("padlock/room.reserved",Rows.laid_padlock_room_reserved)] w) false (World.laidAll Tryz.prog os [("math/bits.deBruijn32tab",Rows.laid_math_bits_deBruijn32tab),("math/bits.deBruijn64tab",Rows.laid_math_bits_deBruijn64tab),("internal/strconv.uint64pow10",Rows.laid_internal_strconv_uint64pow10),("padlock/room.reserved",Rows.laid_padlock_room_reserved)]) #[.agg #[.slice none 0 0,.slice none 0 0,.slice none 0 0,.slice none 0 0,.slice none 0 0,.slice none 0 0,.int .i64 0,.slice none 0 0,.slice none 0 0,.slice none 0 0,.slice none 0 0,.int .i64 0],.slice none 0 0,.slice none 0 0] 8 (World.laidAll_os _ _ _) (World.shaped_of_ZipB (by kernel_rfl) (by kernel_rfl)) (by kernel_rfl) (by kernel_rfl) (by kernel_rfl)
   (by rw[MakeChecks.laidMetH_plain _ _ _ (by kernel_rfl)];exact laidMet_laidAll _ (by kernel_rfl) (by kernel_rfl))) ?_
 intro W base args ds gs before hval0 hW _ _ hL _;have hval:∀(j:Nat) t v,Tryz.f3.params[j]? = some t→args[j]? = some v→Value.okWide Tryz.prog W .any base t v:=hval0;have hW':=hW;obtain⟨p,q,hA0,hV,rfl,hfz,hnd⟩:=hW;have hA:DataW.TrodAll enc Tryz.prog W 0 (fun _=>true) true Tryz.f3.params.toList args.toList ds p:=hA0;rw[Tryz.params3]at hA hval;obtain⟨v0,v1,v2,d0,d1,d2,p0,p1,p2,rfl,rfl,rfl,h0,h1,h2⟩:=trodAll_three hA;obtain⟨rfl,rfl⟩:=trodVars_none hV;obtain⟨g,hG⟩:=gOk_of_laid4 hL;obtain⟨⟨c0⟩,rfl,_⟩:=okWide_struct Tryz.underlying36 (hval 0 36 v0 rfl rfl);obtain⟨_,k0⟩:=h0;obtain⟨x0,e0,r0⟩:=U0 k0
 change c0=_ at e0
 subst e0;obtain⟨_,_,_,rfl⟩:=okWide_slice Tryz.underlying37 (hval 1 37 v1 rfl rfl);obtain⟨_,k1⟩:=h1;obtain⟨x1,e1,r1⟩:=(AP Tryz.underlying37 (by kernel_rfl) (by decide) (A3 Tryz.underlying3)) _ _ _ k1;rw[show Value.slice _ _ _=x1.v from(List.cons.inj e1).1]at hW'⊢;obtain⟨_,_,_,rfl⟩:=okWide_slice Tryz.underlying38 (hval 2 38 v2 rfl rfl);obtain⟨_,k2⟩:=h2;obtain⟨x2,e2,r2⟩:=(AP Tryz.underlying38 (by kernel_rfl) (by decide) SU) _ _ _ k2;rw[show Value.slice _ _ _=x2.v from(List.cons.inj e2).1]at hW'⊢;refine Calls.mono (Jba x0 W r0 g hG (tab_of_laid4 hL) x1.v x1.l r1.ints x2 r2) ?_;rintro e W' ⟨rfl,hb⟩;exact⟨_,rfl,So laidOut (by kernel_rfl) rfl Tryz.underlying4 hW' rfl hb rfl rfl rfl⟩
theorem topRecorded_holds:Rows.TopRecordedSaid:=
 OpenClaim.holds_of_wide 3 Tryz.f3 rfl rfl rfl rfl rfl rfl rfl ⟨rfl,rfl,rfl,rfl,rfl⟩ rfl rfl rfl rfl rfl (by kernel_rfl) Tryz.func3 topRecorded_closed
  (of_decide_eq_true (by kernel_rfl)) (by unfold Func.isWrapper;first|(rw[if_pos (by decide+kernel)];kernel_rfl)|(rw[if_neg (by decide+kernel)];exact⟨rfl,rfl⟩))
  (fun os started H enc _=>topRecorded_lifted os started H enc)
theorem topRecorded_card:Rows.TopRecordedCardSaid:=
 Claim7.holds_tied_plain_at .later [] [.data,.data,.data,.widerDeep] true (true, "071da577ef991ade555c0894154efb4158dc19028c95e2aafd422bf62a7cb2a8") false topRecorded_holds (fun _ h=>by cases h) (by kernel_rfl) (fun _ h=>by cases h) topRecorded_row_tie rfl ⟨rfl,rfl⟩ (by kernel_rfl) rfl
  (fun f fn hf hfn=>by
   obtain rfl:f=3:=Option.some.inj ((show Tryz.prog.funcNamed "padlock/padlocktop.TopRecorded" = some 3 by kernel_rfl).symm.trans hf) |>.symm;obtain rfl:fn=Tryz.f3:=(Option.some.inj (Tryz.func3.symm.trans hfn)).symm
   exact⟨by kernel_rfl,fun j t ht=>by
    rw[Tryz.params3]at ht;have hm:t∈[36,37,38]:=by simpa using Array.mem_of_getElem? ht
    have hall:([36,37,38].all fun u=>!Tryz.prog.wantsStandIn u)=true:=by kernel_rfl
    exact(show Tryz.prog.wantsStandIn t=false by simpa using List.all_eq_true.1 hall t hm)⟩)
  (by kernel_rfl)
end Go.Proofs.YtmoojmgihdgceaaGreatDoor
