/- The tied card of the law RecordWastes: whatever the input, it returns true and the input reads as it did. Condition: the package variable room.reserved starts as the program's text lays it (tied). -/
import Derived.Test.YtmoojmgihdgceaaGreatDoorWc
import Derived.Lib.LaidTab
import Derived.LaidSub
import Derived.Test.YtmoojmgihdgceaaGreatDoorZx
import Derived.Test.YtmoojmgihdgceaaGreatDoorZy
import Derived.Test.YtmoojmgihdgceaaGreatDoorTie
import Derived.Test.YtmoojmgihdgceaaGreatDoorCards
set_option maxHeartbeats 8000000
namespace Go.Proofs.YtmoojmgihdgceaaGreatDoor
open Go.ChangeShapes Go.WideShapes Go.ChangeAt Go.RowKit Go.Proofs Go.Joins
set_option maxRecDepth 100000
set_option linter.unusedVariables false
set_option linter.unusedSimpArgs false
theorem own:ownKnob Tryz.prog.godebug=none:=by kernel_rfl
theorem laidOut:laidOutB Tryz.prog=true:=by kernel_rfl
theorem gOk_of_laid4 {W:World} (h:laidMetH Tryz.prog [("math/bits.deBruijn32tab",Rows.laid_math_bits_deBruijn32tab),("math/bits.deBruijn64tab",Rows.laid_math_bits_deBruijn64tab),("internal/strconv.uint64pow10",Rows.laid_internal_strconv_uint64pow10),("padlock/room.reserved",Rows.laid_padlock_room_reserved)] W):∃g,GOk W g:=Jpw (by
 have h2:=h.filter (fun x=>x.1 == "padlock/room.reserved")
 exact h2)
theorem tab_of_laid4 {W:World} (h:laidMetH Tryz.prog [("math/bits.deBruijn32tab",Rows.laid_math_bits_deBruijn32tab),("math/bits.deBruijn64tab",Rows.laid_math_bits_deBruijn64tab),("internal/strconv.uint64pow10",Rows.laid_internal_strconv_uint64pow10),("padlock/room.reserved",Rows.laid_padlock_room_reserved)] W):Lib.TabIs Tryz.prog W "internal/strconv.uint64pow10" .u64 Lib.pow10Tab:=by
 have h2:=h.filter (fun x=>x.1 == "internal/strconv.uint64pow10");have h3:laidMetH Tryz.prog [("internal/strconv.uint64pow10",Lib.tabData .u64 Lib.pow10Tab)] W:=h2;rw[MakeChecks.laidMetH_plain _ _ _ (by kernel_rfl)]at h3;exact Lib.tabIs_of_head (g:=1) (t:=313) (e:=242) (n:=20) (by kernel_rfl) (by kernel_rfl) Tryz.underlying313 Tryz.underlying242 (by kernel_rfl) (by kernel_rfl) h3
theorem recordWastes_k1:(Rows.recordWastesRow.wf (OpenSpec.ofChange Rows.recordWastesSpec))=true:=by kernel_rfl
theorem recordWastes_k4:(Tryz.f4.params.all (Tryz.prog.readableRec ·))=true:=by kernel_rfl
theorem recordWastes_k5:(namedTie Tryz.prog Rows.recordWastesRow.named Rows.recordWastesSpec.vars)=true:=by kernel_rfl
theorem recordWastes_k6:((Rows.recordWastesRow.stops == []))=true:=by kernel_rfl
theorem recordWastes_k8:((Rows.recordWastesRow.knobs == []))=true:=by kernel_rfl
theorem recordWastes_k10:((Rows.recordWastesRow.inPlace == Tryz.prog.inPlace 4))=true:=by kernel_rfl
theorem recordWastes_k11:((Rows.recordWastesRow.unfollowed == Tryz.prog.unfollowed 4))=true:=by kernel_rfl
theorem recordWastes_k12:((Rows.recordWastesRow.recurses == Tryz.prog.recurses 4))=true:=by kernel_rfl
theorem recordWastes_k13:((Rows.recordWastesRow.named == Tryz.prog.varsNamed 4))=true:=by kernel_rfl
theorem recordWastes_k14:((Rows.recordWastesRow.maps == (Tryz.f4.params.toList++Rows.recordWastesSpec.plain.varTypes Tryz.prog).any (Tryz.prog.mapsRec ·)))=true:=by kernel_rfl
theorem recordWastes_k15:((Rows.recordWastesRow.ifaces == (Tryz.f4.params.toList++Rows.recordWastesSpec.plain.varTypes Tryz.prog).any (Tryz.prog.ifacesRec ·)))=true:=by kernel_rfl
theorem recordWastes_k16:((Rows.recordWastesRow.mapsOut == Tryz.prog.mapsAmong Tryz.f4.resultTypes.toList))=true:=by kernel_rfl
theorem recordWastes_k17:((Rows.recordWastesRow.loops == (Tryz.f4.params.toList++Rows.recordWastesSpec.plain.varTypes Tryz.prog).any (Tryz.prog.loopsFrom ·)))=true:=by kernel_rfl
theorem recordWastes_k18:((Rows.recordWastesRow.wideKeys == (Tryz.f4.params.toList++Rows.recordWastesSpec.plain.varTypes Tryz.prog++Tryz.f4.resultTypes.toList).any (Tryz.prog.wideKeysFrom ·)))=true:=by kernel_rfl
theorem recordWastes_k19:(Rows.recordWastesSpec.vars.all (Tryz.prog.varReadable ·))=true:=by kernel_rfl
theorem recordWastes_k20:(Tryz.f4.resultTypes.all (fun t=>Tryz.prog.readableRec t&&decide (t<Tryz.prog.types.size)))=true:=by kernel_rfl
theorem recordWastes_k21:((Rows.recordWastesRow.ifacesOut == Tryz.f4.resultTypes.toList.any (Tryz.prog.ifacesRec ·)))=true:=by kernel_rfl
theorem recordWastes_k22:((Rows.recordWastesRow.loopsOut == Tryz.f4.resultTypes.toList.any (Tryz.prog.loopsFrom ·)))=true:=by kernel_rfl
theorem recordWastes_k24:(Rows.recordWastesRow.shortTexts.isNone)=true:=by kernel_rfl
theorem recordWastes_k29:((Rows.recordWastesRow.kinds == (if Rows.recordWastesRow.domain.isEmpty then[]else Tryz.f4.params.toList.map fun t=>match Tryz.prog.underlying t with|some (.int k)=>some k|_=>none)))=true:=by kernel_rfl
theorem recordWastes_k30:((Rows.recordWastesRow.pinned == Rows.recordWastesRow.pinnedBy))=true:=by kernel_rfl
theorem recordWastes_k31:((Rows.recordWastesRow.veiled == (Tryz.f4.params.toList++Rows.recordWastesSpec.plain.varTypes Tryz.prog++Tryz.f4.resultTypes.toList).any (Tryz.prog.veiledRec ·)))=true:=by kernel_rfl
theorem recordWastes_k32:(Rows.recordWastesRow.veiledFits Tryz.prog Tryz.f4.params.toList (Tryz.f4.params.toList++Rows.recordWastesSpec.plain.varTypes Tryz.prog++Tryz.f4.resultTypes.toList))=true:=by kernel_rfl
theorem recordWastes_closed:joinedFacts Tryz.prog 4 Tryz.f4 Rows.recordWastesSpec Rows.recordWastesRow=true:=(bd_ (bd_ (bd_ (bd_ (bd_ (bd_ (bd_ (bd_ (bd_ (bd_ (bd_ (bd_ (bd_ (bd_ (bd_ (bd_ (bd_ (bd_ (bd_ (bd_ (bd_ (bd_ (bd_ (bd_ (bd_ (bd_ (bd_ (bd_ (bd_ (bd_ (bd_ recordWastes_k1 J8s) J9c) recordWastes_k4) recordWastes_k5) recordWastes_k6) J6u) recordWastes_k8) J86) recordWastes_k10) recordWastes_k11) recordWastes_k12) recordWastes_k13) recordWastes_k14) recordWastes_k15) recordWastes_k16) recordWastes_k17) recordWastes_k18) recordWastes_k19) recordWastes_k20) recordWastes_k21) recordWastes_k22) J13) recordWastes_k24) J3j) J4n) J1t) J3c) recordWastes_k29) recordWastes_k30) recordWastes_k31) recordWastes_k32)
set_option maxHeartbeats 2000000 in
theorem recordWastes_lifted (os:Os) (started:os.Started) (H:Type) (enc:TypeId×Value→H):
  ReturnsInHanded {} Tryz.checked os 4 .any (fun w args=>(Rows.recordWastesSpec.pre enc Tryz.prog Tryz.f4 Rows.recordWastesRow.domain Rows.recordWastesRow.apart w args∧laidMetH Tryz.prog [("math/bits.deBruijn32tab",Rows.laid_math_bits_deBruijn32tab),("math/bits.deBruijn64tab",Rows.laid_math_bits_deBruijn64tab),("internal/strconv.uint64pow10",Rows.laid_internal_strconv_uint64pow10),("padlock/room.reserved",Rows.laid_padlock_room_reserved)] w)∧sizedMet enc Tryz.prog Tryz.f4 (OpenSpec.ofChange Rows.recordWastesSpec) Rows.recordWastesRow.apart w args)
   (Rows.recordWastesSpec.post enc Tryz.prog Tryz.f4 Rows.recordWastesRow.apart Rows.recordWastesRow.fresh Rows.recordWastesRow.handsOn Rows.recordWastesRow.again):=by
 refine returnsInHanded_of_change_and (C:=Tryz.checked) (X:=fun w _=>laidMetH Tryz.prog [("math/bits.deBruijn32tab",Rows.laid_math_bits_deBruijn32tab),("math/bits.deBruijn64tab",Rows.laid_math_bits_deBruijn64tab),("internal/strconv.uint64pow10",Rows.laid_internal_strconv_uint64pow10),("padlock/room.reserved",Rows.laid_padlock_room_reserved)] w) (fun _ _ _ hh h=>h.of_heap hh) own started (by kernel_rfl) Tryz.func4
  (ChangeSpec.witness_shaped (enc:=enc) (C:=Tryz.checked) (X:=fun w _=>laidMetH Tryz.prog [("math/bits.deBruijn32tab",Rows.laid_math_bits_deBruijn32tab),("math/bits.deBruijn64tab",Rows.laid_math_bits_deBruijn64tab),("internal/strconv.uint64pow10",Rows.laid_internal_strconv_uint64pow10),("padlock/room.reserved",Rows.laid_padlock_room_reserved)] w) false (World.laidAll Tryz.prog os [("math/bits.deBruijn32tab",Rows.laid_math_bits_deBruijn32tab),("math/bits.deBruijn64tab",Rows.laid_math_bits_deBruijn64tab),("internal/strconv.uint64pow10",Rows.laid_internal_strconv_uint64pow10),("padlock/room.reserved",Rows.laid_padlock_room_reserved)]) #[.agg #[.slice none 0 0,.slice none 0 0,.slice none 0 0,.slice none 0 0,.slice none 0 0,.slice none 0 0,.int .i64 0,.slice none 0 0,.slice none 0 0,.slice none 0 0,.slice none 0 0,.int .i64 0],.slice none 0 0] 8 (World.laidAll_os _ _ _) (World.shaped_of_ZipB (by kernel_rfl) (by kernel_rfl)) (by kernel_rfl) (by kernel_rfl) (by kernel_rfl)
   (by rw[MakeChecks.laidMetH_plain _ _ _ (by kernel_rfl)];exact laidMet_laidAll _ (by kernel_rfl) (by kernel_rfl))) ?_
 intro W base args ds gs before hval0 hW _ _ hL _;have hval:∀(j:Nat) t v,Tryz.f4.params[j]? = some t→args[j]? = some v→Value.okWide Tryz.prog W .any base t v:=hval0;have hW':=hW;obtain⟨p,q,hA0,hV,rfl,hfz,hnd⟩:=hW;have hA:DataW.TrodAll enc Tryz.prog W 0 (fun _=>true) true Tryz.f4.params.toList args.toList ds p:=hA0;rw[Tryz.params4]at hA hval;obtain⟨v0,v1,d0,d1,p0,p1,rfl,rfl,rfl,h0,h1⟩:=trodAll_two hA;obtain⟨rfl,rfl⟩:=trodVars_none hV;obtain⟨g,hG⟩:=gOk_of_laid4 hL;obtain⟨⟨c0⟩,rfl,_⟩:=okWide_struct Tryz.underlying36 (hval 0 36 v0 rfl rfl);obtain⟨_,k0⟩:=h0;obtain⟨x0,e0,r0⟩:=J6x k0
 change c0=_ at e0
 subst e0;obtain⟨_,_,_,rfl⟩:=okWide_slice Tryz.underlying38 (hval 1 38 v1 rfl rfl);obtain⟨_,k1⟩:=h1;obtain⟨x1,e1,r1⟩:=(Jbb Tryz.underlying38 (by kernel_rfl) (by decide) J3u) _ _ _ k1;rw[show Value.slice _ _ _=x1.v from(List.cons.inj e1).1]at hW'⊢;refine Calls.mono (Jlg x0 W r0 g hG (tab_of_laid4 hL) x1 r1) ?_;rintro e W' ⟨rfl,hb⟩;exact⟨_,rfl,J2q laidOut (by kernel_rfl) rfl Tryz.underlying4 hW' rfl hb rfl rfl rfl⟩
theorem recordWastes_holds:Rows.RecordWastesSaid:=
 OpenClaim.holds_of_wide 4 Tryz.f4 rfl rfl rfl rfl rfl rfl rfl ⟨rfl,rfl,rfl,rfl,rfl⟩ rfl rfl rfl rfl rfl (by kernel_rfl) Tryz.func4 recordWastes_closed
  (of_decide_eq_true (by kernel_rfl)) (by unfold Func.isWrapper;first|(rw[if_pos (by decide+kernel)];kernel_rfl)|(rw[if_neg (by decide+kernel)];exact⟨rfl,rfl⟩))
  (fun os started H enc _=>recordWastes_lifted os started H enc)
theorem recordWastes_card:Rows.RecordWastesCardSaid:=
 Claim7.holds_tied_plain_at .later [] [.data,.data,.data,.widerDeep] true (true, "071da577ef991ade555c0894154efb4158dc19028c95e2aafd422bf62a7cb2a8") false recordWastes_holds (fun _ h=>by cases h) (by kernel_rfl) (fun _ h=>by cases h) recordWastes_row_tie rfl ⟨rfl,rfl⟩ (by kernel_rfl) rfl
  (fun f fn hf hfn=>by
   obtain rfl:f=4:=Option.some.inj ((show Tryz.prog.funcNamed "padlock/padlocklaw12.RecordWastes" = some 4 by kernel_rfl).symm.trans hf) |>.symm;obtain rfl:fn=Tryz.f4:=(Option.some.inj (Tryz.func4.symm.trans hfn)).symm
   exact⟨by kernel_rfl,fun j t ht=>by
    rw[Tryz.params4]at ht;have hm:t∈[36,38]:=by simpa using Array.mem_of_getElem? ht
    have hall:([36,38].all fun u=>!Tryz.prog.wantsStandIn u)=true:=by kernel_rfl
    exact(show Tryz.prog.wantsStandIn t=false by simpa using List.all_eq_true.1 hall t hm)⟩)
  (by kernel_rfl)
end Go.Proofs.YtmoojmgihdgceaaGreatDoor
