/- Merged texts of this proof (walks and plain laws), printed by a program of the prover. -/
import Derived.Test.YtkekjhcmephhjaaGreatDoorZe
import Derived.Test.YtkekjhcmephhjaaGreatDoorZf
import Derived.Shelf.Strings.SlTrimAscii
import Derived.Test.YtkekjhcmephhjaaGreatDoorZb
import Derived.Test.YtkekjhcmephhjaaGreatDoorShelf
import Derived.Deep.LoopGhost
import Derived.Laws.RangeAny
import Derived.Laws.RangeString
import Derived.Laws.Runes
import Derived.Laws.Strings3
import Derived.LoopN
import Derived.Scope
import Derived.StillTactics
import Derived.Tactics
import Derived.Tactics2
import Derived.WalkSmall
set_option maxHeartbeats 8000000
namespace Go.Proofs.YtkekjhcmephhjaaGreatDoor
open Go.RowKit Go.Proofs
set_option maxRecDepth 100000
set_option linter.unusedVariables false
set_option linter.unusedSimpArgs false
theorem Jjo {w u:World} (R:SA) (xb:Nat) (s:RdS) (hu:St w.heap.size w [rdr xb s,R] u) (g:Sl ByteArray) (hG:GOk w g) (hz:s.ok) :
  Calls Tryz.prog 67 #[.pointer (some ⟨xb,0,none⟩)] u (RdX w R xb s (Jfn s.ws.l) .string):=by
 refine Jdd hu Tryz.func67 rfl rfl (Nat.le_of_ble_eq_true rfl) ?_
 refine Nz 1 ?_
 refine Wd (Qc (Nz 1 ?_))
 refine WS.callP rfl rfl Jlx (fun u hu=>Jhr R xb s hu) (fun _=>rfl) (fun hq u hu=>And.intro rfl (Or.inr ⟨by simp only [Jfn,hq]; rfl,rfl,hu⟩)) ?_; rintro ⟨s1,t⟩ ⟨h1,hn⟩
 have hz1:(t.size:Int)≤9223372036854775806:=by have:=hz.sz t (Jdo hn); omega
 refine Wz 1 ?_
 refine Wd (Qc (Nz 1 ?_))
 refine Wk 0 (Cb rfl rfl Jjz (fun u hu=>Jj4 t u g (hG.st hu) hz1)) ?_
 refine WS.callP rfl rfl Jej (Jcp _) (fun _=>rfl) (fun hq u hu=>And.intro rfl (Or.inr ⟨by simp [Jfn,hn,hq],rfl,hu.sel [1] rfl⟩)) ?_; rintro ⟨⟩ hm
 refine Wd (Qc (Nz 2 ?_))
 exact Wd (Qc (Cr (out1 rfl rfl (fun u hu=>.inl ⟨(s1,t),⟨h1,by simp [Jfn,hn,hm]⟩,rfl,hu⟩))))
theorem Jqh {w u:World} (R:SA) (xb:Nat) (s:RdS) (hu:St w.heap.size w [rdr xb s,R] u) (g:Sl ByteArray) (hG:GOk w g) (hz:s.ok) :
  Calls Tryz.prog 123 #[.pointer (some ⟨xb,0,none⟩),s.r.pls.v,.func (.func 79) #[] #[]] u (RdX w R xb s (Jcb id s.r.pls.l s.ws.l) (.int .i64)):=by
 refine Jdd hu Tryz.func123 rfl rfl (Nat.le_of_ble_eq_true rfl) ?_
 refine Nz 1 ?_
 refine Wd (Qc (Nz 2 ?_))
 refine WS.callP rfl rfl Jq7 (fun u hu=>Jjo R xb s hu g hG hz) (fun _=>rfl) (fun hq u hu=>And.intro rfl (Or.inr ⟨by simp only [Jcb,hq]; rfl,rfl,hu⟩)) ?_; rintro ⟨s1,t⟩ ⟨h1,hn⟩
 refine Wz 1 ?_
 refine Wk 1 (Cb rfl rfl Jxt (fun u hu=>Jln s.r.pls t u (h1.1 ▸ J2k hu))) ?_
 refine Wd (Qc (Nz 2 ?_))
 refine WS.callP rfl rfl Jej (Jcp _) (fun _=>rfl) (fun hq u hu=>And.intro rfl (Or.inr ⟨by simp [Jcb,hn]; simp at hq; simpa [idxN] using hq,rfl,hu.sel [1] rfl⟩)) ?_; rintro ⟨⟩ hm
 refine Wd (Qc (Nz 2 ?_))
 exact Wd (Qc (Cr (out1 rfl rfl (fun u hu=>.inl ⟨(s1,idxN id s.r.pls.l t),⟨h1,by simp [Jcb,hn]; simp at hm; simpa [idxN] using hm⟩,rfl,hu⟩))))
theorem Jtp {w u:World} (R:SA) (xb:Nat) (s:RdS) (hu:St w.heap.size w [rdr xb s,R] u) (g:Sl ByteArray) (hG:GOk w g) (hz:s.ok) :
  Calls Tryz.prog 127 #[.pointer (some ⟨xb,0,none⟩),s.r.prs.v,.func (.func 83) #[] #[]] u (RdX w R xb s (Jcb Pro.nm s.r.prs.l s.ws.l) (.int .i64)):=by
 refine Jdd hu Tryz.func127 rfl rfl (Nat.le_of_ble_eq_true rfl) ?_
 refine Nz 1 ?_
 refine Wd (Qc (Nz 2 ?_))
 refine WS.callP rfl rfl Jq7 (fun u hu=>Jjo R xb s hu g hG hz) (fun _=>rfl) (fun hq u hu=>And.intro rfl (Or.inr ⟨by simp only [Jcb,hq]; rfl,rfl,hu⟩)) ?_; rintro ⟨s1,t⟩ ⟨h1,hn⟩
 refine Wz 1 ?_
 refine Wk 1 (Cb rfl rfl Jx5 (fun u hu=>Jok s.r.prs t u (h1.1 ▸ J17 hu))) ?_
 refine Wd (Qc (Nz 2 ?_))
 refine WS.callP rfl rfl Jej (Jcp _) (fun _=>rfl) (fun hq u hu=>And.intro rfl (Or.inr ⟨by simp [Jcb,hn]; simp at hq; simpa [idxN] using hq,rfl,hu.sel [1] rfl⟩)) ?_; rintro ⟨⟩ hm
 refine Wd (Qc (Nz 2 ?_))
 exact Wd (Qc (Cr (out1 rfl rfl (fun u hu=>.inl ⟨(s1,idxN Pro.nm s.r.prs.l t),⟨h1,by simp [Jcb,hn]; simp at hm; simpa [idxN] using hm⟩,rfl,hu⟩))))
theorem Jg1 {w u:World} (R:SA) (xb:Nat) (s:RdS) (hu:St w.heap.size w [rdr xb s,R] u) (g:Sl ByteArray) (hG:GOk w g) (hz:s.ok) :
  Calls Tryz.prog 69 #[.pointer (some ⟨xb,0,none⟩)] u (RdX w R xb s (Jcb id s.r.pls.l s.ws.l) (.int .i64)):=by
 refine Jdd hu Tryz.func69 rfl rfl (Nat.le_of_ble_eq_true rfl) ?_
 refine CS.unpack (L1:=Jam xb s) ?_
 refine Nz 1 ?_
 refine Wd (Qc (Nz 5 ?_))
 refine Wk 0 (by first | exact Jaa (j:=0) rfl rfl rfl tk23 | exact Jaa (j:=1) rfl rfl rfl tk23 | exact Jaa (j:=2) rfl rfl rfl tk23 | exact Jaa (j:=3) rfl rfl rfl tk23 | exact Jaa (j:=4) rfl rfl rfl tk23 | exact Jaa (j:=5) rfl rfl rfl tk23 | exact Jaa (j:=6) rfl rfl rfl tk23 | exact Jaa (j:=7) rfl rfl rfl tk23 | exact Jaa (j:=8) rfl rfl rfl tk23 | exact Jaa (j:=9) rfl rfl rfl tk23 | exact Jab rfl (by assumption) rfl tk23) ?_
 refine WS.callP rfl rfl J3a (fun u hu=>Jqh R xb s (St.pack (L1:=Jam xb s) hu) g hG hz) (fun _=>rfl) (fun hq u hu=>And.intro rfl (Or.inr ⟨hq,rfl,hu⟩)) ?_; rintro ⟨s1,i⟩ ⟨h1,hn⟩
 refine Wz 1 ?_
 exact Wd (Qc (Cr (out1 rfl rfl (fun u hu=>.inl ⟨(s1,i),⟨h1,hn⟩,rfl,hu⟩))))
def MaxOk (w:World):Prop:=∃ m:Int,w.cell? ⟨2,0,none⟩=some (.int .i64 m)
theorem MaxOk.ext {w u:World} (h:MaxOk w) (hb:Below w.heap.size w u):MaxOk u:=let ⟨m,e⟩:=h; ⟨m,Jfj hb (Nat.le_refl _) e⟩
theorem MaxOk.st {w u:World} {L:List SA} (h:MaxOk w) (hu:St w.heap.size w L u):MaxOk u:=h.ext hu.below
theorem Jy5 (c:UInt8) (tx:ByteArray) (w:World) (hM:MaxOk w) (hs:tx.size < 4294967281) :
  Calls Tryz.prog 63 #[.string tx,.string ⟨#[c]⟩] w (RetL w (Jao c tx)):=by
 obtain ⟨m,hm⟩:=hM
 refine (Tryz.strings_Split tx ⟨#[c]⟩ m w hs hm (show 1≤1 by decide)).mono ?_
 rintro e w' ⟨rfl,rfl⟩
 rw [Jjs,Jqq]
 exact Jqm (by have:=Jhf c tx; omega)
theorem J3i (tx:ByteArray) (w:World) (hs:tx.size≤9223372036854775807) :
  Calls Tryz.prog 124 #[.string tx,.string ⟨#[48,49,50,51,52,53,54,55,56,57]⟩] w (RetB w (.string ⟨(Lib.trimS (bl tx) decL).toArray⟩)) :=
 Any.strings_Trim_laid Tryz.lays160 (by kernel_rfl) tx ⟨#[48,49,50,51,52,53,54,55,56,57]⟩ w hs (by decide) (ascii_of_all (by decide))
theorem J09 (tx:ByteArray) {most:Int} (w:World) (h:Jb4 tx most=true) (hm:most≤18) :
  Calls Tryz.prog 125 #[.string tx] w (RetB w (.tuple #[.int .i64 (numL (bl tx)),.nilIface])):=by
 have h1:tx.size≤18:=by simp only [Jb4,Bool.and_eq_true,decide_eq_true_eq] at h; omega
 refine (Tryz.strconv_Atoi tx _ h1 (Jvt h) w).mono ?_
 rintro e w' ⟨rfl,t,rfl⟩
 exact ⟨rfl,Lib.bytesWorld_below _ _ _⟩
def RetN (w:World) (spec:Option Int):Ending→World→Prop:=fun e u'=>(∃ n,spec=some n∧e = .returned (.int .i64 n)∧Below w.heap.size w u')∨(spec=none∧e = .panicked pchain∧Below w.heap.size w u')
theorem RetN.st {n0:Nat} {w0 u:World} {L:List SA} (hu:St n0 w0 L u) {spec:Option Int} {f:FuncId} {args:Array Value} (h:Calls Tryz.prog f args u (RetN u spec)) :
  Calls Tryz.prog f args u (fun e u'=>(∃ n:Int,spec=some n∧e = .returned (.int .i64 n)∧St n0 w0 L u')∨(spec=none∧e = .panicked pchain∧St n0 w0 L u')):=by
 refine h.mono ?_
 rintro e u' (⟨n,h1,rfl,h2⟩ | ⟨h1,rfl,h2⟩)
 ·
  exact .inl ⟨n,h1,rfl,hu.ext h2⟩
 exact .inr ⟨h1,rfl,hu.ext h2⟩
theorem Jxv (t:ByteArray):(decide ((1:Int)≤t.size) && decide ((t.size:Int)≤2) && seq ⟨(Lib.trimS (bl t) decL).toArray⟩ ⟨#[]⟩ && (decide (byt t 0≠48) || seq t ⟨#[48]⟩))=(Jb4 t 2 && (!decide (byt t 0=48) || seq t ⟨#[48]⟩)):=by
 rw [Jwh,decide_not]; rfl
theorem Jv2 {t:ByteArray} (h:(Jb4 t 2 && (!decide (byt t 0=48) || seq t ⟨#[48]⟩))=true):Jb4 t 2=true∧numB 2 t=some (numL (bl t)):=by
 simp only [Bool.and_eq_true,Bool.or_eq_true,Bool.not_eq_true',decide_eq_false_iff_not] at h
 refine ⟨h.1,Jr2 h.1 fun h3=>?_⟩
 have:=Joj h3 (Jyb h.1).1
 rcases h.2 with h2 | h2
 ·
  exact absurd h3 h2
 rw [h2] at this; simpa using this.symm
theorem J0l {t:ByteArray} (h:(Jb4 t 2 && (!decide (byt t 0=48) || seq t ⟨#[48]⟩))=false):numB 2 t=none:=by
 cases hd:Jb4 t 2 with
 | false=>exact Jx8 (.inl hd)
 | true =>
  rw [hd] at h
  simp only [Bool.true_and,Bool.or_eq_false_iff,Bool.not_eq_false',decide_eq_true_eq] at h
  have:=Joj h.1 (Jyb hd).1
  rw [h.2] at this
  exact Jx8 (.inr ⟨h.1,by simpa using this.symm⟩)
theorem Jeu (t0:ByteArray) (w:World) (ht:(t0.size:Int)≤1000000) :
  Calls Tryz.prog 70 #[.string t0] w (RetN w (numB 2 t0)):=by
 refine enter Tryz.func70 rfl rfl (Nat.le_of_ble_eq_true rfl) ?_
 refine Nz 1 ?_
 refine Wd (Qc (Nz 1 ?_))
 refine Wk 0 (Jbb Tryz.underlying9 rfl) ?_
 refine Wk 1 (Cb rfl rfl Jep (fun u hu=>Jbh _ _ _ u)) ?_
 refine Wt 0 rfl rfl (fun hg=>Fm) ?_
 refine Wt 0 rfl rfl (fun hg=>Cb rfl (ec_ (eg_ hg rfl) (ec_ rfl en_)) J29 (fun u hu=>J3i t0 u (by omega))) ?_
 refine Wt 0 rfl rfl (fun hg=>Ja2 (eg_ hg rfl) rfl) ?_
 refine Wk 1 Pa ?_
 refine Wt 0 rfl rfl (fun hg=>Fm) ?_
 refine Wt 0 rfl rfl (fun hg=>Jcl Tryz.underlying9 (eg_ hg rfl) rfl (by decide) (by simp at hg; omega)) ?_
 refine Wt 0 rfl rfl (fun hg=>Fr) ?_
 refine Wt 0 rfl rfl (fun hg=>Fm (eg_ hg rfl)) ?_
 refine Wn 0 rfl rfl rfl (fun hg=>Fm) ?_
 refine Wn 0 rfl rfl rfl (fun hg=>Ja2 (eg_ hg rfl) rfl) ?_
 refine Wt 0 rfl rfl (fun hg=>Jfv (eg_ hg rfl) (Jpc hg rfl) rfl) ?_
 refine Wk 0 Pa ?_
 refine WS.callP rfl rfl Jej (Jcp _) (fun _=>rfl) (fun hq u hu=>And.intro rfl (Or.inr ⟨J0l ((Jxv t0).symm.trans hq),rfl,hu.below⟩)) ?_; rintro ⟨⟩ hm
 obtain ⟨hd,hyes⟩:Jb4 t0 2=true∧numB 2 t0=some (numL (bl t0)):=Jv2 ((Jxv t0).symm.trans hm)
 refine Wd (Qc (Nz 1 ?_))
 refine Wk 5 (Cb rfl rfl J1w (fun u hu=>J09 t0 u (most:=2) hd (by decide))) ?_
 refine Wd (Qc (Nz 1 ?_))
 refine Wk 0 (Jm1 (by kernel_rfl) rfl) ?_
 refine WS.callP rfl rfl Jej (Jcp _) (fun _=>rfl) (fun hq u hu=>absurd hq (by simp)) ?_; rintro ⟨⟩ hm2
 refine Wd (Qc (Nz 2 ?_))
 exact Wd (Qc (Cr (out1 rfl rfl (fun u hu=>.inl ⟨_,hyes,rfl,hu.below⟩))))
theorem Jub (r:Int) (w:World) (hv:(0≤r∧r < 55296)∨(57343 < r∧r≤1114111)) :
  Calls Tryz.prog 204 #[.int .i32 r] w fun e w'=>e = .returned (.bool true)∧w'=w:=by
 rcases hv with h | h
 ·
  have h1:=h.1
  have h2:=h.2
  clear h
  go_enter Tryz.func204,Tryz.ntmps204
  go_wp2
  go_ret
  exact ⟨rfl,rfl⟩
 have h1:=h.1
 have h2:=h.2
 clear h
 have h3:¬ r < 55296:=by omega
 have h4:0≤r:=by omega
 go_enter Tryz.func204,Tryz.ntmps204
 go_wp2
 go_ret
 exact ⟨rfl,rfl⟩
theorem Jiy {f:FuncId} (h:Ent Tryz.prog f):∀ args w,(callFunc f args).run Tryz.prog w = .ok (.enter f args) w:=fun a w=>h a w
set_option maxHeartbeats 4000000 in
theorem J0p (r:Int) (w:World) (hv:(0≤r∧r < 55296)∨(57343 < r∧r≤1114111)) (h128:128≤r) (hne:r≠65533) (hsz:(Utf8.encode r).size≠2) :
  Calls Tryz.prog 171 #[.string ⟨#[61,33]⟩,.int .i32 r] w fun e w'=>e = .returned (.int .i64 (-1))∧Below w.heap.size w w':=by
 have hva:Utf8.valid r=true:=by rw [validRune_eq]; exact decide_eq_true hv
 obtain ⟨s1,s2,s3⟩:=encode_facts r hva h128
 have e204:=Jiy Jx4
 have HV:Aside ((0≤r∧r < 55296)∨(57343 < r∧r≤1114111)):=hv
 clear hv hva
 have h1:¬ r < 128:=by omega
 have h0:0≤r:=by omega
 obtain ⟨rs,hrs⟩:∃ rs,Utf8.encode r=rs:=⟨_,rfl⟩
 rw [hrs] at s1 s2 s3 hsz
 have hl:(rs.size:Int) - 1=((rs.size - 1:Nat):Int):=by omega
 have h3:¬ ((rs.size - 1:Nat):Int) < 2:=by omega
 clear s3
 go_enter Tryz.func171,Tryz.ntmps171
 go_wp2_with (go_at_fn 204; refine (Jub _ _ HV.out).mono ?_; rintro e w' ⟨rfl,hw⟩; rw [hw])
 have t21:=Tryz.underlying21
 have t9:=Tryz.underlying9
 refine wp_scope_straight ?_
 go_wp2
 refine wp_loop_once ?_
 go_wp2
 simp only [Exit.noGoto]
 go_ret
 exact ⟨rfl,Below.refl _ _⟩
set_option maxHeartbeats 4000000 in
theorem Jzj (r:Int) (w:World) (hv:(0≤r∧r < 55296)∨(57343 < r∧r≤1114111)) (h128:128≤r) (hne:r≠65533) (hsz:(Utf8.encode r).size=2) :
  Calls Tryz.prog 171 #[.string ⟨#[61,33]⟩,.int .i32 r] w fun e w'=>e = .returned (.int .i64 (-1))∧Below w.heap.size w w':=by
 have hva:Utf8.valid r=true:=by rw [validRune_eq]; exact decide_eq_true hv
 obtain ⟨s1,s2,s3⟩:=encode_facts r hva h128
 have e204:=Jiy Jx4
 have HV:Aside ((0≤r∧r < 55296)∨(57343 < r∧r≤1114111)):=hv
 clear hv hva
 have h1:¬ r < 128:=by omega
 have h0:0≤r:=by omega
 obtain ⟨rs,hrs⟩:∃ rs,Utf8.encode r=rs:=⟨_,rfl⟩
 rw [hrs] at s1 s2 s3 hsz
 have e1:rs.size - 1=1:=by omega
 have s4:128≤(rs[1]'(by omega)).toNat:=by have:=s3 (by omega); simpa [e1] using this
 obtain ⟨y,hy⟩:∃ y,rs[1]'(by omega)=y:=⟨_,rfl⟩
 rw [hy] at s4
 have e203:=Jiy J1a
 clear s3 e1
 have hl:(rs.size:Int) - 1=1:=by omega
 have hsz1:(1:Int) < rs.size:=by omega
 have hgt:rs.get! 1=y:=by rw [← hy]; exact get_at rs 1 (by omega)
 go_enter Tryz.func171,Tryz.ntmps171
 go_wp2_with (go_at_fn 204; refine (Jub _ _ HV.out).mono ?_; rintro e w' ⟨rfl,hw⟩; rw [hw])
 have t21:=Tryz.underlying21
 have t9:=Tryz.underlying9
 refine wp_scope_straight ?_
 go_wp2
 refine wp_loop_once ?_
 go_wp2
 refine wp_scope_straight ?_
 go_wp2
 have hq:((33:Int) != (y.toNat:Int))=true:=by simp; omega
 have hz2:(⟨#[61,33]⟩:ByteArray).size=2:=rfl
 have h33:((⟨#[61,33]⟩:ByteArray)[1]'(by decide))=(33:UInt8):=rfl
 go_region
 go_wp2
 have mixed:Tryz.prog.follows .mixedOrders=true:=by kernel_rfl
 have hem:Lib.indexByte [] y = -1:=rfl
 have hw2:IntKind.i64.wrap 2=2:=by decide
 have hx2:(⟨#[61,33]⟩:ByteArray).extract 2 2=ByteArray.empty:=by decide
 refine wp_region_still_lit mixed (by kernel_rfl) ?_
 repeat still_step
 still_call (Tryz.strings_IndexByte _ _ _)
 repeat still_step
 refine wpStill_nil ?_
 go_wp2
 show bodyPost Tryz.prog Tryz.f171 (fun e w'=>e=Ending.returned (Value.int IntKind.i64 (-1))∧Below w.heap.size w w') .ret _ _
 go_ret
 exact ⟨rfl,((Below.refl _ w).drew).drew⟩
theorem Jjx (w:World) (s:ByteArray) (pos:Nat):Below w.heap.size w (w.iter s pos):=((Below.refl _ w).alloc (Nat.le_refl _) _)
set_option maxHeartbeats 4000000 in
theorem Jzr (w:World):Calls Tryz.prog 171 #[.string ⟨#[61,33]⟩,.int .i32 65533] w fun e w'=>e = .returned (.int .i64 (-1))∧Below w.heap.size w w':=by
 have h0:∀ ty,_:=fun ty=>run_next_ascii (P:=Tryz.prog) w ⟨#[61,33]⟩ 0 ty (by decide) (by decide)
 have h1:∀ ty,_:=fun ty=>run_next_ascii (P:=Tryz.prog) w ⟨#[61,33]⟩ 1 ty (by decide) (by decide)
 have h2:=run_next_end (P:=Tryz.prog) w ⟨#[61,33]⟩ 2
 go_enter Tryz.func171,Tryz.ntmps171
 go_wp2
 have h2':=fun ty=>h2 ty (by decide)
 refine wp_loop_rounds 3 ?_
 rw [rounds_succ]
 go_wp2
 show Code.rounds _ _ _ _ _ _
 rw [rounds_succ]
 go_wp2
 show Code.rounds _ _ _ _ _ _
 rw [rounds_succ]
 go_wp2
 go_ret
 exact ⟨rfl,Jjx _ _ _⟩
def Jfp (r:Int):Int:=if r=61 then 0 else if r=33 then 1 else -1
theorem Jry (r:Int) (w:World) (h0:0≤r) (hv:(0≤r∧r < 55296)∨(57343 < r∧r≤1114111)) :
  Calls Tryz.prog 171 #[.string ⟨#[61,33]⟩,.int .i32 r] w fun e w'=>e = .returned (.int .i64 (Jfp r))∧Below w.heap.size w w':=by
 by_cases h1:r < 128
 ·
  refine (Tryz.strings_IndexRune_ascii ⟨#[61,33]⟩ r w h0 h1).mono ?_
  rintro e w' ⟨rfl,rfl⟩
  refine ⟨?_,Below.refl _ _⟩
  have h2:∀ n:Nat,n < 128→Lib.indexByte [61,33] n.toUInt8=Jfp n:=by decide
  have:=h2 r.toNat (by omega)
  rw [show ((r.toNat:Nat):Int)=r by omega] at this
  exact congrArg _ (congrArg _ this)
 have e:Jfp r = -1:=by unfold Jfp; rw [if_neg (by omega),if_neg (by omega)]
 rw [e]
 by_cases h2:r=65533
 ·
  subst h2; exact Jzr w
 by_cases h3:(Utf8.encode r).size=2
 ·
  exact Jzj r w hv (by omega) h2 h3
 exact J0p r w hv (by omega) h2 h3
theorem Jmw (s:ByteArray) (pos:Nat) (h:pos < s.size) (ha:128≤(s.get! pos).toNat) :
  (((Utf8.decode s pos).1 < 55296)∨(57343 < (Utf8.decode s pos).1∧(Utf8.decode s pos).1≤1114111))∧128≤(Utf8.decode s pos).1∧1≤(Utf8.decode s pos).2 ∧
   ∀ k,0 < k→k < (Utf8.decode s pos).2→128≤(s.get! (pos+k)).toNat:=by
 have hn:¬ (s.get! (pos+0)).toNat < 128:=by simpa using ha
 have hb:∀ k,(s.get! (pos+k)).toNat < 256:=fun k=>(s.get! (pos+k)).toNat_lt
 have h0:=hb 0; have h1:=hb 1; have h2:=hb 2; have h3:=hb 3
 simp only [Utf8.decode,hn,if_false]
 split
 ·
  rename_i hc
  simp only [Bool.and_eq_true,decide_eq_true_eq,beq_iff_eq] at hc
  split
  ·
   rename_i hv
   refine ⟨.inl (by omega),hv,(show 1≤2 from by decide),fun k k0 k1=>?_⟩
   obtain rfl:k=1:=by simp only at k1; omega
   omega
  exact ⟨by decide,by decide,by decide,fun k k0 k1=>by simp only at k1; omega⟩
 split
 ·
  rename_i hc
  simp only [Bool.and_eq_true,decide_eq_true_eq,beq_iff_eq] at hc
  split
  ·
   rename_i hv
   simp only [Bool.and_eq_true,decide_eq_true_eq,Utf8.valid,Bool.or_eq_true] at hv
   refine ⟨by omega,by simp only; omega,(show 1≤3 from by decide),fun k k0 k1=>?_⟩
   simp only at k1
   obtain rfl | rfl:k=1∨k=2:=by omega
   ·
    omega
   omega
  exact ⟨by decide,by decide,by decide,fun k k0 k1=>by simp only at k1; omega⟩
 split
 ·
  rename_i hc
  simp only [Bool.and_eq_true,decide_eq_true_eq,beq_iff_eq] at hc
  split
  ·
   rename_i hv
   simp only [Bool.and_eq_true,decide_eq_true_eq,Utf8.valid,Bool.or_eq_true] at hv
   refine ⟨by omega,by simp only; omega,(show 1≤4 from by decide),fun k k0 k1=>?_⟩
   simp only at k1
   obtain rfl | rfl | rfl:k=1∨k=2∨k=3:=by omega
   ·
    omega
   ·
    omega
   omega
  exact ⟨by decide,by decide,by decide,fun k k0 k1=>by simp only at k1; omega⟩
 exact ⟨by decide,by decide,by decide,fun k k0 k1=>by simp only at k1; omega⟩
theorem Jlu (wx:World) (b:Nat) (s:ByteArray) (pos:Nat) (ty:TypeId) (hb:wx.heap[b]? = some (.stringIter s pos)) (h:pos < s.size) :
  (Instr.next (.pointer (some ⟨b,0,none⟩)) true ty).run Tryz.prog wx = .ok (.tuple #[.bool true,.int .i64 pos,.int .i32 (Utf8.decode s pos).1]) { wx with heap:=wx.heap.setIfInBounds b (.stringIter s (pos+(Utf8.decode s pos).2)) }:=by
 simp only [Instr.next,getObj,setObj,Sem.run_bind,Sem.run,hb,Result.andThen,h,if_true]
 simp [goInt]
theorem Jk4 (wx:World) (b:Nat) (s:ByteArray) (pos:Nat) (ty:TypeId) (hb:wx.heap[b]? = some (.stringIter s pos)) (h:¬ pos < s.size) :
  (Instr.next (.pointer (some ⟨b,0,none⟩)) true ty).run Tryz.prog wx = .ok (.tuple #[.bool false]) wx:=by
 simp [Instr.next,getObj,Sem.run,hb,h]
def sgn (b:UInt8):Prop:=b=61∨b=33
def Jhn (s:ByteArray) (i:Nat):Prop:=∀ j b,j < i→(bl s)[j]? = some b→¬ sgn b
theorem Jlk:∀ {l:List UInt8} {i:Nat} {b:UInt8},(∀ j c,j < i→l[j]? = some c→¬ sgn c)→l[i]? = some b→sgn b→Jdv l=i
 | [],i,b,_,h,_=>by simp at h
 | a::l,0,b,_,h,hb=>by
  simp only [List.getElem?_cons_zero,Option.some.injEq] at h
  subst h
  exact if_pos hb
 | a::l,i+1,b,hn,h,hb=>by
  have h0:¬ sgn a:=hn 0 a (by omega) rfl
  have:Jdv (a::l)=Jdv l+1:=if_neg h0
  rw [this,Jlk (i:=i) (fun j c hj hc=>hn (j+1) c (by omega) (by simpa using hc)) (by simpa using h) hb]
theorem Jl3:∀ {l:List UInt8},(∀ (j:Nat) c,l[j]? = some c→¬ sgn c)→Jdv l=l.length
 | [],_=>rfl
 | a::l,hn=>by
  have h0:¬ sgn a:=hn 0 a rfl
  have:Jdv (a::l)=Jdv l+1:=if_neg h0
  rw [this,Jl3 (fun j c hc=>hn (j+1) c (by simpa using hc))]; rfl
theorem Jyv {s:ByteArray} {i:Nat} (h:i < s.size):(bl s)[i]? = some (s.get! i):=by
 have:s.get! i=s[i]'h:=by simpa using get_at s i h
 rw [this]; exact Lib.data_getElem? s i h
theorem J2l {s:ByteArray} {i:Nat} {b:UInt8} (h:(bl s)[i]? = some b):i < s.size:=by
 have:=(List.getElem?_eq_some_iff.1 h).1
 rw [Lib.size_eq]; exact this
theorem Jlr {s:ByteArray} (h:Jhn s s.size):(if Jbn s < s.size then (Jbn s:Int) else -1) = -1:=by
 have:Jbn s=s.size:=by rw [Lib.size_eq]; exact Jl3 fun j c hc=>h j c (J2l hc) hc
 rw [if_neg (by omega)]
theorem Jmz {s:ByteArray} {i:Nat} (hi:i < s.size) (h:Jhn s i) (hb:sgn (s.get! i)):(if Jbn s < s.size then (Jbn s:Int) else -1)=i:=by
 have:Jbn s=i:=Jlk h (Jyv hi) hb
 rw [if_pos (by omega),this]
theorem Jrg (s:ByteArray) (i:Nat) (hi:i < s.size) :
  (((Utf8.decode s i).1 < 55296)∨(57343 < (Utf8.decode s i).1∧(Utf8.decode s i).1≤1114111))∧1≤(Utf8.decode s i).2 ∧
   ((0≤Jfp (Utf8.decode s i).1∧sgn (s.get! i))∨(Jfp (Utf8.decode s i).1 < 0∧(Jhn s i→Jhn s (i+(Utf8.decode s i).2)))):=by
 by_cases h128:(s.get! i).toNat < 128
 ·
  have hg:s[i]'hi=s.get! i:=by have:=get_at s i hi; simpa using this.symm
  rw [decode_ascii s i hi (by rw [hg]; exact h128),hg]
  refine ⟨.inl (by simp only; omega),by simp,?_⟩
  by_cases h1:sgn (s.get! i)
  ·
   refine .inl ⟨?_,h1⟩
   rcases h1 with h1 | h1 <;> rw [h1] <;> decide
  refine .inr ⟨?_,fun hn j b hj hb=>?_⟩
  ·
   have e:∀ b:UInt8,¬ sgn b→Jfp (b.toNat:Nat) < 0:=fun b hb=>by
    unfold Jfp
    have h2:b.toNat≠61:=fun h=>hb (.inl (UInt8.toNat_inj.1 h))
    have h3:b.toNat≠33:=fun h=>hb (.inr (UInt8.toNat_inj.1 h))
    rw [if_neg (by omega),if_neg (by omega)]; decide
   exact e _ h1
  by_cases hji:j=i
  ·
   subst hji; rw [Jyv hi] at hb; cases hb; exact h1
  exact hn j b (by simp only at hj; omega) hb
 obtain ⟨h1,h2,h3,h4⟩:=Jmw s i hi (by omega)
 refine ⟨h1,h3,.inr ⟨?_,fun hn j b hj hb=>?_⟩⟩
 ·
  unfold Jfp; rw [if_neg (by omega),if_neg (by omega)]; decide
 have hs:∀ b:UInt8,128≤b.toNat→¬ sgn b:=fun b h hb=>by rcases hb with rfl | rfl <;> revert h <;> decide
 by_cases hji:j < i
 ·
  exact hn j b hji hb
 have hjs:=J2l hb
 rw [Jyv hjs] at hb; cases hb
 apply hs
 by_cases he:j=i
 ·
  subst he; omega
 have:=h4 (j - i) (by omega) (by omega)
 rwa [show i+(j - i)=j by omega] at this
theorem Jxa {w wr:World} (o:Obj) (h:Below w.heap.size w wr):Below w.heap.size w { wr with heap:=wr.heap.setIfInBounds w.heap.size o } :=
 ⟨h.1,h.2,h.3,by simpa using h.size,fun k hk=>by
  have:=h.5 k hk
  rw [← this]
  exact Array.getElem?_setIfInBounds_ne (by omega)⟩
theorem Jma {w wr w2:World} {o:Obj} (h:Below w.heap.size w wr) (hb:Below (wr.heap.setIfInBounds w.heap.size o).size { wr with heap:=wr.heap.setIfInBounds w.heap.size o } w2):Below w.heap.size w w2 :=
 (Jxa o h).trans (hb.mono (by have:=h.size; simpa using this))
theorem J0e {w wr w2:World} {o o':Obj} (hob:wr.heap[w.heap.size]? = some o') (hb:Below (wr.heap.setIfInBounds w.heap.size o).size { wr with heap:=wr.heap.setIfInBounds w.heap.size o } w2):w2.heap[w.heap.size]? = some o:=by
 have h1:w.heap.size < wr.heap.size:=(Array.getElem?_eq_some_iff.1 hob).1
 have:=hb.5 w.heap.size (by simpa using h1)
 rw [this]
 exact Array.getElem?_setIfInBounds_self_of_lt h1
set_option maxHeartbeats 8000000 in
theorem Jst (s:ByteArray) (w:World) (h8:s.size≤8) :
  Calls Tryz.prog 128 #[.string s,.string ⟨#[61,33]⟩] w fun e w'=>e = .returned (.int .i64 (if Jbn s < s.size then (Jbn s:Int) else -1))∧Below w.heap.size w w':=by
 have h8z:decide ((8:Int) < (s.size:Int))=false:=decide_eq_false (by omega)
 have e172:=Jiy J15
 have e171:=Jiy J21
 obtain ⟨ans,hans⟩:∃ a,(if Jbn s < s.size then (Jbn s:Int) else -1)=a:=⟨_,rfl⟩
 rw [hans]
 have HA:Aside ((if Jbn s < s.size then (Jbn s:Int) else -1)=ans):=hans
 clear hans
 go_enter Tryz.func128,Tryz.ntmps128
 go_wp2_with (go_at_fn 172; refine (Tryz.strings_shouldUseASCIISet _ _).mono ?_; rintro e w' ⟨rfl,hw⟩; rw [hw,h8z])
 go_loopg [9,10] s.size (fun g _ _ wx=>∃ i:Nat,g=s.size - i∧wx.heap[w.heap.size]? = some (.stringIter s i)∧Below w.heap.size w wx∧Jhn s i)
 case atStart=>exact ⟨0,by omega,World.iter_heap _ _ _,Jjx _ _ _,fun j b hj=>absurd hj (by omega)⟩
 case round =>
  obtain ⟨i,hig,hob,hbe,hno⟩:=hrel
  have HN:Aside (Below w.heap.size w wr∧Jhn s i):=⟨hbe,hno⟩
  have HO:Aside (wr.heap[w.heap.size]? = some (.stringIter s i)):=hob
  by_cases hi:i < s.size
  ·
   obtain ⟨h1,h2,h3⟩:=Jrg s i hi
   have hnx:=fun ty=>Jlu wr w.heap.size s i ty hob hi
   obtain ⟨d,hd⟩:∃ d,Utf8.decode s i=d:=⟨_,rfl⟩
   rw [hd] at h1 h2 h3 hnx
   obtain ⟨r,n⟩:=d
   simp only at h1 h2 h3 hnx
   have H1:Aside ((r < 55296)∨(57343 < r∧r≤1114111)):=h1
   clear h1 hno hbe hob hd
   rcases h3 with ⟨hs,hb⟩ | ⟨hs,hn⟩
   ·
    have Hb:Aside (sgn (s.get! i)):=hb
    clear hb
    go_wp2_with (go_at_fn 171; refine (Jry _ _ (by omega) (by have:=H1.out; omega)).mono ?_; rintro e w2 ⟨rfl,hw⟩)
    go_ret
    exact ⟨congrArg _ (congrArg _ ((Jmz hi HN.out.2 Hb.out).symm.trans HA.out)),Jma HN.out.1 hw⟩
   have HD:Aside (Jhn s i→Jhn s (i+n)):=hn
   clear hn
   have hs':¬ (0:Int)≤Jfp r:=by omega
   clear hs
   go_wp2_with (go_at_fn 171; refine (Jry _ _ (by omega) (by have:=H1.out; omega)).mono ?_; rintro e w2 ⟨rfl,hw⟩)
   go_roundg (s.size - (i+n))
   case measure=>omega
   case rel=>exact ⟨i+n,rfl,J0e HO.out hw,Jma HN.out.1 hw,HD.out HN.out.2⟩
  have hnx:=fun ty=>Jk4 wr w.heap.size s i ty hob hi
  clear hno hbe hob
  go_wp2
  go_ret
  exact ⟨congrArg _ (congrArg _ ((Jlr fun j b hj=>HN.out.2 j b (by omega)).symm.trans HA.out)),HN.out.1⟩
theorem Jkt:∀ l:List UInt8,Jdv l≤l.length
 | []=>Nat.le_refl _
 | a::l=>by
  have:=Jkt l
  simp only [Jdv,List.length_cons]
  split <;> omega
theorem Jge:∀ l:List UInt8,Lib.indexAny l [61,33]=if Jdv l < l.length then (Jdv l:Int) else -1
 | []=>rfl
 | a::l=>by
  have ih:=Jge l
  have hle:=Jkt l
  by_cases h:a=61∨a=33
  ·
   have e:Jdv (a::l)=0:=if_pos h
   simp only [Lib.indexAny,e,List.length_cons]
   rw [if_pos (by rcases h with rfl | rfl <;> decide),if_pos (by omega)]; rfl
  have e:Jdv (a::l)=Jdv l+1:=if_neg h
  have hc:¬ ([61,33]:List UInt8).contains a=true:=by simpa using h
  show (if ([61,33]:List UInt8).contains a=true then 0 else if (Lib.indexAny l [61,33] == -1)=true then -1 else Lib.indexAny l [61,33]+1)=if Jdv (a::l) < l.length+1 then (Jdv (a::l):Int) else -1
  rw [if_neg hc,ih]
  by_cases h2:Jdv l < l.length
  ·
   rw [if_pos h2,if_pos (show Jdv (a::l) < l.length+1 by omega),if_neg (by simp)]; omega
  rw [if_neg h2,if_neg (show ¬ Jdv (a::l) < l.length+1 by omega),if_pos (by decide)]
theorem J4l (s:ByteArray) (w:World) (hs:s.size < 4294967281) :
  Calls Tryz.prog 128 #[.string s,.string ⟨#[61,33]⟩] w fun e w'=>e = .returned (.int .i64 (if Jbn s < s.size then (Jbn s:Int) else -1))∧Below w.heap.size w w':=by
 by_cases h8:s.size≤8
 ·
  exact Jst s w h8
 refine (Tryz.strings_IndexAny_long (fun w=>by kernel_rfl) s ⟨#[61,33]⟩ w (by decide) (by omega) hs (by decide) ?_).mono ?_
 ·
  exact ascii_of_all (by decide)
 rintro e w' ⟨rfl,rfl⟩
 refine ⟨congrArg _ (congrArg _ ?_),(Below.refl _ w).alloc (Nat.le_refl _) _ |>.alloc (((Below.refl w.heap.size w).alloc (Nat.le_refl _) _).size) _⟩
 rw [Jge,Lib.size_eq]; rfl
theorem Jy0 (t:ByteArray):(bl t).length=t.size:=(Lib.size_eq t).symm
theorem Jwn (t:ByteArray):Jbn t≤t.size:=by rw [← Jy0]; exact Jkt _
theorem Jo1 (t:ByteArray) (i j:Nat):(t.extract i j).size≤t.size:=by rw [ByteArray.size_extract]; omega
theorem Jwo {ths:List Thing} {t:ByteArray} {sg:Int} (hsg:(if Jbn t < t.size then (Jbn t:Int) else -1)=sg) (h:(decide (0≤sg) && Ja7 (t.extract 0 sg.toNat))=false):litT ths t=none:=by
 unfold litT
 rw [if_neg]
 rintro ⟨h1,h2,h3⟩
 rw [if_pos h1] at hsg
 subst hsg
 simp [h2] at h
theorem Jxi {ths:List Thing} {t:ByteArray} (h:decide (0≤idxN Thing.nm ths (t.extract 0 (Jbn t)))=false):litT ths t=none:=by
 unfold litT
 rw [if_neg]
 rintro ⟨h1,h2,h3⟩
 simp [h3] at h
theorem Jxs {ths:List Thing} {t:ByteArray} (h1:Jbn t < t.size) (h2:Ja7 (t.extract 0 (Jbn t))=true) (h3:decide (0≤idxN Thing.nm ths (t.extract 0 (Jbn t)))=true) :
  litT ths t=(numB 2 (t.extract (Jbn t+1) t.size)).map fun n=>⟨idxN Thing.nm ths (t.extract 0 (Jbn t)),n,decide (byt t (Jbn t)=33)⟩:=by
 unfold litT
 rw [if_pos ⟨h1,h2,by simpa using h3⟩]
theorem J1f {w u:World} (R:SA) (xb:Nat) (s:RdS) (hu:St w.heap.size w [rdr xb s,R] u) (t0:ByteArray) (g:Sl ByteArray) (hG:GOk w g) (hz:s.ok) (ht:t0.size≤65536) :
  Calls Tryz.prog 75 #[.pointer (some ⟨xb,0,none⟩),.string t0] u (RdX w R xb s ((litT s.r.ths.l t0).map fun a=>(a,s.ws.l)) (fun a=>.agg (cLit.cells a).toArray)):=by
 refine Jdd hu Tryz.func75 rfl rfl (Nat.le_of_ble_eq_true rfl) ?_
 refine CS.unpack (L1:=Jam xb s) ?_
 obtain ⟨sg,hsg⟩:∃ i:Int,(if Jbn t0 < t0.size then (Jbn t0:Int) else -1)=i:=⟨_,rfl⟩
 refine Nz 0 ?_
 refine Wl 0 zv96 (fun _=>rfl) (fun _=>rfl) fun b4 hb4=>?_
 refine Wd (Qc (Nz 1 ?_))
 refine Wk 1 (Cb rfl rfl J06 (fun u hu=>hsg ▸ J4l t0 u (by omega))) ?_
 refine Wd (Qc (Nz 3 ?_))
 refine Wt 0 rfl rfl (fun hg=>Fm) ?_
 refine Wt 0 rfl rfl (fun hg=>Fm) ?_
 refine Wt 0 rfl rfl (fun hg=>Jjv Tryz.underlying9 (eg_ hg rfl) (eg_ hg rfl) (by have:=Jwn t0; simp only [bq] at hg; split at hsg <;> omega)) ?_
 refine Wt 0 rfl rfl (fun hg=>Cb rfl (ec_ (eg_ hg rfl) en_) Jjz (fun u hu=>Jj4 _ u g (hG.st hu) (by have:=Jo1 t0 0 sg.toNat; omega))) ?_
 refine Wk 0 Pa ?_
 refine WS.callP rfl rfl Jej (Jcp _) (fun _=>rfl) (fun hq u hu=>And.intro rfl (Or.inr ⟨by rw [Jwo hsg hq]; rfl,rfl,hu.sel [10] rfl⟩)) ?_; rintro ⟨⟩ hm
 simp only [bq] at hm
 have hlt:Jbn t0 < t0.size:=by
  split at hsg
  ·
   assumption
  omega
 rw [if_pos hlt] at hsg
 subst hsg
 refine Wd (Qc (Cs (Dr mixed 4 ?_)))
 refine Dk 2 (by first | exact Jaa (j:=0) rfl rfl rfl tk24 | exact Jaa (j:=1) rfl rfl rfl tk24 | exact Jaa (j:=2) rfl rfl rfl tk24 | exact Jaa (j:=3) rfl rfl rfl tk24 | exact Jaa (j:=4) rfl rfl rfl tk24 | exact Jaa (j:=5) rfl rfl rfl tk24 | exact Jaa (j:=6) rfl rfl rfl tk24 | exact Jaa (j:=7) rfl rfl rfl tk24 | exact Jaa (j:=8) rfl rfl rfl tk24 | exact Jaa (j:=9) rfl rfl rfl tk24 | exact Jaa (j:=10) rfl rfl rfl tk24 | exact Jaa (j:=11) rfl rfl rfl tk24 | exact Jab rfl (by assumption) rfl tk24) ?_
 refine Dk 0 (Jjv Tryz.underlying9 rfl rfl (by omega)) ?_
 refine Dk 1 (Cb rfl rfl Jyl (fun u hu=>Joa s.r.ths _ u (Jaw hu (j:=3) rfl fun _ _=>trivial))) ?_
 refine Dd (Qc (Nz 2 ?_))
 refine WS.callP rfl rfl Jej (Jcp _) (fun _=>rfl) (fun hq u hu=>And.intro rfl (Or.inr ⟨by rw [Jxi hq]; rfl,rfl,hu.sel [10] rfl⟩)) ?_; rintro ⟨⟩ hm2
 refine Wd (Qc (Cs ?_))
 refine CS.drawnTill 11 (k:=12) mixed rfl rfl ?_
 refine Tr 12 [0,1,2] ?_
 refine Tk 12 3 [] rfl Za ?_
 refine Tk 12 4 [6,7] rfl (Jqw Tryz.underlying9 rfl rfl (by omega)) ?_
 refine Tk 12 8 [9] rfl (Jcl Tryz.underlying9 rfl rfl (by omega) (by omega)) ?_
 refine To 5 rfl ?_
 refine WS.callP rfl rfl Juj (fun u hu=>RetN.st hu (Jeu _ u (by have:=Jo1 t0 ((Jbn t0:Int)+1).toNat t0.size; omega))) (fun _=>rfl) (fun hq u hu=>fun _ ha_ _=>And.intro ha_ (Or.inr ⟨by rw [Jxs hlt hm.2 hm2,show Jbn t0+1=((Jbn t0:Int)+1).toNat by omega,hq]; rfl,rfl,hu.sel [10] rfl⟩)) ?_; rintro n hn
 refine Wd (Qt ?_)
 refine Tk 12 10 [] rfl (Db Jsx zv96) ?_
 refine To 11 rfl ?_
 refine Wv 0 0 ?_
 refine Wd (Qt ?_)
 refine Te ?_
 exact Qc (Cr (outR (resc rfl (Jbl (j:=0) rfl rfl tk96)) (fun u hu=>.inl ⟨(s,⟨idxN Thing.nm s.r.ths.l (t0.extract 0 (Jbn t0)),n,decide (byt t0 (Jbn t0)=33)⟩),⟨RdTo.refl s,by rw [Jxs hlt hm.2 hm2,show Jbn t0+1=((Jbn t0:Int)+1).toNat by omega,hn]; rfl⟩,rfl,St.pack (L1:=Jam xb s) (hu.sel [1,1,1,1,1,1,1,1,1,1] rfl)⟩)))
def Jl6 (c:List Lit):List Put:=c.map fun a=>⟨a.t,a.s⟩
theorem Jka:∀ c:List Lit,Jfw c=if c.any (·.nt) then none else some (Jl6 c)
 | []=>rfl
 | a::c=>by
  by_cases ha:a.nt=true
  ·
   simp [Jfw,ha]
  by_cases h:c.any (·.nt)=true
  ·
   have:=Jka c; rw [if_pos h] at this; simp [Jfw,ha,this,h]
  have:=Jka c; rw [if_neg h] at this; simp [Jfw,ha,this,h,Jl6]
theorem Jp5 {c:List Lit} {i:Int} (h0:0≤i) (h1:i < c.length):Jl6 (c.take (i+1).toNat)=Jl6 (c.take i.toNat)++[⟨(nth c i).t,(nth c i).s⟩]:=by
 rw [Jeb h0 h1,Jl6,List.map_append]; rfl
def RetNF {α:Type} (C:Cel α) (w:World) (spec:Option (List α)):Ending→World→Prop:=fun e u'=>(∃ s:Sl α,(spec=some s.l∧∃ u0,SlT C u0 s)∧RetF w s.v (roT C s) e u')∨(spec=none∧e = .panicked pchain∧Below w.heap.size w u')
theorem RetNF.st {α:Type} {C:Cel α} {n0:Nat} {w0 u:World} {L:List SA} (hu:St n0 w0 L u) {spec:Option (List α)} {f:FuncId} {args:Array Value} (h:Calls Tryz.prog f args u (RetNF C u spec)) :
  Calls Tryz.prog f args u (fun e u'=>(∃ s:Sl α,(spec=some s.l∧∃ u0,SlT C u0 s)∧e = .returned s.v∧St n0 w0 (roT C s::L) u')∨(spec=none∧e = .panicked pchain∧St n0 w0 L u')):=by
 refine h.mono ?_
 rintro e u' (⟨s,h1,rfl,hb,T,hT,hk⟩ | ⟨h1,rfl,h2⟩)
 ·
  exact .inl ⟨s,h1,rfl,hu.cons hb hT hk⟩
 exact .inr ⟨h1,rfl,hu.ext h2⟩
theorem J3t {α:Type} {C:Cel α} {w0 u:World} {L:List SA} {e:TypeId} {j:Nat} {v:Value} {xs:List α} {spec:Option (List α)} (hs:spec=some xs) (hC:∀ u,∀ a∈xs,C.ok u a) (hj:L[j]? = some (oT C e v xs)) (hu:St w0.heap.size w0 L u):RetNF C w0 spec (.returned v) u :=
 .inl ⟨⟨v,xs⟩,⟨hs,u,Jaw hu hj (hC u)⟩,retR (p:=fun u=>SlT C u ⟨v,xs⟩) (fun S u h=>⟨Star.osl hj h,hC u⟩) u hu⟩
theorem J2y {α:Type} [Inhabited α] {p:α→Bool} {l:List α} {n:Int} (hn:n=l.length) (h:∀ j:Int,0≤j→j < n→p (nth l j)=false):l.any p=false:=by
 rw [List.any_eq_false]
 intro x hx
 obtain ⟨i,h0,h1,rfl⟩:=Ja4 hx
 rw [h i h0 (by omega)]; decide
theorem Jz6 {α:Type} [Inhabited α] {p:α→Bool} {l:List α} {i:Int} (h0:0≤i) (h1:i < l.length) (h:p (nth l i)=true):l.any p=true:=List.any_eq_true.2 ⟨_,Jak h0 h1,h⟩
theorem Jxz (c:Sl Lit) (w:World) (hk:SlT cLit w c) (hn:c.l.length≤70000) :
  Calls Tryz.prog 73 #[c.v] w (RetNF cPut w (Jfw c.l)):=by
 refine enter Tryz.func73 rfl rfl (Nat.le_of_ble_eq_true rfl) ?_
 refine Nz 1 ?_
 refine Wd (Qc (Cs (Nz 1 ?_)))
 refine Wk 1 Nc ?_
 refine Wd (Qc (Ce ?_))
 refine CS.weak (fun _ hu=>hu.osl0 (e:=75) (size:=2)) ?_
 refine CS.loopM (σ:=Int × Value) [4,8,9,10,11,12,13,14,15,16,17,18,19,20,21,22,23] (fun s=>[(7,.int .i64 s.1),(2,s.2)]) (fun s=>[oT cPut 75 s.2 (Jl6 (c.l.take s.1.toNat))]) (fun s=>0≤s.1∧s.1≤c.l.length∧∀ j:Int,0≤j→j < s.1→(nth c.l j).nt=false) (fun s=>(c.l.length - s.1).toNat) (0,.slice none 0 0) (fun _ _=>rfl) rfl rfl ⟨by simp,by simp,fun j _ _=>by omega⟩ ?_
 intro q t hs
 obtain ⟨hq1,hq2,hq3⟩:=hs
 refine Nz 1 ?_
 refine Wd (Qc (Cs (CS.cond rfl ?_ ?_)))<;>intro hc1<;>try simp only [bq] at hc1
 ·
  refine Ck (Qc (Cs (Ce (Nz 0 ?_))))
  refine Wk 0 Xc ?_
  refine Wk 0 Ua ?_
  refine Wl 0 zv96 (fun _=>rfl) (fun _=>rfl) fun b4 hb4=>?_
  refine Wv 0 0 ?_
  refine Wd (Qc (Nz 1 ?_))
  refine Wk 1 (by first | exact Jaa (j:=0) rfl rfl rfl tk4 | exact Jab rfl (by assumption) rfl tk4) ?_
  refine WS.callP rfl rfl Jej (Jcp _) (fun _=>rfl) (fun hq u hu=>And.intro rfl (Or.inr ⟨by rw [Jka,Jz6 (l:=c.l) (i:=q.1) hq1 (by omega) (by simpa using hq)]; rfl,rfl,hu.below⟩)) ?_; rintro ⟨⟩ hm
  refine Wd (Qc (Ny 2 ?_))
  refine Wk 1 (by first | exact Jaa (j:=0) rfl rfl rfl tk3 | exact Jab rfl (by assumption) rfl tk3) ?_
  refine Wk 0 (by first | exact Jaa (j:=0) rfl rfl rfl tk3 | exact Jab rfl (by assumption) rfl tk3) ?_
  refine Wk 0 (Db Jyw zv75) ?_
  refine WS.buildT1 cPut (a:=⟨(nth c.l q.1).t,(nth c.l q.1).s⟩) sl71 zv75 rfl (by decide) (fun _=>rfl) ?_; intro v21
  refine WS.appendT1 (C:=cPut) (a:=⟨(nth c.l q.1).t,(nth c.l q.1).s⟩) (j:=2) (jz:=0) sl71 zv75 rfl (by decide) rfl rfl rfl rfl (w:=w) trivial (by simp [Jl6]; omega) (by simp [Jl6]; omega) (fun _=>rfl) (fun _=>rfl) ?_; intro v22 hv22
  refine Wz 1 ?_
  refine Wd (Qb (Qc (Ny 0 ?_)))
  refine Wk 1 Za ?_
  refine Wd ?_
  refine QS.sel [2] rfl ?_
  exact QS.head ((q.1+1,v22)) rfl (by simp only [Jp5 hq1 (show q.1 < c.l.length by omega)]) ⟨⟨by simp; omega,by simp; omega,fun j a b=>by
   by_cases h:j=q.1
   ·
    subst h; simpa using hm
   exact hq3 j a (by simp at b; omega)⟩,by simp; omega⟩
 refine Cv (Qe (Qe (Qx (Qc (Nz 2 ?_)))))
 exact Wd (Qc (Cr (out1 rfl rfl (fun u hu=>J3t (by rw [Jka,J2y (n:=q.1) (by omega) hq3,Jqe (by omega)]; rfl) (fun _ _ _=>trivial) (j:=0) rfl hu))))
section
variable {P:Program} {ro:Option Nat} {n0:Nat} {w0:World} {ds:List Deferred} {ops:Array Oper} {Q:Exit→Act→World→Prop} {L:List SA} {rest:List Oper} {l:List Value}
theorem CS.roE {p:World→Prop} {c:Code} {j:Nat} (hj:L[j]? = some (roS p)) (k:(∃ u,p u)→CS P ro n0 w0 ds c Q L l):CS P ro n0 w0 ds c Q L l:=fun u hu=>k ⟨u,hu.ro hj⟩ u hu
theorem WS.roE {p:World→Prop} {j:Nat} (hj:L[j]? = some (roS p)) (k:(∃ u,p u)→WS P ro n0 w0 ds ops Q L rest l):WS P ro n0 w0 ds ops Q L rest l:=fun u hu=>k ⟨u,hu.ro hj⟩ u hu
theorem QS.roE {p:World→Prop} {e:Exit} {j:Nat} (hj:L[j]? = some (roS p)) (k:(∃ u,p u)→QS n0 w0 ds Q e L l):QS n0 w0 ds Q e L l:=fun u hu=>k ⟨u,hu.ro hj⟩ u hu
end
theorem St.tailPack {n0:Nat} {w0 u:World} {A:SA} {Ls:List SA} (h:St n0 w0 (A::Ls) u):St n0 w0 [A,Go.Proofs.YtkekjhcmephhjaaGreatDoor.star Ls] u:=by
 have h1:St n0 w0 (Ls++[A]) u:=h.perm (List.perm_append_comm (l₁:=[A]) (l₂:=Ls))
 exact (St.pack h1).perm (.swap _ _ _)
theorem St.tailUnpack {n0:Nat} {w0 u:World} {A:SA} {Ls:List SA} (h:St n0 w0 [A,Go.Proofs.YtkekjhcmephhjaaGreatDoor.star Ls] u):St n0 w0 (A::Ls) u:=by
 have h1:St n0 w0 (Ls++[A]) u:=St.unpack (h.perm (.swap _ _ _))
 exact h1.perm (List.perm_append_comm (l₁:=Ls) (l₂:=[A]))
theorem St.oneUnpack {n0:Nat} {w0 u:World} {Ls:List SA} (h:St n0 w0 [Go.Proofs.YtkekjhcmephhjaaGreatDoor.star Ls] u):St n0 w0 Ls u:=by
 have h1:St n0 w0 (Ls++[]) u:=St.unpack h
 rwa [List.append_nil] at h1
theorem RetX.ls {β:Type} {w u:World} {Ls:List SA} {ch:List PanicEntry} {p:β→Prop} {q:Prop} {v:β→Value} {A:β→SA} {f:FuncId} {args:Array Value} (h:Calls Tryz.prog f args u (RetX w (star Ls) ch p q v A)) :
  Calls Tryz.prog f args u (fun e u'=>(∃ x,p x∧e = .returned (v x)∧St w.heap.size w (A x::Ls) u')∨(q∧e = .panicked ch∧St w.heap.size w Ls u')):=by
 refine h.mono ?_
 rintro e u' (⟨x,h1,h2,h3⟩ | ⟨h1,h2,h3⟩)
 ·
  exact .inl ⟨x,h1,h2,h3.tailUnpack⟩
 exact .inr ⟨h1,h2,h3.oneUnpack⟩
theorem RetX.ls2 {β:Type} {w u:World} {Ls:List SA} {ch:List PanicEntry} {p:β→Prop} {q:Prop} {v:β→Value} {A B:β→SA} {f:FuncId} {args:Array Value} (h:Calls Tryz.prog f args u (RetX w (star Ls) ch p q v (fun x=>star [A x,B x]))) :
  Calls Tryz.prog f args u (fun e u'=>(∃ x,p x∧e = .returned (v x)∧St w.heap.size w (A x::B x::Ls) u')∨(q∧e = .panicked ch∧St w.heap.size w Ls u')):=by
 refine (RetX.ls h).mono ?_
 rintro e u' (⟨x,h1,h2,h3⟩ | h)
 ·
  exact .inl ⟨x,h1,h2,h3.unpack⟩
 exact .inr h
def RdL {α:Type} (C:Cel α) (w:World) (R:SA) (xb:Nat) (s:RdS) (spec:Option (List α × Wds)):Ending→World→Prop :=
 RetX (β:=RdS × Sl α) w R pchain (fun x=>(RdTo s x.1∧∃ u0,SlT C u0 x.2)∧spec=some (x.2.l,x.1.ws.l)) (spec=none) (fun x=>x.2.v) (fun x=>star [rdr xb x.1,roT C x.2])
theorem Jox {g:Sl ByteArray} (hg:g.l=wordL) (t:ByteArray):(g.l.any fun x=>seq t x)=resB t:=by
 rw [hg]; unfold resB; congr 1; funext x; exact Jkv _ _
theorem Jqd {ths:List Thing} {ws:Wds} (h:(0:Int) < ws.length→resB (nth ws 0)=true):Jcr ths ws=some ([],ws):=by
 cases ws with
 | nil=>rfl
 | cons t r=>exact if_pos (h (by simp))
theorem Jvl {ths:List Thing} {ws r:Wds} {t:ByteArray} {a:Lit} (hn:Jec ws=some (t,r)) (hr:resB (nth ws 0)=false) (hl:litT ths t=some a):Jcr ths ws=(Jcr ths r).map fun x=>(a::x.1,x.2):=by
 cases ws with
 | nil=>cases hn
 | cons t' r' =>
  cases hn
  have hr':resB t=false:=hr
  simp only [Jcr,hr',hl]
  cases Jcr ths r <;> rfl
theorem Jwr {ths:List Thing} {ws r:Wds} {t:ByteArray} (hn:Jec ws=some (t,r)) (hr:resB (nth ws 0)=false) (hl:litT ths t=none):Jcr ths ws=none:=by
 cases ws with
 | nil=>cases hn
 | cons t' r' =>
  cases hn
  have hr':resB t=false:=hr
  simp [Jcr,hr',hl]
theorem Jop {α:Type} {o:Option α} {a:α} {w w':Wds} (h:o.map (fun x=>(x,w))=some (a,w')):o=some a∧w=w':=by
 cases o with
 | none=>cases h
 | some x=>simp only [Option.map_some,Option.some.injEq,Prod.mk.injEq] at h; exact ⟨by rw [h.1],h.2⟩
theorem Jpa {α β:Type} {o:Option α} {f:α→β} (h:o.map f=none):o=none:=by
 cases o with
 | none=>rfl
 | some x=>cases h
theorem Jss {l r:Wds} {t:ByteArray} (h:Jec l=some (t,r)):l.length=r.length+1:=by
 cases l with
 | nil=>cases h
 | cons a l=>cases h; rfl
theorem Jvk {l:Wds} (h:Jec l=none):l.length=0:=by
 cases l with
 | nil=>rfl
 | cons a l=>cases h
theorem St.outRo {α:Type} {C:Cel α} {n0:Nat} {w0 u:World} {e:TypeId} {v:Value} {xs:List α} {xb:Nat} {s:RdS} {R:SA} (hC:∀ u,∀ a∈xs,C.ok u a) (h:St n0 w0 (Jam xb s++[oT C e v xs,R]) u) :
  St n0 w0 [rdr xb s,roT C ⟨v,xs⟩,R] u:=by
 have h1:St n0 w0 [rdr xb s,oT C e v xs,R] u:=St.pack h
 have h2:=h1.perm (.swap _ _ _)
 have h3:=St.toRo (p:=fun u=>SlT C u ⟨v,xs⟩) (fun S u h=>⟨Star.osl (L:=[oT C e v xs]) (j:=0) rfl ⟨S,fun _ h=>h,h,trivial⟩,hC u⟩) h2
 exact h3.perm (.swap _ _ _)
theorem Jl4 {α:Type} {C:Cel α} {w0 u:World} {R:SA} {xb:Nat} {s s':RdS} {spec:Option (List α × Wds)} {x:Sl α} (h:RdTo s s') (hx:∃ u0,SlT C u0 x) (hs:spec=some (x.l,s'.ws.l)) (hu:St w0.heap.size w0 [rdr xb s',roT C x,R] u):RdL C w0 R xb s spec (.returned x.v) u :=
 .inl ⟨(s',x),⟨⟨h,hx⟩,hs⟩,rfl,St.pack (L1:=[rdr xb s',roT C x]) hu⟩
theorem Jsc {w u:World} (R:SA) (xb:Nat) (sx:RdS) (hu:St w.heap.size w [rdr xb sx,R] u) (g:Sl ByteArray) (hG:GOk w g) (hz:sx.ok) :
  Calls Tryz.prog 74 #[.pointer (some ⟨xb,0,none⟩)] u (RdL cLit w R xb sx (Jcr sx.r.ths.l sx.ws.l)):=by
 refine Jdd hu Tryz.func74 rfl rfl (Nat.le_of_ble_eq_true rfl) ?_
 refine Nz 1 ?_
 refine Wd (Qc (Cs (Ce ?_)))
 refine CS.weak (fun _ hu=>hu.osl0 (e:=96) (size:=3)) ?_
 refine CS.sel [1,0,0] rfl ?_
 refine CS.loopM (σ:=RdS × Value × List Lit) [3,4,5,6,7,8,9,10,11,12,13,14,15,16,17,18,19,20,21,22,23,24,25,26] (fun s=>[(2,s.2.1)]) (fun s=>[rdr xb s.1,oT cLit 96 s.2.1 s.2.2,R]) (fun s=>RdTo sx s.1∧Jcr sx.r.ths.l sx.ws.l=(Jcr sx.r.ths.l s.1.ws.l).map (fun x=>(s.2.2++x.1,x.2))∧s.2.2.length+s.1.ws.l.length=sx.ws.l.length) (fun s=>s.1.ws.l.length) (sx,.slice none 0 0,[]) (fun _ _=>rfl) rfl rfl ⟨RdTo.refl _,by simp,by simp⟩ ?_
 intro q t hs
 obtain ⟨hq1,hq2,hq3⟩:=hs
 have hzq:=hq1.ok hz
 have hzl:=hz.len
 refine CS.unpack (L1:=Jam xb q.1) ?_
 refine CS.roE (j:=8) rfl fun hwx=>?_
 obtain ⟨uw,hw⟩:=hwx
 refine Cs (Cs (Dr mixed 3 ?_))
 refine Dk 0 (by first | exact Jaa (j:=0) rfl rfl rfl tk23 | exact Jaa (j:=1) rfl rfl rfl tk23 | exact Jaa (j:=2) rfl rfl rfl tk23 | exact Jaa (j:=3) rfl rfl rfl tk23 | exact Jaa (j:=4) rfl rfl rfl tk23 | exact Jaa (j:=5) rfl rfl rfl tk23 | exact Jaa (j:=6) rfl rfl rfl tk23 | exact Jaa (j:=7) rfl rfl rfl tk23 | exact Jaa (j:=8) rfl rfl rfl tk23 | exact Jaa (j:=9) rfl rfl rfl tk23 | exact Jaa (j:=10) rfl rfl rfl tk23 | exact Jaa (j:=11) rfl rfl rfl tk23 | exact Jab rfl (by assumption) rfl tk23) ?_
 refine Dk 2 (Nc (s:=q.1.ws) (hs:=hw)) ?_
 refine Dt 0 rfl rfl (fun hg=>Jdx tk23 rfl fun u hu=>hG.cell hu) ?_
 refine Dt 0 rfl rfl (fun hg=>Fm) ?_
 refine Dt 0 rfl rfl (fun hg=>Fc) ?_
 refine Dt 0 rfl rfl (fun hg=>Ff) ?_
 refine Dt 0 rfl rfl (fun hg=>by first | exact Jaa (j:=0) (eg_ hg rfl) rfl rfl tk23 | exact Jaa (j:=1) (eg_ hg rfl) rfl rfl tk23 | exact Jaa (j:=2) (eg_ hg rfl) rfl rfl tk23 | exact Jaa (j:=3) (eg_ hg rfl) rfl rfl tk23 | exact Jaa (j:=4) (eg_ hg rfl) rfl rfl tk23 | exact Jaa (j:=5) (eg_ hg rfl) rfl rfl tk23 | exact Jaa (j:=6) (eg_ hg rfl) rfl rfl tk23 | exact Jaa (j:=7) (eg_ hg rfl) rfl rfl tk23 | exact Jaa (j:=8) (eg_ hg rfl) rfl rfl tk23 | exact Jaa (j:=9) (eg_ hg rfl) rfl rfl tk23 | exact Jaa (j:=10) (eg_ hg rfl) rfl rfl tk23 | exact Jaa (j:=11) (eg_ hg rfl) rfl rfl tk23 | exact Jab (eg_ hg rfl) (by assumption) rfl tk23) ?_
 refine Dt 0 rfl rfl (fun hg=>Xc (s:=q.1.ws)) ?_
 refine Dt 0 rfl rfl (fun hg=>Vb 8 rfl (s:=q.1.ws)) ?_
 refine Dt 0 rfl rfl (fun hg=>Cb rfl (ec_ (eg_ hg rfl) (ec_ (eg_ hg rfl) en_)) Jt2 (fun u hu=>Jf3 g _ u (hG.sl.st hu))) ?_
 refine Dt 0 rfl rfl (fun hg=>Fn) ?_
 refine Dk 0 Pa ?_
 refine Dd (Qc (CS.cond rfl ?_ ?_))<;>intro hc1<;>try simp only [bq] at hc1
 ·
  refine Ck (Qc (Ce (Ny 3 ?_)))
  refine WS.callP rfl rfl Jlx (fun u hu=>RetX.ls (Jhr (star _) xb q.1 (St.tailPack (St.pack (L1:=Jam xb q.1) hu)))) (fun _=>rfl) (fun hq u hu=>absurd (Jvk hq) (by omega)) ?_; rintro ⟨s1,t⟩ ⟨h1,hn⟩
  have hrb:=(Jox hG.1 (nth q.1.ws.l 0)).symm.trans hc1.2
  refine WS.callP rfl rfl J2u (fun u hu=>RetX.ls (J1f (star _) xb s1 (St.tailPack hu) t g hG (h1.ok hzq) (hzq.sz t (Jdo hn)))) (fun _=>rfl) (fun hq u hu=>And.intro rfl (Or.inr ⟨by rw [hq2,Jwr hn hrb (hq1.1 ▸ h1.1 ▸ Jpa hq)]; rfl,rfl,hu.sel [1] rfl⟩)) ?_; rintro ⟨s2,a⟩ ⟨h2,ha⟩
  obtain ⟨hla,hw2⟩:=Jop ha
  rw [h1.1,hq1.1] at hla
  have hgo:=Jvl hn hrb hla
  have hln:q.1.ws.l.length=s1.ws.l.length+1:=Jss hn
  have hw3:s1.ws.l=s2.ws.l:=hw2
  refine WS.buildT1 cLit (a:=a) sl29 zv96 rfl (by decide) (fun _=>rfl) ?_; intro v25
  refine WS.appendT1 (C:=cLit) (a:=a) (j:=2) (jz:=0) sl29 zv96 rfl (by decide) rfl rfl rfl rfl (w:=w) trivial (by omega) (by omega) (fun _=>rfl) (fun _=>rfl) ?_; intro v26 hv26
  refine Wz 1 ?_
  refine Wd (Qb ?_)
  refine QS.sel [1,1,1] rfl ?_
  exact QS.head ((s2,v26,q.2.2++[a])) rfl rfl ⟨⟨(hq1.trans h1).trans h2,by rw [hq2,hgo,hw2]; cases Jcr sx.r.ths.l s2.ws.l <;> simp,by rw [← hw3]; simp; omega⟩,by rw [← hw3]; omega⟩
 refine Cv (Qe (Qe (Qx (Qc (Nz 2 ?_)))))
 exact Wd (Qc (Cr (out1 rfl rfl (fun u hu=>Jl4 (x:=⟨q.2.1,q.2.2⟩) hq1 ⟨u,Jaw hu (j:=9) rfl fun _ _=>trivial⟩ (by rw [hq2,Jqd (fun h=>(Jox hG.1 _).symm.trans (hc1.resolve_left (by omega)))]; simp) (St.outRo (fun _ _ _=>trivial) hu)))))
theorem J10 {α:Type} (C:Cel α) {n0:Nat} {w0 u:World} {A R:SA} (h:St n0 w0 [A,R] u):St n0 w0 [A,roT C ⟨.slice none 0 0,[]⟩,R] u :=
 (h.roTrue (p:=fun u=>SlT C u ⟨.slice none 0 0,[]⟩) (SlT.nil C)).perm (.swap _ _ _)
section
variable {P:Program} {ro:Option Nat} {n0:Nat} {w0:World} {ds:List Deferred} {ops:Array Oper} {Q:Exit→Act→World→Prop} {L:List SA} {rest:List Oper} {l:List Value} {ty:TypeId} {ps:String} {af:Array Edge}
theorem WS.buildN1 {T e:TypeId} {by_ i:Nat} {x:Operand} {b:Int} {zc:List Value} (hT:sl P T=some (e,1,by_)) (hz:zv P e=some zc) (hx:evo l x=some (.int .i64 b))
  {l':Value→List Value} (hl:∀ v,lset l i v=some (l' v)) (kk:∀ v,WS P ro n0 w0 ds ops Q (oT cInt e v [b]::L) rest (l' v)) :
  WS P ro n0 w0 ds ops Q L (⟨some i,.buildSlice T 1 #[(0,x)],ty,ps,af,none⟩::rest) l :=
 WS.buildSlice1 (pl:=[(0,x)]) (vs:=[.int .i64 b]) hT hz (by simp [Jan hx]) rfl (by decide) (fun v hv=>by simp at hv; subst hv; rfl) hl kk
end
theorem Jum {ths:List Thing} {ws ws':Wds} {c:List Lit} (h:isW ifW ws=true) (hw:ws'=ws.tail) {c':Wds} (hc:Jcr ths ws'=some (c,c')):Jhw ths ws=if c=[] then none else some (c,c'):=by
 subst hw
 rw [Jhw,if_pos h,hc]; rfl
theorem Jwu {ths:List Thing} {ws ws':Wds} (h:isW ifW ws=true) (hw:ws'=ws.tail) (hc:Jcr ths ws'=none):Jhw ths ws=none:=by
 subst hw
 rw [Jhw,if_pos h,hc]; rfl
theorem Jmd {ws ws':Wds} {t:ByteArray} (h:some (isW t ws,if isW t ws then ws.tail else ws)=some (true,ws')):isW t ws=true∧ws'=ws.tail:=by
 simp only [Option.some.injEq,Prod.mk.injEq] at h
 exact ⟨h.1,by rw [← h.2,if_pos h.1]⟩
theorem Jls {ws ws':Wds} {t:ByteArray} (h:some (isW t ws,if isW t ws then ws.tail else ws)=some (false,ws')):isW t ws=false∧ws'=ws:=by
 simp only [Option.some.injEq,Prod.mk.injEq] at h
 exact ⟨h.1,by rw [← h.2,if_neg (by simp [h.1])]⟩
theorem Jt9 {prs:List Pro} {t:ByteArray} {ws ws' r:Wds} {l:List Int} (h:isW t ws=true) (hw:ws'=ws.tail) (hc:Jbw prs ws'=some (l,r)):Jer prs t ws=if l=[] then none else some (l,r):=by
 subst hw
 rw [Jer,if_pos h,hc]; rfl
theorem Jvo {prs:List Pro} {t:ByteArray} {ws ws':Wds} (h:isW t ws=true) (hw:ws'=ws.tail) (hc:Jbw prs ws'=none):Jer prs t ws=none:=by
 subst hw
 rw [Jer,if_pos h,hc]; rfl
theorem Jnn {prs:List Pro} {ws:Wds} (h:(0:Int) < ws.length→resB (nth ws 0)=true):Jbw prs ws=some ([],ws):=by
 cases ws with
 | nil=>rfl
 | cons t r=>exact if_pos (h (by simp))
theorem Jrz {prs:List Pro} {ws r:Wds} {i:Int} (hr:resB (nth ws 0)=false) (hl:Jcb Pro.nm prs ws=some (i,r)):Jbw prs ws=(Jbw prs r).map fun x=>(i::x.1,x.2):=by
 cases ws with
 | nil=>cases hl
 | cons t r' =>
  have hr':resB t=false:=hr
  have h2:Ja7 t=true∧0≤idxN Pro.nm prs t∧idxN Pro.nm prs t=i∧r'=r:=by
   simp only [Jcb,Jfn,Jec,Option.bind_some] at hl
   split at hl
   ·
    rename_i h1
    simp only [Option.bind_some] at hl
    split at hl
    ·
     rename_i h2; simp only [Option.some.injEq,Prod.mk.injEq] at hl; exact ⟨h1,h2,hl.1,hl.2⟩
    cases hl
   cases hl
  obtain ⟨h1,h2,h3,h4⟩:=h2
  subst h4
  rw [Jbw,if_neg (by simp [hr']),if_pos ⟨h1,h2⟩,h3]
  cases Jbw prs r' <;> rfl
theorem Jrf {prs:List Pro} {ws:Wds} (h0:0 < ws.length) (hr:resB (nth ws 0)=false) (hl:Jcb Pro.nm prs ws=none):Jbw prs ws=none:=by
 cases ws with
 | nil=>cases h0
 | cons t r' =>
  have hr':resB t=false:=hr
  have h2:¬ (Ja7 t=true∧0≤idxN Pro.nm prs t):=by
   rintro ⟨h1,h2⟩
   simp [Jcb,Jfn,Jec,h1,h2] at hl
  rw [Jbw,if_neg (by simp [hr']),if_neg h2]
theorem Jqj {α:Type} {f:α→ByteArray} {l:List α} {ws r:Wds} {i:Int} (h:Jcb f l ws=some (i,r)):ws.length=r.length+1:=by
 cases ws with
 | nil=>cases h
 | cons t r' =>
  simp only [Jcb,Jfn,Jec,Option.bind_some] at h
  split at h
  ·
   simp only [Option.bind_some] at h
   split at h
   ·
    simp only [Option.some.injEq,Prod.mk.injEq] at h; rw [← h.2]; rfl
   cases h
  cases h
theorem Jpl {w u:World} (R:SA) (xb:Nat) (s:RdS) (hu:St w.heap.size w [rdr xb s,R] u) (g:Sl ByteArray) (hG:GOk w g) (hz:s.ok) :
  Calls Tryz.prog 71 #[.pointer (some ⟨xb,0,none⟩)] u (RdL cLit w R xb s (Jhw s.r.ths.l s.ws.l)):=by
 refine Jdd hu Tryz.func71 rfl rfl (Nat.le_of_ble_eq_true rfl) ?_
 refine Nz 1 ?_
 refine Wd (Qc (Cs (Nz 1 ?_)))
 refine WS.callP rfl rfl Jjd (fun u hu=>RetX.ls (Jfs (star _) xb s (St.tailPack hu) ifW)) (fun _=>rfl) (fun hq u hu=>absurd hq (by simp)) ?_; rintro ⟨s1,b⟩ ⟨h1,hn⟩
 refine Wz 1 ?_
 refine Wd (Qc (CS.cond rfl ?_ ?_))<;>intro hc1<;>try simp only [bq] at hc1
 ·
  subst hc1
  obtain ⟨hno,hn2⟩:=Jls hn
  refine Nz 1 ?_
  exact Wd (Qc (Cr (Qr (out1 rfl rfl (fun u hu=>Jl4 (x:=⟨.slice none 0 0,[]⟩) h1 ⟨u,SlT.nil _ _⟩ (by rw [Jhw,if_neg (by simp [hno])]; exact congrArg _ (congrArg _ hn2.symm)) (J10 cLit hu))))))
 subst hc1
 obtain ⟨hyes,hn2⟩:=Jmd hn
 refine Ck (Qc (Nz 1 ?_))
 refine WS.callP rfl rfl Jzk (fun u hu=>RetX.ls2 (Jsc (star _) xb s1 (St.tailPack hu) g hG (h1.ok hz))) (fun _=>rfl) (fun hq u hu=>And.intro rfl (Or.inr ⟨Jwu hyes hn2 (h1.1 ▸ hq),rfl,hu.sel [0] rfl⟩)) ?_; rintro ⟨s2,c⟩ ⟨⟨h2,⟨uc,hcx⟩⟩,hc⟩
 refine Wz 1 ?_
 refine Wd (Qc (Nz 1 ?_))
 refine Wk 1 (Nc (s:=c)) ?_
 refine WS.callP rfl rfl Jej (Jcp _) (fun _=>rfl) (fun hq u hu=>And.intro rfl (Or.inr ⟨by rw [Jum hyes hn2 (h1.1 ▸ hc),if_pos (by simpa using hq)],rfl,hu.sel [2] rfl⟩)) ?_; rintro ⟨⟩ hm
 refine Wd (Qc (Nz 2 ?_))
 exact Wd (Qc (Cr (out1 rfl rfl (fun u hu=>Jl4 (x:=c) (h1.trans h2) ⟨u,hu.ro (j:=1) rfl⟩ (by rw [Jum hyes hn2 (h1.1 ▸ hc),if_neg (fun h:c.l=[]=>by simp [h] at hm)]) hu))))
theorem Jus {w u:World} (R:SA) (xb:Nat) (sx:RdS) (hu:St w.heap.size w [rdr xb sx,R] u) (g:Sl ByteArray) (hG:GOk w g) (hz:sx.ok) (t0:ByteArray) :
  Calls Tryz.prog 72 #[.pointer (some ⟨xb,0,none⟩),.string t0] u (RdL cInt w R xb sx (Jer sx.r.prs.l t0 sx.ws.l)):=by
 refine Jdd hu Tryz.func72 rfl rfl (Nat.le_of_ble_eq_true rfl) ?_
 refine Nz 1 ?_
 refine Wd (Qc (Cs (Nz 2 ?_)))
 refine WS.callP rfl rfl Jjd (fun u hu=>RetX.ls (Jfs (star _) xb sx (St.tailPack hu) t0)) (fun _=>rfl) (fun hq u hu=>absurd hq (by simp)) ?_; rintro ⟨s1,b⟩ ⟨h1,hn⟩
 refine Wz 1 ?_
 refine Wd (Qc (CS.cond rfl ?_ ?_))<;>intro hc1<;>try simp only [bq] at hc1
 ·
  subst hc1
  obtain ⟨hno,hn2⟩:=Jls hn
  refine Nz 1 ?_
  exact Wd (Qc (Cr (Qr (out1 rfl rfl (fun u hu=>Jl4 (x:=⟨.slice none 0 0,[]⟩) h1 ⟨u,SlT.nil _ _⟩ (by rw [Jer,if_neg (by simp [hno])]; exact congrArg _ (congrArg _ hn2.symm)) (J10 cInt hu))))))
 subst hc1
 obtain ⟨hyes,hn2⟩:=Jmd hn
 replace h1:RdTo sx s1:=h1
 replace hn2:s1.ws.l=sx.ws.l.tail:=hn2
 have hr1:=h1.1
 refine Ck (Qc (Cs (Ce ?_)))
 refine CS.weak (fun _ hu=>hu.osl0 (e:=3) (size:=1)) ?_
 refine CS.sel [1,0,0] rfl ?_
 refine CS.loopM (σ:=RdS × Value × List Int) [9,10,11,12,13,14,15,16,17,18,19,20,21,22,23,24,25,26,27,28,29,30,31,32,33,34,35] (fun s=>[(4,s.2.1)]) (fun s=>[rdr xb s.1,oT cInt 3 s.2.1 s.2.2,R]) (fun s=>RdTo s1 s.1∧Jbw sx.r.prs.l s1.ws.l=(Jbw sx.r.prs.l s.1.ws.l).map (fun x=>(s.2.2++x.1,x.2))∧s.2.2.length+s.1.ws.l.length=s1.ws.l.length) (fun s=>s.1.ws.l.length) (s1,.slice none 0 0,[]) (fun _ _=>rfl) rfl rfl ⟨RdTo.refl _,by simp,by simp⟩ ?_
 intro q t hs
 obtain ⟨hq1,hq2,hq3⟩:=hs
 have hzq:=hq1.ok (h1.ok hz)
 have hzl:=(h1.ok hz).len
 refine CS.unpack (L1:=Jam xb q.1) ?_
 refine CS.roE (j:=8) rfl fun hwx=>?_
 obtain ⟨uw,hw⟩:=hwx
 refine Cs (Cs (Dr mixed 3 ?_))
 refine Dk 0 (by first | exact Jaa (j:=0) rfl rfl rfl tk23 | exact Jaa (j:=1) rfl rfl rfl tk23 | exact Jaa (j:=2) rfl rfl rfl tk23 | exact Jaa (j:=3) rfl rfl rfl tk23 | exact Jaa (j:=4) rfl rfl rfl tk23 | exact Jaa (j:=5) rfl rfl rfl tk23 | exact Jaa (j:=6) rfl rfl rfl tk23 | exact Jaa (j:=7) rfl rfl rfl tk23 | exact Jaa (j:=8) rfl rfl rfl tk23 | exact Jaa (j:=9) rfl rfl rfl tk23 | exact Jaa (j:=10) rfl rfl rfl tk23 | exact Jaa (j:=11) rfl rfl rfl tk23 | exact Jab rfl (by assumption) rfl tk23) ?_
 refine Dk 2 (Nc (s:=q.1.ws) (hs:=hw)) ?_
 refine Dt 0 rfl rfl (fun hg=>Jdx tk23 rfl fun u hu=>hG.cell hu) ?_
 refine Dt 0 rfl rfl (fun hg=>Fm) ?_
 refine Dt 0 rfl rfl (fun hg=>Fc) ?_
 refine Dt 0 rfl rfl (fun hg=>Ff) ?_
 refine Dt 0 rfl rfl (fun hg=>by first | exact Jaa (j:=0) (eg_ hg rfl) rfl rfl tk23 | exact Jaa (j:=1) (eg_ hg rfl) rfl rfl tk23 | exact Jaa (j:=2) (eg_ hg rfl) rfl rfl tk23 | exact Jaa (j:=3) (eg_ hg rfl) rfl rfl tk23 | exact Jaa (j:=4) (eg_ hg rfl) rfl rfl tk23 | exact Jaa (j:=5) (eg_ hg rfl) rfl rfl tk23 | exact Jaa (j:=6) (eg_ hg rfl) rfl rfl tk23 | exact Jaa (j:=7) (eg_ hg rfl) rfl rfl tk23 | exact Jaa (j:=8) (eg_ hg rfl) rfl rfl tk23 | exact Jaa (j:=9) (eg_ hg rfl) rfl rfl tk23 | exact Jaa (j:=10) (eg_ hg rfl) rfl rfl tk23 | exact Jaa (j:=11) (eg_ hg rfl) rfl rfl tk23 | exact Jab (eg_ hg rfl) (by assumption) rfl tk23) ?_
 refine Dt 0 rfl rfl (fun hg=>Xc (s:=q.1.ws)) ?_
 refine Dt 0 rfl rfl (fun hg=>Vb 8 rfl (s:=q.1.ws)) ?_
 refine Dt 0 rfl rfl (fun hg=>Cb rfl (ec_ (eg_ hg rfl) (ec_ (eg_ hg rfl) en_)) Jt2 (fun u hu=>Jf3 g _ u (hG.sl.st hu))) ?_
 refine Dt 0 rfl rfl (fun hg=>Fn) ?_
 refine Dk 0 Pa ?_
 refine Dd (Qc (CS.cond rfl ?_ ?_))<;>intro hc2<;>try simp only [bq] at hc2
 ·
  have hrb:=(Jox hG.1 (nth q.1.ws.l 0)).symm.trans hc2.2
  refine Ck (Qc (Ce (Ny 6 ?_)))
  refine Wk 0 (by first | exact Jaa (j:=0) rfl rfl rfl tk25 | exact Jaa (j:=1) rfl rfl rfl tk25 | exact Jaa (j:=2) rfl rfl rfl tk25 | exact Jaa (j:=3) rfl rfl rfl tk25 | exact Jaa (j:=4) rfl rfl rfl tk25 | exact Jaa (j:=5) rfl rfl rfl tk25 | exact Jaa (j:=6) rfl rfl rfl tk25 | exact Jaa (j:=7) rfl rfl rfl tk25 | exact Jaa (j:=8) rfl rfl rfl tk25 | exact Jaa (j:=9) rfl rfl rfl tk25 | exact Jaa (j:=10) rfl rfl rfl tk25 | exact Jaa (j:=11) rfl rfl rfl tk25 | exact Jab rfl (by assumption) rfl tk25) ?_
  refine WS.callP rfl rfl J1j (fun u hu=>RetX.ls (Jtp (star _) xb q.1 (St.tailPack (St.pack (L1:=Jam xb q.1) hu)) g hG hzq)) (fun _=>rfl) (fun hq u hu=>And.intro rfl (Or.inr ⟨Jvo hyes hn2 (by rw [hq2,Jrf (by omega) hrb ((hq1.1.trans h1.1) ▸ hq)]; rfl),rfl,hu.sel [1] rfl⟩)) ?_; rintro ⟨s2,a⟩ ⟨h2,hl⟩
  rw [hq1.1,h1.1] at hl
  have hgo:=Jrz hrb hl
  have hln:q.1.ws.l.length=s2.ws.l.length+1:=Jqj hl
  refine WS.buildN1 (b:=a) sl43 zv3 rfl (fun _=>rfl) ?_; intro v34
  refine WS.appendT1 (C:=cInt) (a:=a) (j:=2) (jz:=0) sl43 zv3 rfl (by decide) rfl rfl rfl rfl (w:=w) trivial (by omega) (by omega) (fun _=>rfl) (fun _=>rfl) ?_; intro v35 hv35
  refine Wz 1 ?_
  refine Wd (Qb ?_)
  refine QS.sel [1,1,1] rfl ?_
  exact QS.head ((s2,v35,q.2.2++[a])) rfl rfl ⟨⟨hq1.trans h2,by rw [hq2,hgo]; cases Jbw sx.r.prs.l s2.ws.l <;> simp,by simp; omega⟩,by show s2.ws.l.length < q.1.ws.l.length; omega⟩
 have hst:Jbw sx.r.prs.l s1.ws.l=some (q.2.2,q.1.ws.l):=by
  rw [hq2,Jnn (fun h=>(Jox hG.1 _).symm.trans (hc2.resolve_left (by omega)))]; simp
 refine Cv (Qe (Qe (Qx (Qc (Nz 1 ?_)))))
 refine Wk 1 (Jes (j:=9) sl43 rfl rfl) ?_
 refine WS.callP rfl rfl Jej (Jcp _) (fun _=>rfl) (fun hq u hu=>And.intro rfl (Or.inr ⟨by rw [Jt9 hyes hn2 hst,if_pos (by simpa using hq)],rfl,hu.sel [10] rfl⟩)) ?_; rintro ⟨⟩ hm
 refine Wd (Qc (Nz 2 ?_))
 exact Wd (Qc (Cr (out1 rfl rfl (fun u hu=>Jl4 (x:=⟨q.2.1,q.2.2⟩) (h1.trans hq1) ⟨u,Jaw hu (j:=9) rfl fun _ _=>trivial⟩ (by rw [Jt9 hyes hn2 hst,if_neg (fun h=>by simp [h] at hm)]) (St.outRo (fun _ _ _=>trivial) hu)))))
def KOk (w:World) (g:Sl ByteArray):Prop:=g.l=kindsL∧∀ u,Below w.heap.size w u→u.cell? ⟨0,0,none⟩=some g.v∧SlT cStr u g
theorem KOk.ext {w u:World} {g:Sl ByteArray} (h:KOk w g) (hb:Below w.heap.size w u):KOk u g:=⟨h.1,fun v hv=>h.2 v (Jbd hb hv)⟩
theorem KOk.st {w u:World} {L:List SA} {g:Sl ByteArray} (h:KOk w g) (hu:St w.heap.size w L u):KOk u g:=h.ext hu.below
theorem KOk.sl {w:World} {g:Sl ByteArray} (h:KOk w g):SlT cStr w g:=(h.2 w (Below.refl _ _)).2
theorem KOk.cell {w u:World} {L:List SA} {g:Sl ByteArray} (h:KOk w g) (hu:St w.heap.size w L u):u.cell? ⟨0,0,none⟩=some g.v:=(h.2 u hu.below).1
structure RdB (n:Nat) (r:Room):Prop where
 pls:r.pls.l.length≤n
 ths:r.ths.l.length≤n
 prs:r.prs.l.length≤n
 wys:r.wys.l.length≤n
 acs:r.acs.l.length≤n
 aus:r.aus.l.length≤n
theorem RdTo.eta {s s1:RdS} (h:RdTo s s1):s1={ s with ws:=s1.ws }:=by
 obtain ⟨r,k,w⟩:=s
 obtain ⟨r1,k1,w1⟩:=s1
 obtain ⟨rfl,rfl,_⟩:=h
 rfl
theorem RdX.lw {γ:Type} {w u:World} {Ls:List SA} {xb:Nat} {s:RdS} {spec:Option (γ × Wds)} {val:γ→Value} {f:FuncId} {args:Array Value} (h:Calls Tryz.prog f args u (RdX w (star Ls) xb s spec val)) :
  Calls Tryz.prog f args u (fun e u'=>(∃ x:Sl ByteArray × γ,(spec=some (x.2,x.1.l)∧x.1.l <:+ s.ws.l)∧e = .returned (val x.2)∧St w.heap.size w (rdr xb { s with ws:=x.1 }::Ls) u')∨(spec=none∧e = .panicked pchain∧St w.heap.size w Ls u')):=by
 refine (RetX.ls h).mono ?_
 rintro e u' (⟨⟨s1,x⟩,⟨h1,h2⟩,h3,h4⟩ | h)
 ·
  refine .inl ⟨(s1.ws,x),⟨h2,h1.2.2⟩,h3,?_⟩
  rw [← h1.eta]; exact h4
 exact .inr h
theorem RdL.lw {α:Type} {C:Cel α} {w u:World} {Ls:List SA} {xb:Nat} {s:RdS} {spec:Option (List α × Wds)} {f:FuncId} {args:Array Value} (h:Calls Tryz.prog f args u (RdL C w (star Ls) xb s spec)) :
  Calls Tryz.prog f args u (fun e u'=>(∃ x:Sl ByteArray × Sl α,(spec=some (x.2.l,x.1.l)∧x.1.l <:+ s.ws.l∧∃ u0,SlT C u0 x.2)∧e = .returned x.2.v∧St w.heap.size w (rdr xb { s with ws:=x.1 }::roT C x.2::Ls) u')∨(spec=none∧e = .panicked pchain∧St w.heap.size w Ls u')):=by
 refine (RetX.ls2 h).mono ?_
 rintro e u' (⟨⟨s1,x⟩,⟨⟨h1,h0⟩,h2⟩,h3,h4⟩ | h)
 ·
  refine .inl ⟨(s1.ws,x),⟨h2,h1.2.2,h0⟩,h3,?_⟩
  rw [← h1.eta]; exact h4
 exact .inr h
section
variable {P:Program} {n0:Nat} {w0:World} {L:List SA} {l:List Value} {d:Option Tmp} {ty:TypeId} {ps:String} {af:Array Edge} {g:Option (Nat × Bool)}
theorem Jnf {T:TypeId} {x:Operand} {xb i k:Nat} {s:RdS} {v:Value} (hx:evo l x=some (.pointer (some ⟨xb,i,none⟩))) (hv:(Room.cells s.r)[i]? = some v) (hT:tk P T=some (false,k)) :
  Det P (St n0 w0 (rdr xb s::L)) ⟨d,.load T x,ty,ps,af,g⟩ l v:=fun u hu=>by
 refine Jaa (L:=Jam xb s++L) (j:=0) hx rfl ?_ hT u (St.unpack (L1:=Jam xb s) hu)
 have e:Jnl s=Room.cells s.r++[.int .i64 s.kd,s.ws.v]:=rfl
 rw [e,List.getElem?_append_left (List.getElem?_eq_some_iff.1 hv).1]
 exact hv
end
def J2f (w:World) (R:SA) (xb:Nat) (s:RdS) (t0:ByteArray):Ending→World→Prop:=fun e u' =>
 (∃ (s':RdS) (k:Int) (x:Ln),(Jcd s.r s.kd t0=some (k,x)∧s'.r.e=(addL s.r x).e∧s'.kd=k)∧e = .returned (.bool true)∧St w.heap.size w [rdr xb s',R] u') ∨
  (Jcd s.r s.kd t0=none∧e = .returned (.bool false)∧St w.heap.size w [R] u')
def finL (k:Int) (x:Ln × Wds):Option (Int × Ln):=if x.2=[] then some (k,x.1) else none
theorem J0h {r:Room} {kd k:Int} {t0 t:ByteArray} {ws:Wds} (hn:Jec (Jao 32 t0)=some (t,ws)) (hk:Jft t=k) (hm:mayK kd k=true):Jcd r kd t0=(Ja3 r k ws).bind (finL k):=by
 subst hk
 rw [Jcd,hn]
 simp only [Option.bind_some,hm,if_true]; rfl
theorem Jrs {r:Room} {kd:Int} {t0:ByteArray} (hn:Jec (Jao 32 t0)=none):Jcd r kd t0=none:=by rw [Jcd,hn]; rfl
theorem Jue {r:Room} {kd k:Int} {t0 t:ByteArray} {ws:Wds} (hn:Jec (Jao 32 t0)=some (t,ws)) (hk:Jft t=k) (hm:mayK kd k=false):Jcd r kd t0=none:=by
 subst hk
 rw [Jcd,hn]
 simp [hm]
theorem J1b {gk:Sl ByteArray} (hg:gk.l=kindsL) (t:ByteArray):idxF (fun x=>seq t x) gk.l=Jft t:=by
 rw [hg]; unfold Jft idxN; congr 1; funext x; exact Jkv _ _
theorem J0u {α:Type} (p:α→Bool) (xs:List α):idxF p xs < xs.length∨idxF p xs = -1:=by
 unfold idxF
 cases h:xs.findIdx? p with
 | none=>exact .inr rfl
 | some i =>
  rw [List.findIdx?_eq_some_iff_getElem] at h
  obtain ⟨h1,_⟩:=h
  exact .inl (by simp only; omega)
theorem J0g (t:ByteArray):Jft t < 8:=by
 rcases J0u (fun x=>seq (id x) t) kindsL with h | h
 ·
  exact h
 have h2:Jft t = -1:=h
 omega
theorem J2w:∀ k i:Fin 8,seq (nth kindsL ((k.val:Nat):Int)) (nth kindsL ((i.val:Nat):Int))=decide (k=i):=by decide +kernel
theorem Jud {gk:Sl ByteArray} (hg:gk.l=kindsL) {k:Int} (h0:0≤k) (h8:k < 8) (i:Fin 8) {t:ByteArray} (ht:t=nth kindsL ((i.val:Nat):Int)) {b:Bool} (h:seq (nth gk.l k) t=b):(k=((i.val:Nat):Int))=(b=true):=by
 have:=J2w ⟨k.toNat,by omega⟩ i
 rw [show (((⟨k.toNat,by omega⟩:Fin 8).val:Nat):Int)=k by simp; omega, ← ht, ← hg,h] at this
 rw [this]
 simp only [decide_eq_true_eq,eq_iff_iff,Fin.ext_iff]
 omega
theorem Jyf (kd k:Int):((decide (kd≤k) && !(decide (6≤kd) && decide (k≠kd+1))) && (decide (k < 7) || decide (kd=6)))=mayK kd k:=by
 simp only [mayK,decide_not,Bool.and_assoc]
theorem Jdc {r:Room} {k:Int} {t0:ByteArray} (ht:t0.size≤65536) {w:Sl ByteArray} (h:w.l <:+ Jao 32 t0):RdS.ok ⟨r,k,w⟩ :=
 ⟨fun y hy=>Nat.le_trans (Jlh (h.subset hy)) ht,Nat.le_trans h.length_le (Nat.le_trans (Jhf _ _) (by omega))⟩
theorem Jkf {n0:Nat} {w0 u:World} {L:List SA} {p q r:World→Prop} (hr:∀ u,p u→q u→r u) (h:St n0 w0 (roS p::roS q::L) u):St n0 w0 (roS r::L) u:=St.roMap (fun u h=>hr u h.1 h.2) (St.roAnd h)
theorem elOk.prs {u:World} {r:Room} {x:Pro} (v:Value) (h:elOk r u) (hx:cPro.ok u x):elOk { r with prs:=⟨v,r.prs.l++[x]⟩ } u :=
 ⟨fun y hy=>by rcases List.mem_append.1 hy with hy | hy; exact h.1 y hy; (rw [List.mem_singleton] at hy; subst hy; exact hx),h.2⟩
theorem elOk.wys {u:World} {r:Room} {x:Way} (v:Value) (h:elOk r u) (hx:cWay.ok u x):elOk { r with wys:=⟨v,r.wys.l++[x]⟩ } u :=
 ⟨h.1,fun y hy=>by rcases List.mem_append.1 hy with hy | hy; exact h.2.1 y hy; (rw [List.mem_singleton] at hy; subst hy; exact hx),h.2.2⟩
theorem elOk.acs {u:World} {r:Room} {x:Actn} (v:Value) (h:elOk r u) (hx:cAct.ok u x):elOk { r with acs:=⟨v,r.acs.l++[x]⟩ } u :=
 ⟨h.1,h.2.1,fun y hy=>by rcases List.mem_append.1 hy with hy | hy; exact h.2.2.1 y hy; (rw [List.mem_singleton] at hy; subst hy; exact hx),h.2.2.2⟩
theorem elOk.aus {u:World} {r:Room} {x:Auto} (v:Value) (h:elOk r u) (hx:cAuto.ok u x):elOk { r with aus:=⟨v,r.aus.l++[x]⟩ } u :=
 ⟨h.1,h.2.1,h.2.2.1,fun y hy=>by rcases List.mem_append.1 hy with hy | hy; exact h.2.2.2.1 y hy; (rw [List.mem_singleton] at hy; subst hy; exact hx),h.2.2.2.2⟩
theorem elOk.gl {u:World} {r:Room} {c:Sl Lit} (h:elOk r u) (hx:SlT cLit u c):elOk { r with gl:=c } u:=⟨h.1,h.2.1,h.2.2.1,h.2.2.2.1,hx⟩
theorem lpan {w u:World} {R:SA} {xb:Nat} {s:RdS} {t0:ByteArray} {L:List SA} {b:Nat} {a:Act} (j:List Nat) (hq:Jcd s.r s.kd t0=none) (hu:St w.heap.size w L u) (hj:selo L j=some [blk b [.bool false] 4,R])
  (ha:a.defers=[dfr 62 [.pointer (some ⟨b,0,none⟩)]]) (ht:a.tmps[4]? = some (.pointer (some ⟨b,0,none⟩))):bodyPostD Tryz.prog Tryz.f19 (J2f w R xb s t0) (.panic pchain) a u :=
 panD (x:=.bool false) (v:=.bool false) (e1:=122) (chr:=[{ v:=.iface 122 (.agg #[]),recovered:=true }]) ha ht J2d rfl (fun w h1 h2=>Jy7 _ _ w h1 h2) rfl tk4 (hu.sel j hj) (fun u hu=>.inr ⟨hq,rfl,hu⟩)
end Go.Proofs.YtkekjhcmephhjaaGreatDoor
