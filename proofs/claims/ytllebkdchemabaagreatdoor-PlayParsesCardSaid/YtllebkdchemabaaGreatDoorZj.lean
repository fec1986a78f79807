/- Merged texts of this proof. -/
import Derived.Test.YtllebkdchemabaaGreatDoorZb
import Derived.Tactics
import Derived.Tactics2
import Derived.Defers
import Derived.Recover
import Derived.WalkSmall
import Derived.Laws.Pointers
import Derived.Test.YtllebkdchemabaaGreatDoorZc
import Derived.Test.YtllebkdchemabaaGreatDoorZg
import Derived.Shelf.Strings.SlTrimAscii
import Derived.Test.YtllebkdchemabaaGreatDoorZi
import Derived.Deep.LoopGhost
import Derived.Laws.RangeAny
import Derived.Laws.RangeString
import Derived.Laws.Runes
import Derived.Laws.Strings3
import Derived.LoopN
import Derived.Scope
import Derived.StillTactics
set_option maxHeartbeats 8000000
namespace Go.Proofs.YtllebkdchemabaaGreatDoor
open Go.RowKit Go.Proofs Tryz
set_option maxRecDepth 100000
set_option linter.unusedVariables false
set_option linter.unusedSimpArgs false
def pchain:List PanicEntry:=[{v:=.iface 228 (.agg #[]),recovered:=false}]
theorem Jdk (w:World):Calls prog 157 #[.bool true] w fun e w'=>w'=w/\e = .returned (.tuple #[]):=by
 go_enter func157,Tryz.ntmps157
 go_wp2
 go_end0
 exact⟨rfl,rfl⟩
theorem Jgc (w:World):Calls prog 157 #[.bool false] w fun e w'=>w'=w/\e = .panicked pchain:=by
 go_enter func157,Tryz.ntmps157
 go_wp2
 exact⟨rfl,rfl,rfl⟩
theorem Qo (p:Addr) (w:World):
  CallsD prog 155 #[.pointer (some p)] .returning w fun e u' w'=>e = .returned (.tuple #[])/\u' = .returning/\w'=w:=by
 refine callsD_of_wpS func155 rfl fun c₀ cs hu=>?_
 apply wpS_seq
 apply wpS_region
 simp[wpOpsS,go_sem,recoverD,hu,Tryz.ntmps155,Exit.thenS]
 apply wpS_seq
 apply wpS_region
 simp[wpOpsS,go_sem,recoverD,hu,Tryz.ntmps155,Exit.thenS];refine wpS_cond (t:=false) (by simp[Act.eval,Array.replicate]) ?_;simp only[Bool.false_eq_true,if_false];refine wpS_of_wp (wp_skip ?_);cases c₀;simp_all [bodyPostS,results,Tryz.results155]
set_option maxRecDepth 20000 in
theorem Zg (p:Addr) (x:Bool) (w:World) (hc:(w.alloc (.cells #[] 228)).cell? p=some (.bool x)) (hz:(w.alloc (.cells #[] 228)).frozen? p=false):
  CallsD prog 155 #[.pointer (some p)] (.panicking pchain) w fun e u' w'=>
   e = .returned (.tuple #[])/\u' = .panicking [{v:=.iface 228 (.agg #[]),recovered:=true}]/\w'=(w.alloc (.cells #[] 228)).setCell p (.bool false):=by
 refine callsD_of_wpS func155 rfl fun c₀ cs hu=>?_
 apply wpS_seq
 apply wpS_region
 simp[wpOpsS,go_sem,recoverD,hu,pchain,Tryz.ntmps155,Exit.thenS]
 apply wpS_seq
 apply wpS_region
 simp[wpOpsS,go_sem,recoverD,hu,Tryz.ntmps155,Exit.thenS];refine wpS_cond (t:=true) (by simp[Act.eval,Array.replicate]) ?_;simp only[if_true];refine wpS_of_wp ?_
 have hta:∀w:World,(Instr.typeAssert (.iface 228 (.agg #[])) 20 228 true).run prog w = .ok (.tuple #[.agg #[],.bool true]) w:=fun w=>by
  simp[Instr.typeAssert,run_underlying underlying228,go_sem,Result.andThen]
 go_wp2
 exact⟨rfl,_,rfl,.tuple #[],by simp[results,Tryz.results155],rfl,rfl,rfl⟩
variable {n0:Nat} {w0:World} {L:List SA}
theorem Ci (b:Bool):∀u,St n0 w0 L u->Calls prog 157 #[.bool b] u (fun e u'=>(∃x:Unit,b=true/\e = .returned (.tuple #[])/\St n0 w0 L u')\/(b=false/\e = .panicked pchain/\St n0 w0 L u')):=fun u hu=>
 Calls.two (args:=[.bool b]) hu (fun h=>by subst h;exact Jdk u) (fun h=>by subst h;exact Jgc u)
structure RdS where
 r:Room
 kd:Int
 ws:Sl ByteArray
def NX (s:RdS):List Value:=[s.r.pls.v,s.r.ths.v,s.r.prs.v,s.r.wys.v,s.r.acs.v,s.r.aus.v,.int .i64 s.r.ply,s.r.gl.v,.int .i64 s.kd,s.ws.v]
def elOk (r:Room) (u:World):Prop:=(∀x∈r.prs.l,cPro.ok u x)/\(∀x∈r.wys.l,cWay.ok u x)/\(∀x∈r.acs.l,cAct.ok u x)/\(∀x∈r.aus.l,cAuto.ok u x)/\SlT cLit u r.gl
def AA (xb:Nat) (s:RdS):List SA:=[blk xb (NX s) 136,oT cStr 9 s.r.pls.v s.r.pls.l,oT cThing 105 s.r.ths.v s.r.ths.l,oT cPro 170 s.r.prs.v s.r.prs.l,oT cWay 172 s.r.wys.v s.r.wys.l,oT cAct 160 s.r.acs.v s.r.acs.l,
 oT cAuto 177 s.r.aus.v s.r.aus.l,roS (elOk s.r),roT cStr s.ws]
def rdr (xb:Nat) (s:RdS):SA:=star (AA xb s)
def RdTo (s s':RdS):Prop:=s'.r=s.r/\s'.kd=s.kd/\s'.ws.l <:+s.ws.l
theorem KA (w:Sl ByteArray):(w.cut 1 1 w.l.length).l <:+w.l:=by
 show(w.l.drop 1).take (w.l.length-1) <:+w.l;rw[CZ];exact List.tail_suffix _
theorem RdTo.refl (s:RdS):RdTo s s:=⟨rfl,rfl,List.suffix_refl _⟩
theorem RdTo.trans {a b c:RdS} (h1:RdTo a b) (h2:RdTo b c):RdTo a c:=⟨h2.1.trans h1.1,h2.2.1.trans h1.2.1,h2.2.2.trans h1.2.2⟩
structure RdS.ok (s:RdS):Prop where
 sz:∀y∈s.ws.l,y.size<=65536
 len:s.ws.l.length<=65537
theorem RdTo.ok {a b:RdS} (h:RdTo a b) (hz:a.ok):b.ok:=⟨fun y hy=>hz.sz y (h.2.2.subset hy),Nat.le_trans h.2.2.length_le hz.len⟩
def RdX {γ:Type} (w:World) (R:SA) (xb:Nat) (s:RdS) (spec:Option (γ×Wds)) (val:γ->Value):Ending->World->Prop:=
 RetX (β:=RdS×γ) w R pchain (fun x=>RdTo s x.1/\spec=some (x.2,x.1.ws.l)) (spec=none) (fun x=>val x.2) (fun x=>rdr xb x.1)
variable {l:Wds}
theorem Ev (h:0<l.length):BN l=some (nth l 0,l.tail):=by
 cases l with
 |nil=>simp at h
 |cons a l=>rfl
theorem Dp {r:Wds} {t:ByteArray} (h:BN l=some (t,r)):t∈l:=by
 cases l with
 |nil=>cases h
 |cons a l=>cases h;exact List.mem_cons_self
theorem NH {t:ByteArray} (h:l.length=0):isW t l=false:=by
 cases l with
 |nil=>rfl
 |cons a l=>simp at h
theorem GD {t:ByteArray} (h:0<l.length):isW t l=seq (nth l 0) t:=by
 cases l with
 |nil=>simp at h
 |cons a l=>rfl
variable {u:World} {xb:Nat} {s:RdS}
theorem Jce (h:St n0 w0 (rdr xb s::L) u):SlT cStr u s.r.pls:=Bk (St.unpack (L1:=AA xb s) h) (j:=1) rfl fun _ _=>trivial
theorem Jd4 (h:St n0 w0 (rdr xb s::L) u):SlT cPro u s.r.prs:=Bk (St.unpack (L1:=AA xb s) h) (j:=3) rfl (((St.unpack (L1:=AA xb s) h).ro (j:=7) rfl:elOk s.r u).1)
theorem Jbc (h:St n0 w0 (rdr xb s::L) u):SlT cStr u s.ws:=(St.unpack (L1:=AA xb s) h).ro (j:=8) rfl
variable {w:World}
theorem Hh (R:SA) (xb:Nat) (s:RdS) (hu:St w.heap.size w [rdr xb s,R] u):
  Calls prog 156 #[.pointer (some ⟨xb,0,none⟩)] u (RdX w R xb s (BN s.ws.l) .string):=by
 have hw:=Jbc hu;refine Ei hu func156 ?_;refine CS.unpack (L1:=AA xb s) ?_;refine Nz 1 ?_;refine Nx 3 ?_;refine Wk 0 (Ba 0) ?_;refine Wk 1 (Nc (s:=s.ws)) ?_;refine WS.callP rfl rfl Cp (Ci _) (fun _=>rfl) (fun hq u hu=>And.intro rfl (Or.inr ⟨by simp at hq;rw[hq];rfl,rfl,hu.sel [9] rfl⟩)) ?_;rintro⟨⟩ hm;have hl:0<s.ws.l.length:=by simpa using hm
 have hoc:(sub2 1 s.ws.v 1 s.ws.l.length).oneCell'=true:=Sl.one (hw.cut (lo:=1) (hi:=s.ws.l.length) (by omega) (Nat.le_refl _));refine Nx 3 ?_;refine Wk 0 (Ba 0) ?_;refine Wk 0 (Xc (s:=s.ws)) ?_;refine Wk 1 (Vb 8 rfl (s:=s.ws)) ?_;refine Nx 4 ?_;refine Wk 0 (Ba 0) ?_;refine Wk 2 (Bf sl23 rfl rfl hw.sp (by decide) (by omega)) ?_;refine Ws 0 0 ?_;refine Nx 2 ?_;refine Wd (Qc (Cr ?_));refine QS.sel [8,0,0,0,0,0,0,0,0,0] rfl ?_;refine QS.weak (fun u hu=>St.roCut (lo:=1) (hi:=s.ws.l.length) hu (by omega) (Nat.le_refl _)) ?_;refine QS.sel [1,1,1,1,1,1,1,1,0,0] rfl ?_;exact out1 rfl rfl (fun u hu=>.inl ⟨({s with ws:=s.ws.cut 1 1 s.ws.l.length},nth s.ws.l 0),⟨⟨rfl,rfl,KA s.ws⟩,by rw[Ev hl];exact congrArg _ (congrArg _ (CZ _).symm)⟩,rfl,St.pack (L1:=AA xb {s with ws:=s.ws.cut 1 1 s.ws.l.length}) hu⟩)
theorem Fa (R:SA) (xb:Nat) (s:RdS) (hu:St w.heap.size w [rdr xb s,R] u) (t:ByteArray):
  Calls prog 159 #[.pointer (some ⟨xb,0,none⟩),.string t] u (RdX w R xb s (some (isW t s.ws.l,if isW t s.ws.l then s.ws.l.tail else s.ws.l)) .bool):=by
 have hw:=Jbc hu;refine Ei hu func159 ?_;refine CS.unpack (L1:=AA xb s) ?_;refine Nz 1 ?_;refine Nv 3 ?_;refine Wk 0 (Ba 0) ?_;refine Wk 2 (Nc (s:=s.ws)) ?_;refine We 0 ?_;refine We 0 ?_;refine We 0 ?_;refine We 0 ?_;refine Wf 0 rfl rfl (fun hg=>Xc (s:=s.ws)) ?_;refine Wf 0 rfl rfl (fun hg=>Vb 8 rfl (s:=s.ws)) ?_;refine We 0 ?_;refine Wf 0 rfl rfl (fun hg=>A3 (eg_ hg rfl) (eg_ hg rfl)) ?_;refine Wk 0 Po ?_;refine Wp ?_ ?_<;>intro hc1
 ·have hno:isW t s.ws.l=false:=by
   rcases Nat.eq_zero_or_pos s.ws.l.length with h0|h0
   ·exact NH h0
   rw[GD h0];rcases hc1 with h|h
   ·omega
   exact h
  refine Nz 1 ?_;exact Wd (Qc (Cr (Qr (out1 rfl rfl (fun u hu=>.inl ⟨(s,false),⟨RdTo.refl s,by rw[hno];rfl⟩,rfl,St.pack (L1:=AA xb s) hu⟩)))))
 have hl:0<s.ws.l.length:=by omega
 have hyes:isW t s.ws.l=true:=by rw[GD hl];exact hc1.2
 have hoc:(sub2 1 s.ws.v 1 s.ws.l.length).oneCell'=true:=Sl.one (hw.cut (lo:=1) (hi:=s.ws.l.length) (by omega) (Nat.le_refl _));refine Ck (Qc (Nz 4 ?_));refine Wk 0 (Ba 0) ?_;refine Wk 2 (Bf sl23 rfl rfl hw.sp (by decide) (by omega)) ?_;refine Ws 0 0 ?_;refine Nx 1 ?_;refine Wd (Qc (Cr ?_));refine QS.sel [8,0,0,0,0,0,0,0,0,0] rfl ?_;refine QS.weak (fun u hu=>St.roCut (lo:=1) (hi:=s.ws.l.length) hu (by omega) (Nat.le_refl _)) ?_;refine QS.sel [1,1,1,1,1,1,1,1,0,0] rfl ?_;exact out1 rfl rfl (fun u hu=>.inl ⟨({s with ws:=s.ws.cut 1 1 s.ws.l.length},true),⟨⟨rfl,rfl,KA s.ws⟩,by rw[hyes];exact congrArg _ (congrArg _ (CZ _).symm)⟩,rfl,St.pack (L1:=AA xb {s with ws:=s.ws.cut 1 1 s.ws.l.length}) hu⟩)
theorem Jo (R:SA) (xb:Nat) (s:RdS) (hu:St w.heap.size w [rdr xb s,R] u) (g:Sl ByteArray) (hG:GOk w g) (hz:s.ok):
  Calls prog 158 #[.pointer (some ⟨xb,0,none⟩)] u (RdX w R xb s (CL s.ws.l) .string):=by
 refine Ei hu func158 ?_;refine Nz 1 ?_;refine Nx 1 ?_;refine WS.callP rfl rfl Hf (fun u hu=>Hh R xb s hu) (fun _=>rfl) (fun hq u hu=>And.intro rfl (Or.inr ⟨by simp only[CL,hq];rfl,rfl,hu⟩)) ?_;rintro⟨s1,t⟩ ⟨h1,hn⟩;have hz1:(t.size:Int)<=9223372036854775806:=by have:=hz.sz t (Dp hn);omega
 refine Wz 1 ?_;refine Nx 1 ?_;refine Wk 0 (Cb rfl rfl Jy (fun u hu=>Jc t u g (hG.st hu) hz1)) ?_;refine WS.callP rfl rfl Cp (Ci _) (fun _=>rfl) (fun hq u hu=>And.intro rfl (Or.inr ⟨by simp[CL,hn,hq],rfl,hu.sel [1] rfl⟩)) ?_;rintro⟨⟩ hm;refine Nx 2 ?_;exact Wd (Qc (Cr (out1 rfl rfl (fun u hu=>.inl ⟨(s1,t),⟨h1,by simp[CL,hn,hm]⟩,rfl,hu⟩))))
theorem QV (R:SA) (xb:Nat) (s:RdS) (hu:St w.heap.size w [rdr xb s,R] u) (g:Sl ByteArray) (hG:GOk w g) (hz:s.ok):
  Calls prog 236 #[.pointer (some ⟨xb,0,none⟩),s.r.pls.v,.func (.func 170) #[] #[]] u (RdX w R xb s (A8 id s.r.pls.l s.ws.l) (.int .i64)):=by
 refine Ei hu func236 ?_;refine Nz 1 ?_;refine Nx 2 ?_;refine WS.callP rfl rfl JH (fun u hu=>Jo R xb s hu g hG hz) (fun _=>rfl) (fun hq u hu=>And.intro rfl (Or.inr ⟨by simp only[A8,hq];rfl,rfl,hu⟩)) ?_;rintro⟨s1,t⟩ ⟨h1,hn⟩;refine Wz 1 ?_;refine Wk 1 (Cb rfl rfl XC (fun u hu=>LW s.r.pls t u (h1.1▸Jce hu))) ?_;refine Nx 2 ?_;refine WS.callP rfl rfl Cp (Ci _) (fun _=>rfl) (fun hq u hu=>And.intro rfl (Or.inr ⟨by simp[A8,hn];simp at hq;simpa [idxN]using hq,rfl,hu.sel [1] rfl⟩)) ?_;rintro⟨⟩ hm;refine Nx 2 ?_;exact Wd (Qc (Cr (out1 rfl rfl (fun u hu=>.inl ⟨(s1,idxN id s.r.pls.l t),⟨h1,by simp[A8,hn];simp at hm;simpa [idxN]using hm⟩,rfl,hu⟩))))
theorem SH (R:SA) (xb:Nat) (s:RdS) (hu:St w.heap.size w [rdr xb s,R] u) (g:Sl ByteArray) (hG:GOk w g) (hz:s.ok):
  Calls prog 238 #[.pointer (some ⟨xb,0,none⟩),s.r.prs.v,.func (.func 174) #[] #[]] u (RdX w R xb s (A8 Pro.nm s.r.prs.l s.ws.l) (.int .i64)):=by
 refine Ei hu func238 ?_;refine Nz 1 ?_;refine Nx 2 ?_;refine WS.callP rfl rfl JH (fun u hu=>Jo R xb s hu g hG hz) (fun _=>rfl) (fun hq u hu=>And.intro rfl (Or.inr ⟨by simp only[A8,hq];rfl,rfl,hu⟩)) ?_;rintro⟨s1,t⟩ ⟨h1,hn⟩;refine Wz 1 ?_;refine Wk 1 (Cb rfl rfl Xz (fun u hu=>OV s.r.prs t u (h1.1▸Jd4 hu))) ?_;refine Nx 2 ?_;refine WS.callP rfl rfl Cp (Ci _) (fun _=>rfl) (fun hq u hu=>And.intro rfl (Or.inr ⟨by simp[A8,hn];simp at hq;simpa [idxN]using hq,rfl,hu.sel [1] rfl⟩)) ?_;rintro⟨⟩ hm;refine Nx 2 ?_;exact Wd (Qc (Cr (out1 rfl rfl (fun u hu=>.inl ⟨(s1,idxN Pro.nm s.r.prs.l t),⟨h1,by simp[A8,hn];simp at hm;simpa [idxN]using hm⟩,rfl,hu⟩))))
theorem Gk (R:SA) (xb:Nat) (s:RdS) (hu:St w.heap.size w [rdr xb s,R] u) (g:Sl ByteArray) (hG:GOk w g) (hz:s.ok):
  Calls prog 160 #[.pointer (some ⟨xb,0,none⟩)] u (RdX w R xb s (A8 id s.r.pls.l s.ws.l) (.int .i64)):=by
 refine Ei hu func160 ?_;refine CS.unpack (L1:=AA xb s) ?_;refine Nz 1 ?_;refine Nx 5 ?_;refine Wk 0 (Ba 0) ?_;refine WS.callP rfl rfl Jfz (fun u hu=>QV R xb s (St.pack (L1:=AA xb s) hu) g hG hz) (fun _=>rfl) (fun hq u hu=>And.intro rfl (Or.inr ⟨hq,rfl,hu⟩)) ?_;rintro⟨s1,i⟩ ⟨h1,hn⟩;refine Wz 1 ?_;exact Wd (Qc (Cr (out1 rfl rfl (fun u hu=>.inl ⟨(s1,i),⟨h1,hn⟩,rfl,hu⟩))))
def RetN (w:World) (spec:Option Int):Ending->World->Prop:=fun e u'=>(∃n,spec=some n/\e = .returned (.int .i64 n)/\Below w.heap.size w u')\/(spec=none/\e = .panicked pchain/\Below w.heap.size w u')
variable {f:FuncId} {args:Array Value}
theorem RetN.st (hu:St n0 w0 L u) {spec:Option Int} (h:Calls prog f args u (RetN u spec)):
  Calls prog f args u (fun e u'=>(∃n:Int,spec=some n/\e = .returned (.int .i64 n)/\St n0 w0 L u')\/(spec=none/\e = .panicked pchain/\St n0 w0 L u')):=by
 refine h.mono ?_;rintro e u' (⟨n,h1,rfl,h2⟩|⟨h1,rfl,h2⟩)
 ·exact .inl ⟨n,h1,rfl,hu.ext h2⟩
 exact .inr ⟨h1,rfl,hu.ext h2⟩
theorem XB (t:ByteArray):(decide ((1:Int)<=t.size)&&decide ((t.size:Int)<=2)&&seq ⟨(Lib.trimS (bl t) decL).toArray⟩ ⟨#[]⟩&&(decide (byt t 0≠48)||seq t ⟨#[48]⟩))=(AB t 2&&(!decide (byt t 0=48)||seq t ⟨#[48]⟩)):=by
 rw[HJ,decide_not];rfl
theorem Wo {t:ByteArray} (h:(AB t 2&&(!decide (byt t 0=48)||seq t ⟨#[48]⟩))=true):AB t 2=true/\numB 2 t=some (numL (bl t)):=by
 simp only[Bool.and_eq_true,Bool.or_eq_true,Bool.not_eq_true',decide_eq_false_iff_not]at h;refine⟨h.1,GC h.1 fun h3=>?_⟩;have:=EQ h3 (Ef h.1).1;rcases h.2 with h2|h2
 ·exact absurd h3 h2
 rw[h2]at this;simpa using this.symm
theorem ZO {t:ByteArray} (h:(AB t 2&&(!decide (byt t 0=48)||seq t ⟨#[48]⟩))=false):numB 2 t=none:=by
 cases hd:AB t 2 with
 |false=>exact Eh (.inl hd)
 |true=>
  rw[hd]at h;simp only[Bool.true_and,Bool.or_eq_false_iff,Bool.not_eq_false',decide_eq_true_eq]at h;have:=EQ h.1 (Ef hd).1;rw[h.2]at this;exact Eh (.inr ⟨h.1,by simpa using this.symm⟩)
theorem Eu (t0:ByteArray) (w:World) (ht:(t0.size:Int)<=1000000):
  Calls prog 161 #[.string t0] w (RetN w (numB 2 t0)):=by
 refine En func161 ?_;refine Nz 1 ?_;refine Nx 1 ?_;refine Wk 0 (Al underlying9 rfl) ?_;refine Wk 1 (Cb rfl rfl Cy (fun u hu=>Bq _ _ _ u)) ?_;refine Wj 0 ?_;refine Wt 0 rfl rfl (fun hg=>Cb rfl (ec_ (eg_ hg rfl) (ec_ rfl en_)) UM (fun u hu=>Uh t0 u (by omega))) ?_;refine Wt 0 rfl rfl (fun hg=>Ah (eg_ hg rfl) rfl) ?_;refine Wk 1 Pa ?_;refine Wj 0 ?_;refine Wt 0 rfl rfl (fun hg=>An underlying9 (eg_ hg rfl) rfl (by decide) (by simp at hg;omega)) ?_;refine Wj 0 ?_;refine Wt 0 rfl rfl (fun hg=>Fm (eg_ hg rfl)) ?_;refine Wn 0 rfl rfl rfl (fun hg=>Fm) ?_;refine Wn 0 rfl rfl rfl (fun hg=>Ah (eg_ hg rfl) rfl) ?_;refine Wt 0 rfl rfl (fun hg=>D1 (eg_ hg rfl) (KD hg rfl) rfl) ?_;refine Wk 0 Pa ?_;refine WS.callP rfl rfl Cp (Ci _) (fun _=>rfl) (fun hq u hu=>And.intro rfl (Or.inr ⟨ZO ((XB t0).symm.trans hq),rfl,hu.below⟩)) ?_;rintro⟨⟩ hm;obtain⟨hd,hyes⟩:AB t0 2=true/\numB 2 t0=some (numL (bl t0)):=Wo ((XB t0).symm.trans hm);refine Nx 1 ?_;refine Wk 5 (Cb rfl rfl Su (fun u hu=>SN t0 u (most:=2) hd (by decide))) ?_;refine Nx 1 ?_;refine Wk 0 (HY (by kernel_rfl) rfl) ?_;refine WS.callP rfl rfl Cp (Ci _) (fun _=>rfl) (fun hq u hu=>absurd hq (by simp)) ?_;rintro⟨⟩ hm2;refine Nx 2 ?_;exact Wd (Qc (Cr (out1 rfl rfl (fun u hu=>.inl ⟨_,hyes,rfl,hu.below⟩))))
theorem SF (r:Int) (w:World) (hv:(0<=r/\r<55296)\/(57343<r/\r<=1114111)):
  Calls prog 307 #[.int .i32 r] w fun e w'=>e = .returned (.bool true)/\w'=w:=by
 rcases hv with h|h
 ·have h1:=h.1;have h2:=h.2;clear h
  go_enter func307,Tryz.ntmps307
  go_wp2
  go_ret
  exact⟨rfl,rfl⟩
 have h1:=h.1;have h2:=h.2;clear h;have h3:¬r<55296:=by omega
 have h4:0<=r:=by omega
 go_enter func307,Tryz.ntmps307
 go_wp2
 go_ret
 exact⟨rfl,rfl⟩
theorem H6 (h:Ent prog f):∀args w,(callFunc f args).run prog w = .ok (.enter f args) w:=fun a w=>h a w
set_option maxHeartbeats 4000000 in
theorem Jau (r:Int) (w:World) (hv:(0<=r/\r<55296)\/(57343<r/\r<=1114111)) (h128:128<=r) (hne:r≠65533) (hsz:(Utf8.encode r).size≠2):
  Calls prog 251 #[.string ⟨#[61,33]⟩,.int .i32 r] w fun e w'=>e = .returned (.int .i64 (-1))/\Below w.heap.size w w':=by
 have hva:Utf8.valid r=true:=by rw[validRune_eq];exact decide_eq_true hv
 obtain⟨s1,s2,s3⟩:=encode_facts r hva h128;have e204:=H6 Yo;have HV:Aside ((0<=r/\r<55296)\/(57343<r/\r<=1114111)):=hv;clear hv hva;have h1:¬r<128:=by omega
 have h0:0<=r:=by omega
 obtain⟨rs,hrs⟩:∃rs,Utf8.encode r=rs:=⟨_,rfl⟩;rw[hrs]at s1 s2 s3 hsz;have hl:(rs.size:Int)-1=((rs.size-1:Nat):Int):=by omega
 have h3:¬((rs.size-1:Nat):Int)<2:=by omega
 clear s3
 go_enter func251,Tryz.ntmps251
 go_wp2_with (go_at_fn 307;refine(SF _ _ HV.out).mono ?_;rintro e w' ⟨rfl,hw⟩;rw[hw])
 have t21:=underlying21;have t9:=underlying9;refine wp_scope_straight ?_
 go_wp2
 refine wp_loop_once ?_
 go_wp2
 simp only[Exit.noGoto]
 go_ret
 exact⟨rfl,Below.refl _ _⟩
set_option maxHeartbeats 4000000 in
theorem ZQ (r:Int) (w:World) (hv:(0<=r/\r<55296)\/(57343<r/\r<=1114111)) (h128:128<=r) (hne:r≠65533) (hsz:(Utf8.encode r).size=2):
  Calls prog 251 #[.string ⟨#[61,33]⟩,.int .i32 r] w fun e w'=>e = .returned (.int .i64 (-1))/\Below w.heap.size w w':=by
 have hva:Utf8.valid r=true:=by rw[validRune_eq];exact decide_eq_true hv
 obtain⟨s1,s2,s3⟩:=encode_facts r hva h128;have e204:=H6 Yo;have HV:Aside ((0<=r/\r<55296)\/(57343<r/\r<=1114111)):=hv;clear hv hva;have h1:¬r<128:=by omega
 have h0:0<=r:=by omega
 obtain⟨rs,hrs⟩:∃rs,Utf8.encode r=rs:=⟨_,rfl⟩;rw[hrs]at s1 s2 s3 hsz;have e1:rs.size-1=1:=by omega
 have s4:128<=(rs[1]'(by omega)).toNat:=by have:=s3 (by omega);simpa [e1]using this
 obtain⟨y,hy⟩:∃y,rs[1]'(by omega)=y:=⟨_,rfl⟩;rw[hy]at s4;have e203:=H6 Jb6;clear s3 e1;have hl:(rs.size:Int)-1=1:=by omega
 have hsz1:(1:Int)<rs.size:=by omega
 have hgt:rs.get! 1=y:=by rw[<-hy];exact get_at rs 1 (by omega)
 go_enter func251,Tryz.ntmps251
 go_wp2_with (go_at_fn 307;refine(SF _ _ HV.out).mono ?_;rintro e w' ⟨rfl,hw⟩;rw[hw])
 have t21:=underlying21;have t9:=underlying9;refine wp_scope_straight ?_
 go_wp2
 refine wp_loop_once ?_
 go_wp2
 refine wp_scope_straight ?_
 go_wp2
 have hq:((33:Int) != (y.toNat:Int))=true:=by simp;omega
 have hz2:(⟨#[61,33]⟩:ByteArray).size=2:=rfl;have h33:((⟨#[61,33]⟩:ByteArray)[1]'(by decide))=(33:UInt8):=rfl
 go_region
 go_wp2
 have mixed:prog.follows .mixedOrders=true:=by kernel_rfl
 have hem:Lib.indexByte [] y = -1:=rfl;have hw2:IntKind.i64.wrap 2=2:=by decide
 have hx2:(⟨#[61,33]⟩:ByteArray).extract 2 2=ByteArray.empty:=by decide
 refine wp_region_still_lit mixed (by kernel_rfl) ?_
 repeat still_step
 still_call (Tryz.strings_IndexByte _ _ _)
 repeat still_step
 refine wpStill_nil ?_
 go_wp2
 show bodyPost prog Tryz.f251 (fun e w'=>e=Ending.returned (Value.int IntKind.i64 (-1))/\Below w.heap.size w w') .ret _ _
 go_ret
 exact⟨rfl,((Below.refl _ w).drew).drew⟩
theorem JM (w:World) (s:ByteArray) (pos:Nat):Below w.heap.size w (w.iter s pos):=((Below.refl _ w).alloc (Nat.le_refl _) _)
set_option maxHeartbeats 4000000 in
theorem Y5 (w:World):Calls prog 251 #[.string ⟨#[61,33]⟩,.int .i32 65533] w fun e w'=>e = .returned (.int .i64 (-1))/\Below w.heap.size w w':=by
 have h0:∀ty,_:=fun ty=>run_next_ascii (P:=prog) w ⟨#[61,33]⟩ 0 ty (by decide) (by decide);have h1:∀ty,_:=fun ty=>run_next_ascii (P:=prog) w ⟨#[61,33]⟩ 1 ty (by decide) (by decide);have h2:=run_next_end (P:=prog) w ⟨#[61,33]⟩ 2
 go_enter func251,Tryz.ntmps251
 go_wp2
 have h2':=fun ty=>h2 ty (by decide);refine wp_loop_rounds 3 ?_;rw[rounds_succ]
 go_wp2
 show Code.rounds _ _ _ _ _ _;rw[rounds_succ]
 go_wp2
 show Code.rounds _ _ _ _ _ _;rw[rounds_succ]
 go_wp2
 go_ret
 exact⟨rfl,JM _ _ _⟩
def E5 (r:Int):Int:=if r=61 then 0 else if r=33 then 1 else -1
theorem S6 (r:Int) (w:World) (h0:0<=r) (hv:(0<=r/\r<55296)\/(57343<r/\r<=1114111)):
  Calls prog 251 #[.string ⟨#[61,33]⟩,.int .i32 r] w fun e w'=>e = .returned (.int .i64 (E5 r))/\Below w.heap.size w w':=by
 by_cases h1:r<128
 ·refine(Tryz.strings_IndexRune_ascii ⟨#[61,33]⟩ r w h0 h1).mono ?_;rintro e w' ⟨rfl,rfl⟩;refine⟨?_,Below.refl _ _⟩;have h2:∀n:Nat,n<128->Lib.indexByte [61,33] n.toUInt8=E5 n:=by decide
  have:=h2 r.toNat (by omega);rw[show((r.toNat:Nat):Int)=r by omega]at this;exact congrArg _ (congrArg _ this)
 have e:E5 r = -1:=by unfold E5;rw[if_neg (by omega),if_neg (by omega)]
 rw[e]
 by_cases h2:r=65533
 ·subst h2;exact Y5 w
 by_cases h3:(Utf8.encode r).size=2
 ·exact ZQ r w hv (by omega) h2 h3
 exact Jau r w hv (by omega) h2 h3
theorem NB (s:ByteArray) (pos:Nat) (h:pos<s.size) (ha:128<=(s.get! pos).toNat):
  (((Utf8.decode s pos).1<55296)\/(57343<(Utf8.decode s pos).1/\(Utf8.decode s pos).1<=1114111))/\128<=(Utf8.decode s pos).1/\1<=(Utf8.decode s pos).2/\
   ∀k,0<k->k<(Utf8.decode s pos).2->128<=(s.get! (pos+k)).toNat:=by
 have hn:¬(s.get! (pos+0)).toNat<128:=by simpa using ha
 have hb:∀k,(s.get! (pos+k)).toNat<256:=fun k=>(s.get! (pos+k)).toNat_lt;have h0:=hb 0;have h1:=hb 1;have h2:=hb 2;have h3:=hb 3;simp only[Utf8.decode,hn,if_false];split
 ·rename_i hc;simp only[Bool.and_eq_true,decide_eq_true_eq,beq_iff_eq]at hc;split
  ·rename_i hv;refine⟨.inl (by omega),hv,(show 1<=2 from by decide),fun k k0 k1=>?_⟩;obtain rfl:k=1:=by simp only at k1;omega
   omega
  exact⟨by decide,by decide,by decide,fun k k0 k1=>by simp only at k1;omega⟩
 split
 ·rename_i hc;simp only[Bool.and_eq_true,decide_eq_true_eq,beq_iff_eq]at hc;split
  ·rename_i hv;simp only[Bool.and_eq_true,decide_eq_true_eq,Utf8.valid,Bool.or_eq_true]at hv;refine⟨by omega,by simp only;omega,(show 1<=3 from by decide),fun k k0 k1=>?_⟩;simp only at k1;obtain rfl|rfl:k=1\/k=2:=by omega
   ·omega
   omega
  exact⟨by decide,by decide,by decide,fun k k0 k1=>by simp only at k1;omega⟩
 split
 ·rename_i hc;simp only[Bool.and_eq_true,decide_eq_true_eq,beq_iff_eq]at hc;split
  ·rename_i hv;simp only[Bool.and_eq_true,decide_eq_true_eq,Utf8.valid,Bool.or_eq_true]at hv;refine⟨by omega,by simp only;omega,(show 1<=4 from by decide),fun k k0 k1=>?_⟩;simp only at k1;obtain rfl|rfl|rfl:k=1\/k=2\/k=3:=by omega
   ·omega
   ·omega
   omega
  exact⟨by decide,by decide,by decide,fun k k0 k1=>by simp only at k1;omega⟩
 exact⟨by decide,by decide,by decide,fun k k0 k1=>by simp only at k1;omega⟩
theorem LU (wx:World) (b:Nat) (s:ByteArray) (pos:Nat) (ty:TypeId) (hb:wx.heap[b]? = some (.stringIter s pos)) (h:pos<s.size):
  (Instr.next (.pointer (some ⟨b,0,none⟩)) true ty).run prog wx = .ok (.tuple #[.bool true,.int .i64 pos,.int .i32 (Utf8.decode s pos).1]) {wx with heap:=wx.heap.setIfInBounds b (.stringIter s (pos+(Utf8.decode s pos).2))}:=by
 simp only[Instr.next,getObj,setObj,Sem.run_bind,Sem.run,hb,Result.andThen,h,if_true];simp[goInt]
theorem J9 (wx:World) (b:Nat) (s:ByteArray) (pos:Nat) (ty:TypeId) (hb:wx.heap[b]? = some (.stringIter s pos)) (h:¬pos<s.size):
  (Instr.next (.pointer (some ⟨b,0,none⟩)) true ty).run prog wx = .ok (.tuple #[.bool false]) wx:=by
 simp[Instr.next,getObj,Sem.run,hb,h]
def sgn (b:UInt8):Prop:=b=61\/b=33
def G7 (s:ByteArray) (i:Nat):Prop:=∀j b,j<i->(bl s)[j]? = some b->¬sgn b
theorem Ip:∀{l:List UInt8} {i:Nat} {b:UInt8},(∀j c,j<i->l[j]? = some c->¬sgn c)->l[i]? = some b->sgn b->DR l=i
 |[],i,b,_,h,_=>by simp at h
 |a::l,0,b,_,h,hb=>by
  simp only[List.getElem?_cons_zero,Option.some.injEq]at h;subst h;exact if_pos hb
 |a::l,i+1,b,hn,h,hb=>by
  have h0:¬sgn a:=hn 0 a (by omega) rfl;have:DR (a::l)=DR l+1:=if_neg h0;rw[this,Ip (i:=i) (fun j c hj hc=>hn (j+1) c (by omega) (by simpa using hc)) (by simpa using h) hb]
theorem FV:∀{l:List UInt8},(∀(j:Nat) c,l[j]? = some c->¬sgn c)->DR l=l.length
 |[],_=>rfl
 |a::l,hn=>by
  have h0:¬sgn a:=hn 0 a rfl;have:DR (a::l)=DR l+1:=if_neg h0;rw[this,FV (fun j c hc=>hn (j+1) c (by simpa using hc))];rfl
variable {i:Nat}
theorem Jar {s:ByteArray} (h:i<s.size):(bl s)[i]? = some (s.get! i):=by
 have:s.get! i=s[i]'h:=by simpa using get_at s i h
 rw[this];exact Lib.data_getElem? s i h
theorem Tg {s:ByteArray} {b:UInt8} (h:(bl s)[i]? = some b):i<s.size:=by
 have:=(List.getElem?_eq_some_iff.1 h).1;rw[Lib.size_eq];exact this
theorem LK {s:ByteArray} (h:G7 s s.size):(if AJ s<s.size then(AJ s:Int)else -1) = -1:=by
 have:AJ s=s.size:=by rw[Lib.size_eq];exact FV fun j c hc=>h j c (Tg hc) hc
 rw[if_neg (by omega)]
theorem Ni {s:ByteArray} (hi:i<s.size) (h:G7 s i) (hb:sgn (s.get! i)):(if AJ s<s.size then(AJ s:Int)else -1)=i:=by
 have:AJ s=i:=Ip h (Jar hi) hb;rw[if_pos (by omega),this]
theorem TC (s:ByteArray) (i:Nat) (hi:i<s.size):
  (((Utf8.decode s i).1<55296)\/(57343<(Utf8.decode s i).1/\(Utf8.decode s i).1<=1114111))/\1<=(Utf8.decode s i).2/\
   ((0<=E5 (Utf8.decode s i).1/\sgn (s.get! i))\/(E5 (Utf8.decode s i).1<0/\(G7 s i->G7 s (i+(Utf8.decode s i).2)))):=by
 by_cases h128:(s.get! i).toNat<128
 ·have hg:s[i]'hi=s.get! i:=by have:=get_at s i hi;simpa using this.symm
  rw[decode_ascii s i hi (by rw[hg];exact h128),hg];refine⟨.inl (by simp only;omega),by simp,?_⟩
  by_cases h1:sgn (s.get! i)
  ·refine .inl ⟨?_,h1⟩;rcases h1 with h1|h1<;>rw[h1]<;>decide
  refine .inr ⟨?_,fun hn j b hj hb=>?_⟩
  ·have e:∀b:UInt8,¬sgn b->E5 (b.toNat:Nat)<0:=fun b hb=>by
    unfold E5;have h2:b.toNat≠61:=fun h=>hb (.inl (UInt8.toNat_inj.1 h));have h3:b.toNat≠33:=fun h=>hb (.inr (UInt8.toNat_inj.1 h));rw[if_neg (by omega),if_neg (by omega)];decide
   exact e _ h1
  by_cases hji:j=i
  ·subst hji;rw[Jar hi]at hb;cases hb;exact h1
  exact hn j b (by simp only at hj;omega) hb
 obtain⟨h1,h2,h3,h4⟩:=NB s i hi (by omega);refine⟨h1,h3,.inr ⟨?_,fun hn j b hj hb=>?_⟩⟩
 ·unfold E5;rw[if_neg (by omega),if_neg (by omega)];decide
 have hs:∀b:UInt8,128<=b.toNat->¬sgn b:=fun b h hb=>by rcases hb with rfl|rfl<;>revert h<;>decide
 by_cases hji:j<i
 ·exact hn j b hji hb
 have hjs:=Tg hb;rw[Jar hjs]at hb;cases hb
 apply hs
 by_cases he:j=i
 ·subst he;omega
 have:=h4 (j-i) (by omega) (by omega)
 rwa [show i+(j-i)=j by omega]at this
theorem Vh {wr:World} (o:Obj) (h:Below w.heap.size w wr):Below w.heap.size w {wr with heap:=wr.heap.setIfInBounds w.heap.size o}:=
 ⟨h.1,h.2,h.3,by simpa using h.size,fun k hk=>by
  have:=h.5 k hk;rw[<-this]
  exact Array.getElem?_setIfInBounds_ne (by omega)⟩
theorem Mt {wr w2:World} {o:Obj} (h:Below w.heap.size w wr) (hb:Below (wr.heap.setIfInBounds w.heap.size o).size {wr with heap:=wr.heap.setIfInBounds w.heap.size o} w2):Below w.heap.size w w2:=
 (Vh o h).trans (hb.mono (by have:=h.size;simpa using this))
theorem YD {wr w2:World} {o o':Obj} (hob:wr.heap[w.heap.size]? = some o') (hb:Below (wr.heap.setIfInBounds w.heap.size o).size {wr with heap:=wr.heap.setIfInBounds w.heap.size o} w2):w2.heap[w.heap.size]? = some o:=by
 have h1:w.heap.size<wr.heap.size:=(Array.getElem?_eq_some_iff.1 hob).1;have:=hb.5 w.heap.size (by simpa using h1);rw[this];exact Array.getElem?_setIfInBounds_self_of_lt h1
set_option maxHeartbeats 8000000 in
theorem RM (s:ByteArray) (w:World) (h8:s.size<=8):
  Calls prog 179 #[.string s,.string ⟨#[61,33]⟩] w fun e w'=>e = .returned (.int .i64 (if AJ s<s.size then(AJ s:Int)else -1))/\Below w.heap.size w w':=by
 have h8z:decide ((8:Int)<(s.size:Int))=false:=decide_eq_false (by omega);have e172:=H6 Jfe;have e171:=H6 Jf2;obtain⟨ans,hans⟩:∃a,(if AJ s<s.size then(AJ s:Int)else -1)=a:=⟨_,rfl⟩;rw[hans];have HA:Aside ((if AJ s<s.size then(AJ s:Int)else -1)=ans):=hans;clear hans
 go_enter func179,Tryz.ntmps179
 go_wp2_with (go_at_fn 252;refine(Tryz.strings_shouldUseASCIISet _ _).mono ?_;rintro e w' ⟨rfl,hw⟩;rw[hw,h8z])
 go_loopg [9,10] s.size (fun g _ _ wx=>∃i:Nat,g=s.size-i/\wx.heap[w.heap.size]? = some (.stringIter s i)/\Below w.heap.size w wx/\G7 s i)
 case atStart=>exact⟨0,by omega,World.iter_heap _ _ _,JM _ _ _,fun j b hj=>absurd hj (by omega)⟩
 case round=>
  obtain⟨i,hig,hob,hbe,hno⟩:=hrel;have HN:Aside (Below w.heap.size w wr/\G7 s i):=⟨hbe,hno⟩;have HO:Aside (wr.heap[w.heap.size]? = some (.stringIter s i)):=hob
  by_cases hi:i<s.size
  ·obtain⟨h1,h2,h3⟩:=TC s i hi;have hnx:=fun ty=>LU wr w.heap.size s i ty hob hi;obtain⟨d,hd⟩:∃d,Utf8.decode s i=d:=⟨_,rfl⟩;rw[hd]at h1 h2 h3 hnx;obtain⟨r,n⟩:=d;simp only at h1 h2 h3 hnx;have H1:Aside ((r<55296)\/(57343<r/\r<=1114111)):=h1;clear h1 hno hbe hob hd;rcases h3 with⟨hs,hb⟩|⟨hs,hn⟩
   ·have Hb:Aside (sgn (s.get! i)):=hb;clear hb
    go_wp2_with (go_at_fn 251;refine(S6 _ _ (by omega) (by have:=H1.out;omega)).mono ?_;rintro e w2 ⟨rfl,hw⟩)
    go_ret
    exact⟨congrArg _ (congrArg _ ((Ni hi HN.out.2 Hb.out).symm.trans HA.out)),Mt HN.out.1 hw⟩
   have HD:Aside (G7 s i->G7 s (i+n)):=hn;clear hn;have hs':¬(0:Int)<=E5 r:=by omega
   clear hs
   go_wp2_with (go_at_fn 251;refine(S6 _ _ (by omega) (by have:=H1.out;omega)).mono ?_;rintro e w2 ⟨rfl,hw⟩)
   go_roundg (s.size-(i+n))
   case measure=>omega
   case rel=>exact⟨i+n,rfl,YD HO.out hw,Mt HN.out.1 hw,HD.out HN.out.2⟩
  have hnx:=fun ty=>J9 wr w.heap.size s i ty hob hi;clear hno hbe hob
  go_wp2
  go_ret
  exact⟨congrArg _ (congrArg _ ((LK fun j b hj=>HN.out.2 j b (by omega)).symm.trans HA.out)),HN.out.1⟩
theorem KG:∀l:List UInt8,DR l<=l.length
 |[]=>Nat.le_refl _
 |a::l=>by
  have:=KG l;simp only[DR,List.length_cons];split<;>omega
theorem Gs:∀l:List UInt8,Lib.indexAny l [61,33]=if DR l<l.length then(DR l:Int)else -1
 |[]=>rfl
 |a::l=>by
  have ih:=Gs l;have hle:=KG l
  by_cases h:a=61\/a=33
  ·have e:DR (a::l)=0:=if_pos h;simp only[Lib.indexAny,e,List.length_cons];rw[if_pos (by rcases h with rfl|rfl<;>decide),if_pos (by omega)];rfl
  have e:DR (a::l)=DR l+1:=if_neg h;have hc:¬([61,33]:List UInt8).contains a=true:=by simpa using h
  show(if([61,33]:List UInt8).contains a=true then 0 else if(Lib.indexAny l [61,33] == -1)=true then -1 else Lib.indexAny l [61,33]+1)=if DR (a::l)<l.length+1 then(DR (a::l):Int)else -1
  rw[if_neg hc,ih]
  by_cases h2:DR l<l.length
  ·rw[if_pos h2,if_pos (show DR (a::l)<l.length+1 by omega),if_neg (by simp)];omega
  rw[if_neg h2,if_neg (show¬DR (a::l)<l.length+1 by omega),if_pos (by decide)]
theorem Jgf (s:ByteArray) (w:World) (hs:s.size<4294967281):
  Calls prog 179 #[.string s,.string ⟨#[61,33]⟩] w fun e w'=>e = .returned (.int .i64 (if AJ s<s.size then(AJ s:Int)else -1))/\Below w.heap.size w w':=by
 by_cases h8:s.size<=8
 ·exact RM s w h8
 refine(Tryz.strings_IndexAny_long (fun w=>by kernel_rfl) s ⟨#[61,33]⟩ w (by decide) (by omega) hs (by decide) ?_).mono ?_
 ·exact ascii_of_all (by decide)
 rintro e w' ⟨rfl,rfl⟩;refine⟨congrArg _ (congrArg _ ?_),(Below.refl _ w).alloc (Nat.le_refl _) _ |>.alloc (((Below.refl w.heap.size w).alloc (Nat.le_refl _) _).size) _⟩;rw[Gs,Lib.size_eq];rfl
theorem Zu (t:ByteArray):(bl t).length=t.size:=(Lib.size_eq t).symm
theorem VX (t:ByteArray):AJ t<=t.size:=by rw[<-Zu];exact KG _
theorem ES (t:ByteArray) (i j:Nat):(t.extract i j).size<=t.size:=by rw[ByteArray.size_extract];omega
variable {ths:List Thing}
theorem Xd {t:ByteArray} {sg:Int} (hsg:(if AJ t<t.size then(AJ t:Int)else -1)=sg) (h:(decide (0<=sg)&&Au (t.extract 0 sg.toNat))=false):litT ths t=none:=by
 unfold litT;rw[if_neg];rintro⟨h1,h2,h3⟩;rw[if_pos h1]at hsg;subst hsg;simp[h2]at h
theorem U1 {t:ByteArray} (h:decide (0<=idxN Thing.nm ths (t.extract 0 (AJ t)))=false):litT ths t=none:=by
 unfold litT;rw[if_neg];rintro⟨h1,h2,h3⟩;simp[h3]at h
theorem X8 {t:ByteArray} (h1:AJ t<t.size) (h2:Au (t.extract 0 (AJ t))=true) (h3:decide (0<=idxN Thing.nm ths (t.extract 0 (AJ t)))=true):
  litT ths t=(numB 2 (t.extract (AJ t+1) t.size)).map fun n=>⟨idxN Thing.nm ths (t.extract 0 (AJ t)),n,decide (byt t (AJ t)=33)⟩:=by
 unfold litT;rw[if_pos ⟨h1,h2,by simpa using h3⟩]
theorem Jfu (R:SA) (xb:Nat) (s:RdS) (hu:St w.heap.size w [rdr xb s,R] u) (t0:ByteArray) (g:Sl ByteArray) (hG:GOk w g) (hz:s.ok) (ht:t0.size<=65536):
  Calls prog 166 #[.pointer (some ⟨xb,0,none⟩),.string t0] u (RdX w R xb s ((litT s.r.ths.l t0).map fun a=>(a,s.ws.l)) (fun a=>.agg (cLit.cells a).toArray)):=by
 refine Ei hu func166 ?_;refine CS.unpack (L1:=AA xb s) ?_;obtain⟨sg,hsg⟩:∃i:Int,(if AJ t0<t0.size then(AJ t0:Int)else -1)=i:=⟨_,rfl⟩;refine Nz 0 ?_;refine Wq 0 Cu fun b4 hb4=>?_;refine Nx 1 ?_;refine Wk 1 (Cb rfl rfl X9 (fun u hu=>hsg▸Jgf t0 u (by omega))) ?_;refine Nx 3 ?_;refine Wj 0 ?_;refine Wj 0 ?_;refine Wt 0 rfl rfl (fun hg=>C5 underlying9 (eg_ hg rfl) (eg_ hg rfl) (by have:=VX t0;simp only[bq]at hg;split at hsg<;>omega)) ?_;refine Wt 0 rfl rfl (fun hg=>Cb rfl (ec_ (eg_ hg rfl) en_) Jy (fun u hu=>Jc _ u g (hG.st hu) (by have:=ES t0 0 sg.toNat;omega))) ?_;refine Wk 0 Pa ?_;refine WS.callP rfl rfl Cp (Ci _) (fun _=>rfl) (fun hq u hu=>And.intro rfl (Or.inr ⟨by rw[Xd hsg hq];rfl,rfl,hu.sel [10] rfl⟩)) ?_;rintro⟨⟩ hm;simp only[bq]at hm
 have hlt:AJ t0<t0.size:=by
  split at hsg
  ·assumption
  omega
 rw[if_pos hlt]at hsg;subst hsg;refine Wd (Qc (Cs (Dr mixed 4 ?_)));refine Dk 2 (Ba 1) ?_;refine Dk 0 (C5 underlying9 rfl rfl (by omega)) ?_;refine Dk 1 (Cb rfl rfl Yn (fun u hu=>PS s.r.ths _ u (Bk hu (j:=3) rfl fun _ _=>trivial))) ?_;refine Dd (Qc (Nz 2 ?_));refine WS.callP rfl rfl Cp (Ci _) (fun _=>rfl) (fun hq u hu=>And.intro rfl (Or.inr ⟨by rw[U1 hq];rfl,rfl,hu.sel [10] rfl⟩)) ?_;rintro⟨⟩ hm2;refine Wd (Qc (Cs ?_));refine CS.drawnTill 11 (k:=12) mixed rfl rfl ?_;refine Tr 12 [0,1,2] ?_;refine Tk 12 3 [] rfl Za ?_;refine Tk 12 4 [6,7] rfl (DH underlying9 rfl rfl (by omega)) ?_;refine Tk 12 8 [9] rfl (An underlying9 rfl rfl (by omega) (by omega)) ?_;refine To 5 rfl ?_;refine WS.callP rfl rfl Lm (fun u hu=>RetN.st hu (Eu _ u (by have:=ES t0 ((AJ t0:Int)+1).toNat t0.size;omega))) (fun _=>rfl) (fun hq u hu=>fun _ ha_ _=>And.intro ha_ (Or.inr ⟨by rw[X8 hlt hm.2 hm2,show AJ t0+1=((AJ t0:Int)+1).toNat by omega,hq];rfl,rfl,hu.sel [10] rfl⟩)) ?_;rintro n hn;refine Wd (Qt ?_);refine Tk 12 10 [] rfl (Db Hd Cu) ?_;refine To 11 rfl ?_;refine Wv 0 0 ?_;refine Wd (Qt ?_);refine Te ?_;exact Qc (Cr (outR (resc rfl (Ag (j:=0) rfl rfl M4)) (fun u hu=>.inl ⟨(s,⟨idxN Thing.nm s.r.ths.l (t0.extract 0 (AJ t0)),n,decide (byt t0 (AJ t0)=33)⟩),⟨RdTo.refl s,by rw[X8 hlt hm.2 hm2,show AJ t0+1=((AJ t0:Int)+1).toNat by omega,hn];rfl⟩,rfl,St.pack (L1:=AA xb s) (hu.sel [1,1,1,1,1,1,1,1,1,1] rfl)⟩)))
def Mg (c:List Lit):List Put:=c.map fun a=>⟨a.t,a.s⟩
theorem KS:∀c:List Lit,ED c=if c.any (·.nt)then none else some (Mg c)
 |[]=>rfl
 |a::c=>by
  by_cases ha:a.nt=true
  ·simp[ED,ha]
  by_cases h:c.any (·.nt)=true
  ·have:=KS c;rw[if_pos h]at this;simp[ED,ha,this,h]
  have:=KS c;rw[if_neg h]at this;simp[ED,ha,this,h,Mg]
theorem Qi {c:List Lit} {i:Int} (h0:0<=i) (h1:i<c.length):Mg (c.take (i+1).toNat)=Mg (c.take i.toNat)++[⟨(nth c i).t,(nth c i).s⟩]:=by
 rw[Es h0 h1,Mg,List.map_append];rfl
variable {α:Type}
def RetNF (C:Cel α) (w:World) (spec:Option (List α)):Ending->World->Prop:=fun e u'=>(∃s:Sl α,(spec=some s.l/\∃u0,SlT C u0 s)/\RetF w s.v (roT C s) e u')\/(spec=none/\e = .panicked pchain/\Below w.heap.size w u')
variable {C:Cel α}
theorem RetNF.st (hu:St n0 w0 L u) {spec:Option (List α)} (h:Calls prog f args u (RetNF C u spec)):
  Calls prog f args u (fun e u'=>(∃s:Sl α,(spec=some s.l/\∃u0,SlT C u0 s)/\e = .returned s.v/\St n0 w0 (roT C s::L) u')\/(spec=none/\e = .panicked pchain/\St n0 w0 L u')):=by
 refine h.mono ?_;rintro e u' (⟨s,h1,rfl,hb,T,hT,hk⟩|⟨h1,rfl,h2⟩)
 ·exact .inl ⟨s,h1,rfl,hu.cons hb hT hk⟩
 exact .inr ⟨h1,rfl,hu.ext h2⟩
variable {j:Nat} {v:Value}
theorem Jh9 {e:TypeId} {xs:List α} {spec:Option (List α)} (hs:spec=some xs) (hC:∀u,∀a∈xs,C.ok u a) (hj:L[j]? = some (oT C e v xs)) (hu:St w0.heap.size w0 L u):RetNF C w0 spec (.returned v) u:=
 .inl ⟨⟨v,xs⟩,⟨hs,u,Bk hu hj (hC u)⟩,retR (p:=fun u=>SlT C u ⟨v,xs⟩) (fun S u h=>⟨Star.osl hj h,hC u⟩) u hu⟩
theorem Jef [Inhabited α] {p:α->Bool} {l:List α} {n:Int} (hn:n=l.length) (h:∀j:Int,0<=j->j<n->p (nth l j)=false):l.any p=false:=by
 rw[List.any_eq_false];intro x hx;obtain⟨i,h0,h1,rfl⟩:=Bz hx;rw[h i h0 (by omega)];decide
theorem Z0 [Inhabited α] {p:α->Bool} {l:List α} {i:Int} (h0:0<=i) (h1:i<l.length) (h:p (nth l i)=true):l.any p=true:=List.any_eq_true.2 ⟨_,Ai h0 h1,h⟩
theorem X6 (c:Sl Lit) (w:World) (hk:SlT cLit w c) (hn:c.l.length<=70000):
  Calls prog 164 #[c.v] w (RetNF cPut w (ED c.l)):=by
 refine En func164 ?_;refine Nz 1 ?_;refine Nv 1 ?_;refine Wk 1 Nc ?_;refine Nu ?_;refine CS.weak (fun _ hu=>hu.osl0 (e:=175) (size:=2)) ?_;refine CS.loopM (σ:=Int×Value) (rsL [4,4,8,23]) (fun s=>[(7,.int .i64 s.1),(2,s.2)]) (fun s=>[oT cPut 175 s.2 (Mg (c.l.take s.1.toNat))]) (fun s=>0<=s.1/\s.1<=c.l.length/\∀j:Int,0<=j->j<s.1->(nth c.l j).nt=false) (fun s=>(c.l.length-s.1).toNat) (0,.slice none 0 0) (fun _ _=>rfl) rfl rfl ⟨by simp,by simp,fun j _ _=>by omega⟩ ?_;intro q t hs;obtain⟨hq1,hq2,hq3⟩:=hs;refine Nz 1 ?_;refine Wd (Qc (Cs (Cn ?_ ?_)))<;>intro hc1
 ·refine Ck (Qc (Cs (Ce (Nz 0 ?_))));refine Wk 0 Xc ?_;refine Wk 0 Ua ?_;refine Wq 0 Cu fun b4 hb4=>?_;refine Wv 0 0 ?_;refine Nx 1 ?_;refine Wk 1 (Ba 0) ?_;refine WS.callP rfl rfl Cp (Ci _) (fun _=>rfl) (fun hq u hu=>And.intro rfl (Or.inr ⟨by rw[KS,Z0 (l:=c.l) (i:=q.1) hq1 (by omega) (by simpa using hq)];rfl,rfl,hu.below⟩)) ?_;rintro⟨⟩ hm;refine Nw 2 ?_;refine Wk 1 (Ba 0) ?_;refine Wk 0 (Ba 0) ?_;refine Wk 0 (Db LT GN) ?_;refine WS.buildT1 cPut (a:=⟨(nth c.l q.1).t,(nth c.l q.1).s⟩) KP GN rfl (by decide) (fun _=>rfl) ?_;intro v21;refine WS.appendT1 (C:=cPut) (a:=⟨(nth c.l q.1).t,(nth c.l q.1).s⟩) (j:=2) (jz:=0) KP GN rfl (by decide) rfl rfl rfl rfl (w:=w) trivial (by simp[Mg];omega) (by simp[Mg];omega) (fun _=>rfl) (fun _=>rfl) ?_;intro v22 hv22;refine Wz 1 ?_;refine Wd (Qb (Qc (Ny 0 ?_)));refine Wk 1 Za ?_;refine Wd ?_;refine QS.sel [2] rfl ?_
  exact QS.head ((q.1+1,v22)) rfl (by simp only[Qi hq1 (show q.1<c.l.length by omega)]) ⟨⟨by simp;omega,by simp;omega,fun j a b=>by
   by_cases h:j=q.1
   ·subst h;simpa using hm
   exact hq3 j a (by simp at b;omega)⟩,by simp;omega⟩
 refine Cv (Qe (Qe (Qx (Qc (Nz 2 ?_)))));exact Wd (Qc (Cr (out1 rfl rfl (fun u hu=>Jh9 (by rw[KS,Jef (n:=q.1) (by omega) hq3,Q3 (by omega)];rfl) (fun _ _ _=>trivial) (j:=0) rfl hu))))
section
variable {P:Program} {ro:Option Nat} {n0:Nat} {w0:World} {ds:List Deferred} {ops:Array Oper} {Q:Exit->Act->World->Prop} {L:List SA} {rest:List Oper} {l:List Value}
theorem CS.roE {p:World->Prop} {c:Code} (hj:L[j]? = some (roS p)) (k:(∃u,p u)->CS P ro n0 w0 ds c Q L l):CS P ro n0 w0 ds c Q L l:=fun u hu=>k ⟨u,hu.ro hj⟩ u hu
theorem WS.roE {p:World->Prop} (hj:L[j]? = some (roS p)) (k:(∃u,p u)->WS P ro n0 w0 ds ops Q L rest l):WS P ro n0 w0 ds ops Q L rest l:=fun u hu=>k ⟨u,hu.ro hj⟩ u hu
theorem QS.roE {p:World->Prop} {e:Exit} (hj:L[j]? = some (roS p)) (k:(∃u,p u)->QS n0 w0 ds Q e L l):QS n0 w0 ds Q e L l:=fun u hu=>k ⟨u,hu.ro hj⟩ u hu
end
variable {Ls:List SA}
theorem St.tailPack {A:SA} (h:St n0 w0 (A::Ls) u):St n0 w0 [A,YtllebkdchemabaaGreatDoor.star Ls] u:=by
 have h1:St n0 w0 (Ls++[A]) u:=h.perm (List.perm_append_comm (l₁:=[A]) (l₂:=Ls));exact(St.pack h1).perm (.swap _ _ _)
theorem St.tailUnpack {A:SA} (h:St n0 w0 [A,YtllebkdchemabaaGreatDoor.star Ls] u):St n0 w0 (A::Ls) u:=by
 have h1:St n0 w0 (Ls++[A]) u:=St.unpack (h.perm (.swap _ _ _));exact h1.perm (List.perm_append_comm (l₁:=Ls) (l₂:=[A]))
theorem St.oneUnpack (h:St n0 w0 [YtllebkdchemabaaGreatDoor.star Ls] u):St n0 w0 Ls u:=by
 have h1:St n0 w0 (Ls++[]) u:=St.unpack h
 rwa [List.append_nil]at h1
variable {β:Type} {ch:List PanicEntry}
theorem RetX.ls {p:β->Prop} {q:Prop} {v:β->Value} {A:β->SA} (h:Calls prog f args u (RetX w (star Ls) ch p q v A)):
  Calls prog f args u (fun e u'=>(∃x,p x/\e = .returned (v x)/\St w.heap.size w (A x::Ls) u')\/(q/\e = .panicked ch/\St w.heap.size w Ls u')):=by
 refine h.mono ?_;rintro e u' (⟨x,h1,h2,h3⟩|⟨h1,h2,h3⟩)
 ·exact .inl ⟨x,h1,h2,h3.tailUnpack⟩
 exact .inr ⟨h1,h2,h3.oneUnpack⟩
theorem RetX.ls2 {p:β->Prop} {q:Prop} {v:β->Value} {A B:β->SA} (h:Calls prog f args u (RetX w (star Ls) ch p q v (fun x=>star [A x,B x]))):
  Calls prog f args u (fun e u'=>(∃x,p x/\e = .returned (v x)/\St w.heap.size w (A x::B x::Ls) u')\/(q/\e = .panicked ch/\St w.heap.size w Ls u')):=by
 refine(RetX.ls h).mono ?_;rintro e u' (⟨x,h1,h2,h3⟩|h)
 ·exact .inl ⟨x,h1,h2,h3.unpack⟩
 exact .inr h
def RdL (C:Cel α) (w:World) (R:SA) (xb:Nat) (s:RdS) (spec:Option (List α×Wds)):Ending->World->Prop:=
 RetX (β:=RdS×Sl α) w R pchain (fun x=>(RdTo s x.1/\∃u0,SlT C u0 x.2)/\spec=some (x.2.l,x.1.ws.l)) (spec=none) (fun x=>x.2.v) (fun x=>star [rdr xb x.1,roT C x.2])
variable {g:Sl ByteArray}
theorem Pk (hg:g.l=wordL) (t:ByteArray):(g.l.any fun x=>seq t x)=resB t:=by
 rw[hg];unfold resB;congr 1;funext x;exact CY _ _
variable {ws:Wds}
theorem EV (h:(0:Int)<ws.length->resB (nth ws 0)=true):BE ths ws=some ([],ws):=by
 cases ws with
 |nil=>rfl
 |cons t r=>exact if_pos (h (by simp))
theorem HF {r:Wds} {t:ByteArray} {a:Lit} (hn:BN ws=some (t,r)) (hr:resB (nth ws 0)=false) (hl:litT ths t=some a):BE ths ws=(BE ths r).map fun x=>(a::x.1,x.2):=by
 cases ws with
 |nil=>cases hn
 |cons t' r'=>
  cases hn;have hr':resB t=false:=hr;simp only[BE,hr',hl];cases BE ths r<;>rfl
theorem J2 {r:Wds} {t:ByteArray} (hn:BN ws=some (t,r)) (hr:resB (nth ws 0)=false) (hl:litT ths t=none):BE ths ws=none:=by
 cases ws with
 |nil=>cases hn
 |cons t' r'=>
  cases hn;have hr':resB t=false:=hr;simp[BE,hr',hl]
theorem Oq {o:Option α} {a:α} {w w':Wds} (h:o.map (fun x=>(x,w))=some (a,w')):o=some a/\w=w':=by
 cases o with
 |none=>cases h
 |some x=>simp only[Option.map_some,Option.some.injEq,Prod.mk.injEq]at h;exact⟨by rw[h.1],h.2⟩
theorem Od {o:Option α} {f:α->β} (h:o.map f=none):o=none:=by
 cases o with
 |none=>rfl
 |some x=>cases h
theorem Ic {r:Wds} {t:ByteArray} (h:BN l=some (t,r)):l.length=r.length+1:=by
 cases l with
 |nil=>cases h
 |cons a l=>cases h;rfl
theorem U6 (h:BN l=none):l.length=0:=by
 cases l with
 |nil=>rfl
 |cons a l=>cases h
variable {R:SA}
theorem St.outRo {e:TypeId} {xs:List α} (hC:∀u,∀a∈xs,C.ok u a) (h:St n0 w0 (AA xb s++[oT C e v xs,R]) u):
  St n0 w0 [rdr xb s,roT C ⟨v,xs⟩,R] u:=by
 have h1:St n0 w0 [rdr xb s,oT C e v xs,R] u:=St.pack h;have h2:=h1.perm (.swap _ _ _);have h3:=St.toRo (p:=fun u=>SlT C u ⟨v,xs⟩) (fun S u h=>⟨Star.osl (L:=[oT C e v xs]) (j:=0) rfl ⟨S,fun _ h=>h,h,trivial⟩,hC u⟩) h2;exact h3.perm (.swap _ _ _)
variable {spec:Option (List α×Wds)}
theorem Mr {s':RdS} {x:Sl α} (h:RdTo s s') (hx:∃u0,SlT C u0 x) (hs:spec=some (x.l,s'.ws.l)) (hu:St w0.heap.size w0 [rdr xb s',roT C x,R] u):RdL C w0 R xb s spec (.returned x.v) u:=
 .inl ⟨(s',x),⟨⟨h,hx⟩,hs⟩,rfl,St.pack (L1:=[rdr xb s',roT C x]) hu⟩
theorem R9 (R:SA) (xb:Nat) (sx:RdS) (hu:St w.heap.size w [rdr xb sx,R] u) (g:Sl ByteArray) (hG:GOk w g) (hz:sx.ok):
  Calls prog 165 #[.pointer (some ⟨xb,0,none⟩)] u (RdL cLit w R xb sx (BE sx.r.ths.l sx.ws.l)):=by
 refine Ei hu func165 ?_;refine Nz 1 ?_;refine Wd (Qc (Cs (Ce ?_)));refine CS.weak (fun _ hu=>hu.osl0 (e:=103) (size:=3)) ?_;refine CS.sel [1,0,0] rfl ?_;refine CS.loopM (σ:=RdS×Value×List Lit) (rsL [3,26]) (fun s=>[(2,s.2.1)]) (fun s=>[rdr xb s.1,oT cLit 103 s.2.1 s.2.2,R]) (fun s=>RdTo sx s.1/\BE sx.r.ths.l sx.ws.l=(BE sx.r.ths.l s.1.ws.l).map (fun x=>(s.2.2++x.1,x.2))/\s.2.2.length+s.1.ws.l.length=sx.ws.l.length) (fun s=>s.1.ws.l.length) (sx,.slice none 0 0,[]) (fun _ _=>rfl) rfl rfl ⟨RdTo.refl _,by simp,by simp⟩ ?_;intro q t hs;obtain⟨hq1,hq2,hq3⟩:=hs;have hzq:=hq1.ok hz;have hzl:=hz.len;refine CS.unpack (L1:=AA xb q.1) ?_;refine CS.roE (j:=8) rfl fun hwx=>?_;obtain⟨uw,hw⟩:=hwx;refine Cs (Cs (Dr mixed 3 ?_));refine Dk 0 (Ba 0) ?_;refine Dk 2 (Nc (s:=q.1.ws) (hs:=hw)) ?_;refine Dt 0 rfl rfl (fun hg=>AX tk23 rfl fun u hu=>hG.cell hu) ?_;refine Dj 0 ?_;refine Dj 0 ?_;refine Dj 0 ?_;refine Dj 0 ?_;refine Dt 0 rfl rfl (fun hg=>Xc (s:=q.1.ws)) ?_;refine Dt 0 rfl rfl (fun hg=>Vb 8 rfl (s:=q.1.ws)) ?_;refine Dt 0 rfl rfl (fun hg=>Cb rfl (ec_ (eg_ hg rfl) (ec_ (eg_ hg rfl) en_)) TA (fun u hu=>FA g _ u (hG.sl.st hu))) ?_;refine Dj 0 ?_;refine Dk 0 Pa ?_;refine Dd (Qc (Cn ?_ ?_))<;>intro hc1
 ·refine Ck (Qc (Ce (Ny 3 ?_)));refine WS.callP rfl rfl Hf (fun u hu=>RetX.ls (Hh (star _) xb q.1 (St.tailPack (St.pack (L1:=AA xb q.1) hu)))) (fun _=>rfl) (fun hq u hu=>absurd (U6 hq) (by omega)) ?_;rintro⟨s1,t⟩ ⟨h1,hn⟩;have hrb:=(Pk hG.1 (nth q.1.ws.l 0)).symm.trans hc1.2;refine WS.callP rfl rfl Ye (fun u hu=>RetX.ls (Jfu (star _) xb s1 (St.tailPack hu) t g hG (h1.ok hzq) (hzq.sz t (Dp hn)))) (fun _=>rfl) (fun hq u hu=>And.intro rfl (Or.inr ⟨by rw[hq2,J2 hn hrb (hq1.1▸h1.1▸Od hq)];rfl,rfl,hu.sel [1] rfl⟩)) ?_;rintro⟨s2,a⟩ ⟨h2,ha⟩;obtain⟨hla,hw2⟩:=Oq ha;rw[h1.1,hq1.1]at hla;have hgo:=HF hn hrb hla;have hln:q.1.ws.l.length=s1.ws.l.length+1:=Ic hn;have hw3:s1.ws.l=s2.ws.l:=hw2;refine WS.buildT1 cLit (a:=a) sl29 Cu rfl (by decide) (fun _=>rfl) ?_;intro v25;refine WS.appendT1 (C:=cLit) (a:=a) (j:=2) (jz:=0) sl29 Cu rfl (by decide) rfl rfl rfl rfl (w:=w) trivial (by omega) (by omega) (fun _=>rfl) (fun _=>rfl) ?_;intro v26 hv26;refine Wz 1 ?_;refine Wd (Qb ?_);refine QS.sel [1,1,1] rfl ?_;exact QS.head ((s2,v26,q.2.2++[a])) rfl rfl ⟨⟨(hq1.trans h1).trans h2,by rw[hq2,hgo,hw2];cases BE sx.r.ths.l s2.ws.l<;>simp,by rw[<-hw3];simp;omega⟩,by rw[<-hw3];omega⟩
 refine Cv (Qe (Qe (Qx (Qc (Nz 2 ?_)))));exact Wd (Qc (Cr (out1 rfl rfl (fun u hu=>Mr (x:=⟨q.2.1,q.2.2⟩) hq1 ⟨u,Bk hu (j:=9) rfl fun _ _=>trivial⟩ (by rw[hq2,EV (fun h=>(Pk hG.1 _).symm.trans (hc1.resolve_left (by omega)))];simp) (St.outRo (fun _ _ _=>trivial) hu)))))
theorem W7 (C:Cel α) {A:SA} (h:St n0 w0 [A,R] u):St n0 w0 [A,roT C ⟨.slice none 0 0,[]⟩,R] u:=
 (h.roTrue (p:=fun u=>SlT C u ⟨.slice none 0 0,[]⟩) (SlT.nil C)).perm (.swap _ _ _)
section
variable {P:Program} {ro:Option Nat} {n0:Nat} {w0:World} {ds:List Deferred} {ops:Array Oper} {Q:Exit->Act->World->Prop} {L:List SA} {rest:List Oper} {l:List Value} {ty:TypeId} {ps:String} {af:Array Edge}
theorem WS.buildN1 {T e:TypeId} {by_:Nat} {x:Operand} {b:Int} {zc:List Value} (hT:sl P T=some (e,1,by_)) (hz:zv P e=some zc) (hx:evo l x=some (.int .i64 b))
  {l':Value->List Value} (hl:∀v,lset l i v=some (l' v)) (kk:∀v,WS P ro n0 w0 ds ops Q (oT cInt e v [b]::L) rest (l' v)):
  WS P ro n0 w0 ds ops Q L (⟨some i,.buildSlice T 1 #[(0,x)],ty,ps,af,none⟩::rest) l:=
 WS.buildSlice1 (pl:=[(0,x)]) (vs:=[.int .i64 b]) hT hz (by simp[Am hx]) rfl (by decide) (fun v hv=>by simp at hv;subst hv;rfl) hl kk
end
variable {ws':Wds}
theorem Rx {c:List Lit} (h:isW ifW ws=true) (hw:ws'=ws.tail) {c':Wds} (hc:BE ths ws'=some (c,c')):CB ths ws=if c=[]then none else some (c,c'):=by
 subst hw;rw[CB,if_pos h,hc];rfl
theorem Vj (h:isW ifW ws=true) (hw:ws'=ws.tail) (hc:BE ths ws'=none):CB ths ws=none:=by
 subst hw;rw[CB,if_pos h,hc];rfl
theorem MA {t:ByteArray} (h:some (isW t ws,if isW t ws then ws.tail else ws)=some (true,ws')):isW t ws=true/\ws'=ws.tail:=by
 simp only[Option.some.injEq,Prod.mk.injEq]at h;exact⟨h.1,by rw[<-h.2,if_pos h.1]⟩
theorem LD {t:ByteArray} (h:some (isW t ws,if isW t ws then ws.tail else ws)=some (false,ws')):isW t ws=false/\ws'=ws:=by
 simp only[Option.some.injEq,Prod.mk.injEq]at h;exact⟨h.1,by rw[<-h.2,if_neg (by simp[h.1])]⟩
theorem Rw {prs:List Pro} {t:ByteArray} {r:Wds} {l:List Int} (h:isW t ws=true) (hw:ws'=ws.tail) (hc:BR prs ws'=some (l,r)):EZ prs t ws=if l=[]then none else some (l,r):=by
 subst hw;rw[EZ,if_pos h,hc];rfl
theorem Xh {prs:List Pro} {t:ByteArray} (h:isW t ws=true) (hw:ws'=ws.tail) (hc:BR prs ws'=none):EZ prs t ws=none:=by
 subst hw;rw[EZ,if_pos h,hc];rfl
theorem Ik {prs:List Pro} (h:(0:Int)<ws.length->resB (nth ws 0)=true):BR prs ws=some ([],ws):=by
 cases ws with
 |nil=>rfl
 |cons t r=>exact if_pos (h (by simp))
theorem LV {prs:List Pro} {r:Wds} {i:Int} (hr:resB (nth ws 0)=false) (hl:A8 Pro.nm prs ws=some (i,r)):BR prs ws=(BR prs r).map fun x=>(i::x.1,x.2):=by
 cases ws with
 |nil=>cases hl
 |cons t r'=>
  have hr':resB t=false:=hr
  have h2:Au t=true/\0<=idxN Pro.nm prs t/\idxN Pro.nm prs t=i/\r'=r:=by
   simp only[A8,CL,BN,Option.bind_some]at hl;split at hl
   ·rename_i h1;simp only[Option.bind_some]at hl;split at hl
    ·rename_i h2;simp only[Option.some.injEq,Prod.mk.injEq]at hl;exact⟨h1,h2,hl.1,hl.2⟩
    cases hl
   cases hl
  obtain⟨h1,h2,h3,h4⟩:=h2;subst h4;rw[BR,if_neg (by simp[hr']),if_pos ⟨h1,h2⟩,h3];cases BR prs r'<;>rfl
theorem LB {prs:List Pro} (h0:0<ws.length) (hr:resB (nth ws 0)=false) (hl:A8 Pro.nm prs ws=none):BR prs ws=none:=by
 cases ws with
 |nil=>cases h0
 |cons t r'=>
  have hr':resB t=false:=hr
  have h2:¬(Au t=true/\0<=idxN Pro.nm prs t):=by
   rintro⟨h1,h2⟩;simp[A8,CL,BN,h1,h2]at hl
  rw[BR,if_neg (by simp[hr']),if_neg h2]
theorem Ja {f:α->ByteArray} {l:List α} {r:Wds} {i:Int} (h:A8 f l ws=some (i,r)):ws.length=r.length+1:=by
 cases ws with
 |nil=>cases h
 |cons t r'=>
  simp only[A8,CL,BN,Option.bind_some]at h;split at h
  ·simp only[Option.bind_some]at h;split at h
   ·simp only[Option.some.injEq,Prod.mk.injEq]at h;rw[<-h.2];rfl
   cases h
  cases h
theorem Pg (R:SA) (xb:Nat) (s:RdS) (hu:St w.heap.size w [rdr xb s,R] u) (g:Sl ByteArray) (hG:GOk w g) (hz:s.ok):
  Calls prog 162 #[.pointer (some ⟨xb,0,none⟩)] u (RdL cLit w R xb s (CB s.r.ths.l s.ws.l)):=by
 refine Ei hu func162 ?_;refine Nz 1 ?_;refine Nv 1 ?_;refine WS.callP rfl rfl E6 (fun u hu=>RetX.ls (Fa (star _) xb s (St.tailPack hu) ifW)) (fun _=>rfl) (fun hq u hu=>absurd hq (by simp)) ?_;rintro⟨s1,b⟩ ⟨h1,hn⟩;refine Wz 1 ?_;refine Wp ?_ ?_<;>intro hc1
 ·subst hc1;obtain⟨hno,hn2⟩:=LD hn;refine Nz 1 ?_;exact Wd (Qc (Cr (Qr (out1 rfl rfl (fun u hu=>Mr (x:=⟨.slice none 0 0,[]⟩) h1 ⟨u,SlT.nil _ _⟩ (by rw[CB,if_neg (by simp[hno])];exact congrArg _ (congrArg _ hn2.symm)) (W7 cLit hu))))))
 subst hc1;obtain⟨hyes,hn2⟩:=MA hn;refine Ck (Qc (Nz 1 ?_));refine WS.callP rfl rfl TJ (fun u hu=>RetX.ls2 (R9 (star _) xb s1 (St.tailPack hu) g hG (h1.ok hz))) (fun _=>rfl) (fun hq u hu=>And.intro rfl (Or.inr ⟨Vj hyes hn2 (h1.1▸hq),rfl,hu.sel [0] rfl⟩)) ?_;rintro⟨s2,c⟩ ⟨⟨h2,⟨uc,hcx⟩⟩,hc⟩;refine Wz 1 ?_;refine Nx 1 ?_;refine Wk 1 (Nc (s:=c)) ?_;refine WS.callP rfl rfl Cp (Ci _) (fun _=>rfl) (fun hq u hu=>And.intro rfl (Or.inr ⟨by rw[Rx hyes hn2 (h1.1▸hc),if_pos (by simpa using hq)],rfl,hu.sel [2] rfl⟩)) ?_;rintro⟨⟩ hm;refine Nx 2 ?_;exact Wd (Qc (Cr (out1 rfl rfl (fun u hu=>Mr (x:=c) (h1.trans h2) ⟨u,hu.ro (j:=1) rfl⟩ (by rw[Rx hyes hn2 (h1.1▸hc),if_neg (fun h:c.l=[]=>by simp[h]at hm)]) hu))))
theorem Tq (R:SA) (xb:Nat) (sx:RdS) (hu:St w.heap.size w [rdr xb sx,R] u) (g:Sl ByteArray) (hG:GOk w g) (hz:sx.ok) (t0:ByteArray):
  Calls prog 163 #[.pointer (some ⟨xb,0,none⟩),.string t0] u (RdL cInt w R xb sx (EZ sx.r.prs.l t0 sx.ws.l)):=by
 refine Ei hu func163 ?_;refine Nz 1 ?_;refine Nv 2 ?_;refine WS.callP rfl rfl E6 (fun u hu=>RetX.ls (Fa (star _) xb sx (St.tailPack hu) t0)) (fun _=>rfl) (fun hq u hu=>absurd hq (by simp)) ?_;rintro⟨s1,b⟩ ⟨h1,hn⟩;refine Wz 1 ?_;refine Wp ?_ ?_<;>intro hc1
 ·subst hc1;obtain⟨hno,hn2⟩:=LD hn;refine Nz 1 ?_;exact Wd (Qc (Cr (Qr (out1 rfl rfl (fun u hu=>Mr (x:=⟨.slice none 0 0,[]⟩) h1 ⟨u,SlT.nil _ _⟩ (by rw[EZ,if_neg (by simp[hno])];exact congrArg _ (congrArg _ hn2.symm)) (W7 cInt hu))))))
 subst hc1;obtain⟨hyes,hn2⟩:=MA hn;replace h1:RdTo sx s1:=h1;replace hn2:s1.ws.l=sx.ws.l.tail:=hn2;have hr1:=h1.1;refine Ck (Qc (Cs (Ce ?_)));refine CS.weak (fun _ hu=>hu.osl0 (e:=3) (size:=1)) ?_;refine CS.sel [1,0,0] rfl ?_;refine CS.loopM (σ:=RdS×Value×List Int) (rsL [9,35]) (fun s=>[(4,s.2.1)]) (fun s=>[rdr xb s.1,oT cInt 3 s.2.1 s.2.2,R]) (fun s=>RdTo s1 s.1/\BR sx.r.prs.l s1.ws.l=(BR sx.r.prs.l s.1.ws.l).map (fun x=>(s.2.2++x.1,x.2))/\s.2.2.length+s.1.ws.l.length=s1.ws.l.length) (fun s=>s.1.ws.l.length) (s1,.slice none 0 0,[]) (fun _ _=>rfl) rfl rfl ⟨RdTo.refl _,by simp,by simp⟩ ?_;intro q t hs;obtain⟨hq1,hq2,hq3⟩:=hs;have hzq:=hq1.ok (h1.ok hz);have hzl:=(h1.ok hz).len;refine CS.unpack (L1:=AA xb q.1) ?_;refine CS.roE (j:=8) rfl fun hwx=>?_;obtain⟨uw,hw⟩:=hwx;refine Cs (Cs (Dr mixed 3 ?_));refine Dk 0 (Ba 0) ?_;refine Dk 2 (Nc (s:=q.1.ws) (hs:=hw)) ?_;refine Dt 0 rfl rfl (fun hg=>AX tk23 rfl fun u hu=>hG.cell hu) ?_;refine Dj 0 ?_;refine Dj 0 ?_;refine Dj 0 ?_;refine Dj 0 ?_;refine Dt 0 rfl rfl (fun hg=>Xc (s:=q.1.ws)) ?_;refine Dt 0 rfl rfl (fun hg=>Vb 8 rfl (s:=q.1.ws)) ?_;refine Dt 0 rfl rfl (fun hg=>Cb rfl (ec_ (eg_ hg rfl) (ec_ (eg_ hg rfl) en_)) TA (fun u hu=>FA g _ u (hG.sl.st hu))) ?_;refine Dj 0 ?_;refine Dk 0 Pa ?_;refine Dd (Qc (Cn ?_ ?_))<;>intro hc2
 ·have hrb:=(Pk hG.1 (nth q.1.ws.l 0)).symm.trans hc2.2;refine Ck (Qc (Ce (Ny 6 ?_)));refine Wk 0 (Ba 0) ?_;refine WS.callP rfl rfl Jb7 (fun u hu=>RetX.ls (SH (star _) xb q.1 (St.tailPack (St.pack (L1:=AA xb q.1) hu)) g hG hzq)) (fun _=>rfl) (fun hq u hu=>And.intro rfl (Or.inr ⟨Xh hyes hn2 (by rw[hq2,LB (by omega) hrb ((hq1.1.trans h1.1)▸hq)];rfl),rfl,hu.sel [1] rfl⟩)) ?_;rintro⟨s2,a⟩ ⟨h2,hl⟩;rw[hq1.1,h1.1]at hl;have hgo:=LV hrb hl;have hln:q.1.ws.l.length=s2.ws.l.length+1:=Ja hl;refine WS.buildN1 (b:=a) sl48 zv3 rfl (fun _=>rfl) ?_;intro v34;refine WS.appendT1 (C:=cInt) (a:=a) (j:=2) (jz:=0) sl48 zv3 rfl (by decide) rfl rfl rfl rfl (w:=w) trivial (by omega) (by omega) (fun _=>rfl) (fun _=>rfl) ?_;intro v35 hv35;refine Wz 1 ?_;refine Wd (Qb ?_);refine QS.sel [1,1,1] rfl ?_;exact QS.head ((s2,v35,q.2.2++[a])) rfl rfl ⟨⟨hq1.trans h2,by rw[hq2,hgo];cases BR sx.r.prs.l s2.ws.l<;>simp,by simp;omega⟩,by show s2.ws.l.length<q.1.ws.l.length;omega⟩
 have hst:BR sx.r.prs.l s1.ws.l=some (q.2.2,q.1.ws.l):=by
  rw[hq2,Ik (fun h=>(Pk hG.1 _).symm.trans (hc2.resolve_left (by omega)))];simp
 refine Cv (Qe (Qe (Qx (Qc (Nz 1 ?_)))));refine Wk 1 (B7 (j:=9) sl48 rfl rfl) ?_;refine WS.callP rfl rfl Cp (Ci _) (fun _=>rfl) (fun hq u hu=>And.intro rfl (Or.inr ⟨by rw[Rw hyes hn2 hst,if_pos (by simpa using hq)],rfl,hu.sel [10] rfl⟩)) ?_;rintro⟨⟩ hm;refine Nx 2 ?_;exact Wd (Qc (Cr (out1 rfl rfl (fun u hu=>Mr (x:=⟨q.2.1,q.2.2⟩) (h1.trans hq1) ⟨u,Bk hu (j:=9) rfl fun _ _=>trivial⟩ (by rw[Rw hyes hn2 hst,if_neg (fun h=>by simp[h]at hm)]) (St.outRo (fun _ _ _=>trivial) hu)))))
def KOk (w:World) (g:Sl ByteArray):Prop:=g.l=kindsL/\∀u,Below w.heap.size w u->u.cell? ⟨2,0,none⟩=some g.v/\SlT cStr u g
theorem KOk.ext (h:KOk w g) (hb:Below w.heap.size w u):KOk u g:=⟨h.1,fun v hv=>h.2 v (AQ hb hv)⟩
theorem KOk.st (h:KOk w g) (hu:St w.heap.size w L u):KOk u g:=h.ext hu.below
theorem KOk.sl (h:KOk w g):SlT cStr w g:=(h.2 w (Below.refl _ _)).2
theorem KOk.cell (h:KOk w g) (hu:St w.heap.size w L u):u.cell? ⟨2,0,none⟩=some g.v:=(h.2 u hu.below).1
structure RdB (n:Nat) (r:Room):Prop where
 pls:r.pls.l.length<=n
 ths:r.ths.l.length<=n
 prs:r.prs.l.length<=n
 wys:r.wys.l.length<=n
 acs:r.acs.l.length<=n
 aus:r.aus.l.length<=n
theorem RdTo.eta {s1:RdS} (h:RdTo s s1):s1={s with ws:=s1.ws}:=by
 obtain⟨r,k,w⟩:=s;obtain⟨r1,k1,w1⟩:=s1;obtain⟨rfl,rfl,_⟩:=h
 rfl
theorem RdX.lw {γ:Type} {spec:Option (γ×Wds)} {val:γ->Value} (h:Calls prog f args u (RdX w (star Ls) xb s spec val)):
  Calls prog f args u (fun e u'=>(∃x:Sl ByteArray×γ,(spec=some (x.2,x.1.l)/\x.1.l <:+s.ws.l)/\e = .returned (val x.2)/\St w.heap.size w (rdr xb {s with ws:=x.1}::Ls) u')\/(spec=none/\e = .panicked pchain/\St w.heap.size w Ls u')):=by
 refine(RetX.ls h).mono ?_;rintro e u' (⟨⟨s1,x⟩,⟨h1,h2⟩,h3,h4⟩|h)
 ·refine .inl ⟨(s1.ws,x),⟨h2,h1.2.2⟩,h3,?_⟩;rw[<-h1.eta];exact h4
 exact .inr h
theorem RdL.lw (h:Calls prog f args u (RdL C w (star Ls) xb s spec)):
  Calls prog f args u (fun e u'=>(∃x:Sl ByteArray×Sl α,(spec=some (x.2.l,x.1.l)/\x.1.l <:+s.ws.l/\∃u0,SlT C u0 x.2)/\e = .returned x.2.v/\St w.heap.size w (rdr xb {s with ws:=x.1}::roT C x.2::Ls) u')\/(spec=none/\e = .panicked pchain/\St w.heap.size w Ls u')):=by
 refine(RetX.ls2 h).mono ?_;rintro e u' (⟨⟨s1,x⟩,⟨⟨h1,h0⟩,h2⟩,h3,h4⟩|h)
 ·refine .inl ⟨(s1.ws,x),⟨h2,h1.2.2,h0⟩,h3,?_⟩;rw[<-h1.eta];exact h4
 exact .inr h
section
variable {P:Program} {n0:Nat} {w0:World} {L:List SA} {l:List Value} {d:Option Tmp} {ty:TypeId} {ps:String} {af:Array Edge} {g:Option (Nat×Bool)}
theorem MJ {T:TypeId} {x:Operand} {k:Nat} (hx:evo l x=some (.pointer (some ⟨xb,i,none⟩))) (hv:(Room.cells s.r)[i]? = some v) (hT:tk P T=some (false,k)):
  Det P (St n0 w0 (rdr xb s::L)) ⟨d,.load T x,ty,ps,af,g⟩ l v:=fun u hu=>by
 refine AP (L:=AA xb s++L) (j:=0) hx rfl ?_ hT u (St.unpack (L1:=AA xb s) hu);have e:NX s=Room.cells s.r++[.int .i64 s.kd,s.ws.v]:=rfl;rw[e,List.getElem?_append_left (List.getElem?_eq_some_iff.1 hv).1];exact hv
end
def Jc0 (w:World) (R:SA) (xb:Nat) (s:RdS) (t0:ByteArray):Ending->World->Prop:=fun e u'=>
 (∃(s':RdS) (k:Int) (x:Ln),(BC s.r s.kd t0=some (k,x)/\s'.r.e=(addL s.r x).e/\s'.kd=k)/\e = .returned (.bool true)/\St w.heap.size w [rdr xb s',R] u')\/
  (BC s.r s.kd t0=none/\e = .returned (.bool false)/\St w.heap.size w [R] u')
def finL (k:Int) (x:Ln×Wds):Option (Int×Ln):=if x.2=[]then some (k,x.1)else none
variable {r:Room} {k:Int} {t0:ByteArray}
theorem Un {kd:Int} {t:ByteArray} (hn:BN (Ab 32 t0)=some (t,ws)) (hk:E2 t=k) (hm:mayK kd k=true):BC r kd t0=(A9 r k ws).bind (finL k):=by
 subst hk;rw[BC,hn];simp only[Option.bind_some,hm,if_true];rfl
theorem Sm {kd:Int} (hn:BN (Ab 32 t0)=none):BC r kd t0=none:=by rw[BC,hn];rfl
theorem KX {kd:Int} {t:ByteArray} (hn:BN (Ab 32 t0)=some (t,ws)) (hk:E2 t=k) (hm:mayK kd k=false):BC r kd t0=none:=by
 subst hk;rw[BC,hn];simp[hm]
variable {gk:Sl ByteArray}
theorem Jfr (hg:gk.l=kindsL) (t:ByteArray):idxF (fun x=>seq t x) gk.l=E2 t:=by
 rw[hg];unfold E2 idxN;congr 1;funext x;exact CY _ _
theorem ZX (p:α->Bool) (xs:List α):idxF p xs<xs.length\/idxF p xs = -1:=by
 unfold idxF;cases h:xs.findIdx? p with
 |none=>exact .inr rfl
 |some i=>
  rw[List.findIdx?_eq_some_iff_getElem]at h;obtain⟨h1,_⟩:=h;exact .inl (by simp only;omega)
theorem N5 (t:ByteArray):E2 t<8:=by
 rcases ZX (fun x=>seq (id x) t) kindsL with h|h
 ·exact h
 have h2:E2 t = -1:=h;omega
theorem Ja8:∀k i:Fin 8,seq (nth kindsL ((k.val:Nat):Int)) (nth kindsL ((i.val:Nat):Int))=decide (k=i):=by decide+kernel
theorem Oo (hg:gk.l=kindsL) (h0:0<=k) (h8:k<8) (i:Fin 8) {t:ByteArray} (ht:t=nth kindsL ((i.val:Nat):Int)) {b:Bool} (h:seq (nth gk.l k) t=b):(k=((i.val:Nat):Int))=(b=true):=by
 have:=Ja8 ⟨k.toNat,by omega⟩ i;rw[show(((⟨k.toNat,by omega⟩:Fin 8).val:Nat):Int)=k by simp;omega,<-ht,<-hg,h]at this;rw[this];simp only[decide_eq_true_eq,eq_iff_iff,Fin.ext_iff];omega
theorem XI (kd k:Int):((decide (kd<=k)&&!(decide (6<=kd)&&decide (k≠kd+1)))&&(decide (k<7)||decide (kd=6)))=mayK kd k:=by
 simp only[mayK,decide_not,Bool.and_assoc]
theorem CT (ht:t0.size<=65536) {w:Sl ByteArray} (h:w.l <:+Ab 32 t0):RdS.ok ⟨r,k,w⟩:=
 ⟨fun y hy=>Nat.le_trans (A6 (h.subset hy)) ht,Nat.le_trans h.length_le (Nat.le_trans (Bn _ _) (by omega))⟩
theorem FF {p q r:World->Prop} (hr:∀u,p u->q u->r u) (h:St n0 w0 (roS p::roS q::L) u):St n0 w0 (roS r::L) u:=St.roMap (fun u h=>hr u h.1 h.2) (St.roAnd h)
theorem elOk.prs {x:Pro} (v:Value) (h:elOk r u) (hx:cPro.ok u x):elOk {r with prs:=⟨v,r.prs.l++[x]⟩} u:=
 ⟨fun y hy=>by rcases List.mem_append.1 hy with hy|hy;exact h.1 y hy;(rw[List.mem_singleton]at hy;subst hy;exact hx),h.2⟩
theorem elOk.wys {x:Way} (v:Value) (h:elOk r u) (hx:cWay.ok u x):elOk {r with wys:=⟨v,r.wys.l++[x]⟩} u:=
 ⟨h.1,fun y hy=>by rcases List.mem_append.1 hy with hy|hy;exact h.2.1 y hy;(rw[List.mem_singleton]at hy;subst hy;exact hx),h.2.2⟩
theorem elOk.acs {x:Actn} (v:Value) (h:elOk r u) (hx:cAct.ok u x):elOk {r with acs:=⟨v,r.acs.l++[x]⟩} u:=
 ⟨h.1,h.2.1,fun y hy=>by rcases List.mem_append.1 hy with hy|hy;exact h.2.2.1 y hy;(rw[List.mem_singleton]at hy;subst hy;exact hx),h.2.2.2⟩
theorem elOk.aus {x:Auto} (v:Value) (h:elOk r u) (hx:cAuto.ok u x):elOk {r with aus:=⟨v,r.aus.l++[x]⟩} u:=
 ⟨h.1,h.2.1,h.2.2.1,fun y hy=>by rcases List.mem_append.1 hy with hy|hy;exact h.2.2.2.1 y hy;(rw[List.mem_singleton]at hy;subst hy;exact hx),h.2.2.2.2⟩
theorem elOk.gl {c:Sl Lit} (h:elOk r u) (hx:SlT cLit u c):elOk {r with gl:=c} u:=⟨h.1,h.2.1,h.2.2.1,h.2.2.2.1,hx⟩
theorem lpan {b:Nat} {a:Act} (j:List Nat) (hq:BC s.r s.kd t0=none) (hu:St w.heap.size w L u) (hj:selo L j=some [blk b [.bool false] 4,R])
  (ha:a.defers=[dfr 155 [.pointer (some ⟨b,0,none⟩)]]) (ht:a.tmps[4]? = some (.pointer (some ⟨b,0,none⟩))):bodyPostD prog Tryz.f75 (Jc0 w R xb s t0) (.panic pchain) a u:=
 panD (x:=.bool false) (v:=.bool false) (e1:=228) (chr:=[{v:=.iface 228 (.agg #[]),recovered:=true}]) ha ht X2 rfl (fun w h1 h2=>Zg _ _ w h1 h2) rfl tk4 (hu.sel j hj) (fun u hu=>.inr ⟨hq,rfl,hu⟩)
end Go.Proofs.YtllebkdchemabaaGreatDoor
