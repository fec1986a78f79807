/- Merged texts of this proof. -/
import Derived.Test.YtllebkdchemabaaGreatDoorZk
set_option maxHeartbeats 8000000
namespace Go.Proofs.YtllebkdchemabaaGreatDoor
open Go.RowKit Go.Proofs Tryz
set_option maxRecDepth 100000
set_option linter.unusedVariables false
set_option linter.unusedSimpArgs false
theorem HE (t0:ByteArray) (c:UInt8) (w:World) (ht:(t0.size:Int)<=1000000):
  Calls prog 33 #[.string t0,.int .u8 c.toNat] w (RetL w (Ab c t0)):=by
 refine En func33 ?_;refine Nz 1 ?_;refine Nx 1 ?_;refine Nx 1 ?_;refine Nv 1 ?_;refine Nu ?_;refine CS.weak (fun _ hu=>hu.osl0 (e:=9) (size:=1)) ?_;refine CS.loopM (σ:=Int×Int×Value×List ByteArray) (rsL [8,33]) (fun s=>[(7,.int .i64 s.1),(6,.int .i64 s.2.1),(5,s.2.2.1)]) (fun s=>[oT cStr 9 s.2.2.1 s.2.2.2]) (fun s=>0<=s.1/\SplitI c t0 s.1 s.2.1 s.2.2.2) (fun s=>(t0.size+1-s.1).toNat) (0,0,.slice none 0 0,[]) (fun _ _=>rfl) rfl rfl ⟨by simp,SplitI.start c t0⟩ ?_;intro a t hs;obtain⟨ha1,ha2⟩:=hs;refine Cs (Nz 2 ?_);refine Wk 1 (Al underlying9 rfl) ?_;refine Wp ?_ ?_<;>intro hc1
 ·have hxl:=ha2.len;refine Ck (Qc (Cs (Ce (Nz 2 ?_))));refine Wk 2 (Al underlying9 rfl) ?_;refine We 0 ?_;refine We 0 ?_;refine Wf 0 rfl rfl (fun hg=>An underlying9 (eg_ hg rfl) (eg_ hg rfl) (by(try simp only[bq]at hg);omega) (by(try simp only[bq]at hg);omega)) ?_;refine We 0 ?_;refine We 0 ?_;refine Wk 0 Po ?_;refine Wp ?_ ?_<;>intro hc2
  ·have hfb:=ha2.bd (show a.1<=t0.size by omega);refine Nz 4 ?_;refine Wk 0 (KT underlying9 rfl rfl rfl ⟨hfb.1,hfb.2,by omega⟩) ?_;refine WS.buildS1 (b:=t0.extract a.2.1.toNat a.1.toNat) sl23 zv9 rfl (fun _=>rfl) ?_;intro v30;refine WS.appendT1 (j:=1) (jz:=0) sl23 zv9 rfl (by decide) rfl rfl rfl rfl (w:=w) trivial (by omega) (by omega) (fun _=>rfl) (fun _=>rfl) ?_;intro v31 hv31;refine Wz 1 ?_;refine Nw 1 ?_;refine Wk 1 Za ?_;refine Wd (Qb (Qc (Ny 1 ?_)));refine Wk 1 Za ?_;refine Wd ?_;refine QS.sel [1] rfl ?_;exact QS.head ((a.1+1,a.1+1,v31,a.2.2.2++[t0.extract a.2.1.toNat a.1.toNat])) rfl rfl ⟨⟨by simp;omega,(if h:a.1=t0.size then ha2.last h else ha2.hit (by omega) (by omega))⟩,by simp;omega⟩
  refine Ck (Qb (Qc (Ny 1 ?_)));refine Wk 1 Za ?_;exact Wd (QS.head ((a.1+1,a.2.1,a.2.2.1,a.2.2.2)) rfl rfl ⟨⟨by simp;omega,ha2.other (by omega) (by omega)⟩,by simp;omega⟩)
 have hfin:=ha2.fin (by omega);refine Cv (Qe (Qe (Qx (Qc (Nz 2 ?_)))));refine Wd (Qc (Cr ?_))
 exact out1 rfl rfl (by
   rw[<-hfin]
   exact fun u hu=>Vm (j:=0) rfl hu)
theorem VU {t:ByteArray} (h:resB t=true):lowB t=true/\seq t ⟨#[]⟩=false:=by
 unfold resB at h;obtain⟨x,hx,e⟩:=List.any_eq_true.1 h;have:t=x:=(C9.1 e).symm;subst this;simp only[wordL,List.mem_cons,List.not_mem_nil,or_false]at hx;rcases hx with rfl|rfl|rfl|rfl|rfl|rfl|rfl|rfl|rfl|rfl<;>exact⟨by decide,by decide+kernel⟩
theorem Jdw (t:ByteArray):((!seq t ⟨#[]⟩&&!Au t)&&lowB t)=resB t:=by
 cases hr:resB t with
 |true=>
  obtain⟨h1,h2⟩:=VU hr;have h3:(wordL.any fun x=>seq x t)=true:=hr;simp[Au,h1,h2,h3]
 |false=>
  have h3:(wordL.any fun x=>seq x t)=false:=hr;simp only[Au,h3];cases lowB t<;>cases seq t ⟨#[]⟩<;>rfl
theorem LS (tx:ByteArray) (w:World) (hm:(tx.size:Int)<=1000000):
  Calls prog 319 #[.string tx] w (RetB w (.bool (lowB tx))):=by
 refine En func319 ?_;refine Nz 1 ?_;refine Nv 1 ?_;refine Nu ?_;refine CS.loopM (σ:=Int) (rsL [2,2,4,19]) (fun s=>[(3,.int .i64 s)]) (fun _=>_) (fun s=>0<=s/\s<=tx.size/\∀j:Int,0<=j->j<s->97<=byt tx j/\byt tx j<=122) (fun s=>(tx.size-s).toNat) 0 (fun _ _=>rfl) rfl rfl ⟨by omega,by omega,fun j _ _=>by omega⟩ ?_;intro s t hs;obtain⟨hs1,hs2,hs3⟩:=hs;refine Cs (Nz 2 ?_);refine Wk 1 (Al underlying9 rfl) ?_;refine Wp ?_ ?_<;>intro hc1
 ·refine Ck (Qc (Cs (Ce (Nz 2 ?_))));refine Wk 2 (An underlying9 rfl rfl (by omega) (by omega)) ?_;refine We 0 ?_;refine We 0 ?_;refine Wf 0 rfl rfl (fun hg=>An underlying9 (eg_ hg rfl) (eg_ hg rfl) (by(try simp only[bq]at hg);omega) (by(try simp only[bq]at hg);omega)) ?_;refine We 0 ?_;refine Wk 0 Po ?_;refine Wp ?_ ?_<;>intro hc2
  ·refine Nz 1 ?_;exact Wd (Qc (Cr (Qs (Qr (Qr (Qs (Qr (out1 rfl rfl (Af (by rw[JW hs1 (by omega) (by omega)]))))))))))
  refine Ck (Qb (Qc (Ny 1 ?_)));refine Wk 1 Za ?_;refine Wd ?_
  exact QS.head (s+1) rfl rfl ⟨⟨by omega,by omega,fun j h0 h1=>by
     rcases(show j<s\/j=s by omega)with h|h
     ·exact hs3 j h0 h
     rw[h];omega⟩,by omega⟩
 refine Cv (Qe (Qe (Qx (Qc (Nz 1 ?_)))));exact Wd (Qc (Cr (out1 rfl rfl (Af (by rw[HH fun j h0 h1=>hs3 j h0 (by omega)])))))
theorem ZG (tx:ByteArray) (w:World) (hm:(tx.size:Int)<=1000000):
  Calls prog 274 #[.string tx] w (RetB w (.bool (resB tx))):=by
 refine En func274 ?_;refine Nz 1 ?_;refine Nx 1 ?_;refine Wk 1 (A3 rfl rfl) ?_;refine Wj 0 ?_;refine Wt 0 rfl rfl (fun hg=>Cb rfl (ec_ (eg_ hg rfl) en_) Pv (fun u hu=>F1 tx u (by omega))) ?_;refine Wj 0 ?_;refine Wk 1 Pa ?_;refine Wj 0 ?_;refine Wt 0 rfl rfl (fun hg=>Cb rfl (ec_ (eg_ hg rfl) en_) Jft (fun u hu=>LS tx u hm)) ?_;refine Wk 1 Pa ?_;exact Wd (Qc (Cr (out1 rfl rfl (Af (by rw[<-Jdw])))))
theorem Jbj (tx:ByteArray) (w:World):
  Calls prog 192 #[.string tx] w (RetB w (.int .i64 (E2 tx))):=by
 refine En func192 ?_;refine Nz 1 ?_;refine Nx 0 ?_;refine WS.buildSlice1 (vs:=kindsL.map Value.string) sl23 zv9 rfl rfl (by decide) (by simp[kindsL,Value.oneCell']) (fun _=>rfl) ?_;intro v5;refine WS.weak (fun u hu=>St.toRo (p:=fun u=>SlT cStr u ⟨v5,kindsL⟩) (fun S u h=>⟨Star.osl (L:=[osl 9 1 v5 8 (kindsL.map Value.string)]) (j:=0) rfl ⟨S,fun _ h=>h,h,trivial⟩,fun _ _=>trivial⟩) hu) ?_;refine WS.roE (j:=0) rfl fun hwx=>?_;obtain⟨u5,hv5⟩:=hwx;refine Wz 1 ?_;refine Nv 1 ?_;refine Nu ?_;refine CS.loopM (σ:=Int) (rsL [2,2,6,18]) (fun s=>[(4,.int .i64 s)]) (fun s=>[roT cStr ⟨v5,kindsL⟩]) (fun s=>0<=s/\s<=8/\∀j:Int,0<=j->j<s->seq (nth kindsL j) tx=false) (fun s=>(8-s).toNat) 0 (fun _ _=>rfl) rfl rfl ⟨by omega,by omega,fun j _ _=>by omega⟩ ?_;intro s t hs;obtain⟨hs1,hs2,hs3⟩:=hs;have h8:((kindsL.length:Nat):Int)=8:=rfl;refine Cs (Nz 2 ?_);refine Wk 1 (Nc (s:=⟨v5,kindsL⟩)) ?_;refine Wp ?_ ?_<;>intro hc1
 ·refine Ck (Qc (Cs (Ce (Nz 2 ?_))));refine Wk 0 (Xc (s:=⟨v5,kindsL⟩) (h1:=by show s<8;omega)) ?_;refine Wk 1 (Vb 0 rfl (s:=⟨v5,kindsL⟩) (h:=⟨by omega,by show s<8;omega⟩)) ?_;refine Wk 0 (Ah rfl rfl) ?_;refine Wp ?_ ?_<;>intro hc2
  ·refine Nz 2 ?_;exact Wd (Qc (Cr (Qs (Qr (Qr (Qs (Qr (out1 rfl rfl (Af (by unfold E2 idxN;rw[AM (p:=fun x=>seq (id x) tx) hs1 (by(try simp only at hc1);omega) hs3 hc2]))))))))))
  refine Ck (Qb (Qc (Ny 1 ?_)));refine Wk 1 Za ?_;refine Wd ?_
  exact QS.head (s+1) rfl rfl ⟨⟨by omega,by(try simp only at hc1);omega,fun j h0 h1=>by
     rcases(show j<s\/j=s by omega)with h|h
     ·exact hs3 j h0 h
     rw[h];exact hc2⟩,by(try simp only at hc1);omega⟩
 refine Cv (Qe (Qe (Qx (Qc (Nz 1 ?_)))));exact Wd (Qc (Cr (out1 rfl rfl (Af (by unfold E2 idxN;rw[A2 (p:=fun x=>seq (id x) tx) fun j h0 h1=>hs3 j h0 (by(try simp only at hc1);omega)])))))
theorem K7 (t0:ByteArray) (most:Int) (w:World) (ht:(t0.size:Int)<=1000000) (hm:most<=3):
  Calls prog 96 #[.string t0,.int .i64 most] w (RetB w (.tuple #[.int .i64 ((numB most t0).getD 0),.bool (numB most t0).isSome])):=by
 refine En func96 ?_;refine Nz 2 ?_;refine Nv 1 ?_;refine Wk 2 (Al underlying9 rfl) ?_;refine We 0 ?_;refine Wf 0 rfl rfl (fun hg=>Al underlying9 (eg_ hg rfl)) ?_;refine We 0 ?_;refine We 0 ?_;refine Wk 1 Po ?_;refine We 0 ?_;refine Wf 0 rfl rfl (fun hg=>An underlying9 (eg_ hg rfl) rfl (by decide) (by have h9:=hg;(try simp at h9);omega)) ?_;refine We 0 ?_;refine Wf 0 rfl rfl (fun hg=>Fm (eg_ hg rfl)) ?_;refine Wn 0 rfl rfl rfl (fun hg=>Fm) ?_;refine Wn 0 rfl rfl rfl (fun hg=>Al underlying9 (eg_ hg rfl)) ?_;refine Wn 0 rfl rfl rfl (fun hg=>Fg) ?_;refine Wf 0 rfl rfl (fun hg=>AW (eg_ hg rfl) (Cg hg rfl) rfl) ?_;refine Wk 0 Po ?_;refine Wp ?_ ?_<;>intro hc1
 ·have hno:numB most t0=none:=by
   by_cases hz:(1:Int)<=t0.size/\(t0.size:Int)<=most
   ·exact Eh (.inr (by have h9:=hc1;(try simp at h9);omega))
   exact Eh (.inl (by unfold AB;rw[show(decide ((1:Int)<=t0.size)&&decide ((t0.size:Int)<=most))=false by simp;omega];rfl))
  refine Nz 2 ?_;exact Wd (Qc (Cr (Qr (out2 rfl rfl rfl (Af (by rw[hno];rfl))))))
 have hsz:(1:Int)<=t0.size/\(t0.size:Int)<=most:=by have h9:=hc1;(try simp at h9);omega
 have hz0:byt t0 0=48->¬(1:Int)<t0.size:=by have h9:=hc1;(try simp at h9);omega
 refine Ck (Qc (Nz 1 ?_));refine Nv 1 ?_;refine Nu ?_;refine CS.loopM (σ:=Int×Int) (rsL [4,5,27,50]) (fun s=>[(7,.int .i64 s.1),(6,.int .i64 s.2)]) (fun _=>_) (fun s=>0<=s.1/\s.1<=t0.size/\(∀j:Int,0<=j->j<s.1->48<=byt t0 j/\byt t0 j<=57)/\s.2=numL ((bl t0).take s.1.toNat)/\(0<=s.2/\s.2<=999/\(s.1=0->s.2=0)/\(s.1=1->s.2<=9)/\(s.1=2->s.2<=99))) (fun s=>(t0.size-s.1).toNat) (0,0) (fun _ _=>rfl) rfl rfl ⟨by simp,by simp,fun j _ _=>by omega,rfl,by simp⟩ ?_;intro q t hs;obtain⟨hs1,hs2,hs3,hs4,hs5⟩:=hs;refine Cs (Nz 2 ?_);refine Wk 1 (Al underlying9 rfl) ?_;refine Wp ?_ ?_<;>intro hc2
 ·refine Ck (Qc (Cs (Ce (Cs (Nz 2 ?_)))));refine Wk 2 (An underlying9 rfl rfl (by omega) (by omega)) ?_;refine We 0 ?_;refine We 0 ?_;refine Wf 0 rfl rfl (fun hg=>An underlying9 (eg_ hg rfl) (eg_ hg rfl) (by(try simp only[bq]at hg);omega) (by(try simp only[bq]at hg);omega)) ?_;refine We 0 ?_;refine Wk 0 Po ?_;refine Wp ?_ ?_<;>intro hc3
  ·have hno:numB most t0=none:=Eh (.inl (by unfold AB;rw[R1 hs1 (show q.1<t0.size by omega) (by have h9:=hc3;(try simp at h9);omega)];simp));refine Nz 2 ?_;exact Wd (Qc (Cr (Qr (Qs (Qr (Qr (Qs (Qr (out2 rfl rfl rfl (Af (by rw[hno];rfl)))))))))))
  refine Ck (Qc (Ny 1 ?_));refine Wk 2 Zc ?_;refine Wk 0 (An underlying9 rfl rfl (by omega) (by omega)) ?_;refine Wk 0 (EC rfl rfl (by have h9:=hc3;(try simp at h9);have:=JO (t:=t0) (i:=q.1);omega)) ?_;refine Wk 0 (DG underlying5 underlying3 rfl (by have h9:=hc3;(try simp at h9);have:=JO (t:=t0) (i:=q.1);omega)) ?_;refine Wk 1 (ID rfl rfl (by have h9:=hc3;(try simp at h9);have:=JO (t:=t0) (i:=q.1);omega)) ?_;refine Wd (Qb (Qc (Ny 1 ?_)));refine Wk 1 Za ?_;refine Wd ?_
  exact QS.head ((q.1+1,10*q.2+(byt t0 q.1-48))) rfl rfl (by
     have h9:=hc3;(try simp at h9);have hb9:=JO (t:=t0) (i:=q.1);refine⟨⟨by simp;omega,by simp;omega,fun j h0 h1=>?_,by show _=numL ((bl t0).take (q.1+1).toNat);rw[Pd hs1 (by omega),hs4],by simp only;omega⟩,by simp only;omega⟩;rcases(show j<q.1\/j=q.1 by simp only at h1;omega)with h|h
     ·exact hs3 j h0 h
     rw[h];omega)
 have hfin:(bl t0).take q.1.toNat=bl t0:=List.take_of_length_le (by rw[Bp];omega)
 have hd:AB t0 most=true:=by
  unfold AB;rw[MX fun j h0 h1=>hs3 j h0 (by omega)];simp;omega
 have hyes:numB most t0=some (numL (bl t0)):=GC hd hz0;refine Cv (Qe (Qe (Qx (Qc (Nz 3 ?_)))));exact Wd (Qc (Cr (out2 rfl rfl rfl (Af (by rw[hyes,hs4,hfin];rfl)))))
variable {i:Int}
section
variable {P:Program} {n0:Nat} {w0:World} {L:List SA} {l:List Value} {d:Option Tmp} {ty:TypeId} {ps:String} {af:Array Edge} {g:Option (Nat×Bool)} {α:Type} [Inhabited α] {C:Cel α}
theorem Sq {T e:TypeId} {z j:Nat} {x:Operand} {v y:Value} {xs:List α} (hj:L[j]? = some (oT C e v xs)) (hx:evo l x=some (.pointer (some (sla v (i.toNat*1))))) (hk:C.k=1) (h:0<=i/\i<xs.length)
  (hc:(C.cells (nth xs i))[0]? = some y) (hT:tk P T=some (false,z)):Det P (St n0 w0 L) ⟨d,.load T x,ty,ps,af,g⟩ l y:=
 Gq 1 0 hj (by rw[hx,sla,Nat.add_zero]) hk h (by decide) hc hT
end
structure RlS where
 r:Room
 ws:Sl ByteArray
 bad:Bool
def el4 (r:Room) (u:World):Prop:=(∀x∈r.prs.l,cPro.ok u x)/\(∀x∈r.wys.l,cWay.ok u x)/\(∀x∈r.acs.l,cAct.ok u x)/\(∀x∈r.aus.l,cAuto.ok u x)
structure RB where
 b:Nat
 x:List Value
 t:TypeId
def BS (rb:RB) (r:Room):List SA:=[blk rb.b (Room.cells r++rb.x) rb.t,oT cStr 9 r.pls.v r.pls.l,oT cThing 105 r.ths.v r.ths.l,oT cPro 170 r.prs.v r.prs.l,oT cWay 172 r.wys.v r.wys.l,oT cAct 160 r.acs.v r.acs.l,
 oT cAuto 177 r.aus.v r.aus.l,roS (el4 r),oT cLit 103 r.gl.v r.gl.l]
def As (lb:Nat) (rb:RB) (s:RlS):List SA:=blk lb [.pointer (some ⟨rb.b,0,none⟩),s.ws.v,.bool s.bad] 267::roT cStr s.ws::BS rb s.r
def rl (lb:Nat) (rb:RB) (s:RlS):SA:=star (As lb rb s)
structure RlS.ok (s:RlS):Prop where
 sz:∀y∈s.ws.l,y.size<=65536
 len:s.ws.l.length<=65537
variable {γ:Type}
def RlX (w:World) (R:SA) (lb:Nat) (rb:RB) (s:RlS) (spec:Option (γ×Wds)) (val:γ->Value) (pv:γ->Prop:=fun _=>True):Ending->World->Prop:=
 RetX (β:=RlS×γ) w R [] (fun x=>x.1.r=s.r/\x.1.ws.l <:+s.ws.l/\Rel s.bad spec x.2 x.1.ws.l x.1.bad/\pv x.2) False (fun x=>val x.2) (fun x=>rl lb rb x.1)
variable {w u:World} {lb:Nat} {rb:RB} {s:RlS} {val:γ->Value} {pv:γ->Prop} {args:Array Value}
theorem RlX.lw {Ls:List SA} {spec:Option (γ×Wds)} {f:FuncId} (h:Calls prog f args u (RlX w (star Ls) lb rb s spec val pv)):
  Calls prog f args u (fun e u'=>(∃x:(Sl ByteArray×Bool)×γ,(Rel s.bad spec x.2 x.1.1.l x.1.2/\x.1.1.l <:+s.ws.l/\pv x.2)/\e = .returned (val x.2)/\St w.heap.size w (rl lb rb ⟨s.r,x.1.1,x.1.2⟩::Ls) u')\/(False/\e = .panicked []/\St w.heap.size w Ls u')):=by
 refine(RetX.ls h).mono ?_;rintro e u' (⟨⟨s1,x⟩,⟨h1,h2,h3,h6⟩,h4,h5⟩|h)
 ·refine .inl ⟨((s1.ws,s1.bad),x),⟨h3,h2,h6⟩,h4,?_⟩;rw[<-show s1.r=s.r from h1];exact h5
 exact .inr h
variable {w0:World} {b:Bool}
theorem F7 {R:SA} {spec:Option (γ×Wds)} {v:γ} {ws:Sl ByteArray} (h:Rel s.bad spec v ws.l b) (hs:ws.l <:+s.ws.l) (hu:St w0.heap.size w0 [rl lb rb ⟨s.r,ws,b⟩,R] u) (hv:pv v:=by trivial):RlX w0 R lb rb s spec val pv (.returned (val v)) u:=
 .inl ⟨(⟨s.r,ws,b⟩,v),⟨rfl,hs,h,hv⟩,rfl,hu⟩
theorem QH {l:Wds} (h:(l.length:Int)=0):BN l=none:=by
 cases l with
 |nil=>rfl
 |cons a l=>simp only[List.length_cons]at h;omega
variable {b1:Bool} {ws:Wds}
theorem YU {t:ByteArray} {w:Wds} (h:Rel b (some (isW t ws,if isW t ws then ws.tail else ws)) true w b1):Rel b (Kr t ws) () w b1:=by
 refine⟨h.bt,fun h1 h2=>?_,fun h1 h2=>?_⟩
 ·have:=BD (h.ok h1 h2);rw[Kr,this];rfl
 cases h.no h1 h2
theorem Zr {t:ByteArray} {w:Wds} (h:Rel b (some (isW t ws,if isW t ws then ws.tail else ws)) false w b1):Rel b (Kr t ws) () w true:=Rel.bad fun h1=>by
 cases h2:b1 with
 |false=>
  have:=BD (h.ok h1 h2);rw[Kr,this];rfl
 |true=>cases h.no h1 h2
variable {n0:Nat} {L:List SA}
theorem Jc1 (h:St n0 w0 (As lb rb s++L) u):SlT cStr u s.r.pls:=Bk h (j:=3) rfl fun _ _=>trivial
theorem Jcb (h:St n0 w0 (As lb rb s++L) u):SlT cThing u s.r.ths:=Bk h (j:=4) rfl fun _ _=>trivial
theorem Jcc (h:St n0 w0 (As lb rb s++L) u):SlT cPro u s.r.prs:=Bk h (j:=5) rfl ((h.ro (j:=9) rfl:el4 s.r u).1)
theorem OB (R:SA) (lb:Nat) (rb:RB) (sx:RlS) (hu:St w.heap.size w [rl lb rb sx,R] u) (hz:sx.ok):
  Calls prog 193 #[.pointer (some ⟨lb,0,none⟩)] u (RlX w R lb rb sx (BN sx.ws.l) .string (fun y=>y.size<=65536)):=by
 refine Ei hu func193 ?_;refine CS.weak (fun u hu=>St.unpack (L1:=As lb rb sx) hu) ?_;refine CS.roE (j:=1) rfl fun hwx=>?_;obtain⟨uw,hw⟩:=hwx;refine Nz 1 ?_;refine Nv 3 ?_;refine Wk 0 (Ba 0) ?_;refine Wk 1 (Nc (s:=sx.ws)) ?_;refine Wp ?_ ?_<;>intro hc1
 ·refine Nz 3 ?_;refine Ws 0 0 ?_;refine Nx 1 ?_;exact Wd (Qc (Cr (Qr (out1 rfl rfl (fun u hu=>F7 (ws:=sx.ws) (Rel.bad fun _=>QH hc1) (List.suffix_refl _) (St.pack (L1:=As lb rb ⟨sx.r,sx.ws,true⟩) hu) (by decide))))))
 have hoc:(sub2 1 sx.ws.v 1 sx.ws.l.length).oneCell'=true:=Sl.one (hw.cut (lo:=1) (hi:=sx.ws.l.length) (by omega) (Nat.le_refl _));refine Ck (Qc (Nz 3 ?_));refine Wk 0 (Ba 0) ?_;refine Wk 0 (Xc (s:=sx.ws)) ?_;refine Wk 1 (Vb 1 rfl (s:=sx.ws)) ?_;refine Nx 4 ?_;refine Wk 0 (Ba 0) ?_;refine Wk 2 (Bf sl23 rfl rfl hw.sp (by decide) (by omega)) ?_;refine Ws 0 0 ?_;refine Nx 2 ?_;refine Wd (Qc (Cr ?_));refine QS.sel [1,0,0,0,0,0,0,0,0,0,0,0] rfl ?_;refine QS.weak (fun u hu=>St.roCut (lo:=1) (hi:=sx.ws.l.length) hu (by omega) (Nat.le_refl _)) ?_;refine QS.sel [1,0,0,0,0,0,0,0,0,0,0,0] rfl ?_;exact out1 rfl rfl (fun u hu=>F7 (ws:=sx.ws.cut 1 1 sx.ws.l.length) (Rel.same (by rw[Ev (by omega)];exact congrArg _ (congrArg _ (CZ _).symm))) (KA sx.ws) (St.pack (L1:=As lb rb ⟨sx.r,sx.ws.cut 1 1 sx.ws.l.length,sx.bad⟩) hu) (hz.sz _ (Ai (by omega) (by omega))))
theorem Is_c (R:SA) (lb:Nat) (rb:RB) (sx:RlS) (hu:St w.heap.size w [rl lb rb sx,R] u) (t0:ByteArray):
  Calls prog 198 #[.pointer (some ⟨lb,0,none⟩),.string t0] u (RlX w R lb rb sx (some (isW t0 sx.ws.l,if isW t0 sx.ws.l then sx.ws.l.tail else sx.ws.l)) .bool):=by
 refine Ei hu func198 ?_;refine CS.weak (fun u hu=>St.unpack (L1:=As lb rb sx) hu) ?_;refine CS.roE (j:=1) rfl fun hwx=>?_;obtain⟨uw,hw⟩:=hwx;refine Nz 1 ?_;refine Nv 3 ?_;refine Wk 0 (Ba 0) ?_;refine Wk 2 (Nc (s:=sx.ws)) ?_;refine We 0 ?_;refine We 0 ?_;refine We 0 ?_;refine We 0 ?_;refine Wf 0 rfl rfl (fun hg=>Xc (s:=sx.ws)) ?_;refine Wf 0 rfl rfl (fun hg=>Vb 1 rfl (s:=sx.ws)) ?_;refine We 0 ?_;refine Wf 0 rfl rfl (fun hg=>A3 (eg_ hg rfl) (eg_ hg rfl)) ?_;refine Wk 0 Po ?_;refine Wp ?_ ?_<;>intro hc1
 ·have hno:isW t0 sx.ws.l=false:=by
   rcases Nat.eq_zero_or_pos sx.ws.l.length with h0|h0
   ·exact NH h0
   rw[GD h0];rcases hc1 with h|h
   ·omega
   exact h
  refine Nz 1 ?_;exact Wd (Qc (Cr (Qr (out1 rfl rfl (fun u hu=>F7 (ws:=sx.ws) (v:=false) (Rel.same (by rw[hno];rfl)) (List.suffix_refl _) (St.pack (L1:=As lb rb ⟨sx.r,sx.ws,sx.bad⟩) hu))))))
 have hl:0<sx.ws.l.length:=by omega
 have hyes:isW t0 sx.ws.l=true:=by rw[GD hl];exact hc1.2
 have hoc:(sub2 1 sx.ws.v 1 sx.ws.l.length).oneCell'=true:=Sl.one (hw.cut (lo:=1) (hi:=sx.ws.l.length) (by omega) (Nat.le_refl _));refine Ck (Qc (Nz 4 ?_));refine Wk 0 (Ba 0) ?_;refine Wk 2 (Bf sl23 rfl rfl hw.sp (by decide) (by omega)) ?_;refine Ws 0 0 ?_;refine Nx 1 ?_;refine Wd (Qc (Cr ?_));refine QS.sel [1,0,0,0,0,0,0,0,0,0,0,0] rfl ?_;refine QS.weak (fun u hu=>St.roCut (lo:=1) (hi:=sx.ws.l.length) hu (by omega) (Nat.le_refl _)) ?_;refine QS.sel [1,0,0,0,0,0,0,0,0,0,0,0] rfl ?_;exact out1 rfl rfl (fun u hu=>F7 (ws:=sx.ws.cut 1 1 sx.ws.l.length) (v:=true) (Rel.same (by rw[hyes];exact congrArg _ (congrArg _ (CZ _).symm))) (KA sx.ws) (St.pack (L1:=As lb rb ⟨sx.r,sx.ws.cut 1 1 sx.ws.l.length,sx.bad⟩) hu))
theorem JB (R:SA) (lb:Nat) (rb:RB) (sx:RlS) (hu:St w.heap.size w [rl lb rb sx,R] u) (t0:ByteArray):
  Calls prog 195 #[.pointer (some ⟨lb,0,none⟩),.string t0] u (RlX w R lb rb sx (Kr t0 sx.ws.l) (fun _=>.tuple #[])):=by
 refine Ei hu func195 ?_;refine Nz 2 ?_;refine WS.callP rfl rfl Iz (fun u hu=>RlX.lw (Is_c (star _) lb rb sx (St.tailPack hu) t0)) (fun _=>rfl) (fun hq u hu=>hq.elim) ?_;rintro⟨⟨w1,b1⟩,c⟩ ⟨hr,hs,_⟩;refine Wz 1 ?_;refine Wp ?_ ?_<;>intro hc1
 ·subst hc1;refine Ny 3 ?_;refine WS.weak (fun u hu=>St.unpack (L1:=As lb rb ⟨sx.r,w1,b1⟩) hu) ?_;refine Ws 0 0 ?_;refine WS.weak (fun u hu=>(St.pack (L1:=As lb rb ⟨sx.r,w1,true⟩) hu)) ?_;exact Wd (out0 (Or.inr rfl) rfl (fun u hu=>F7 (val:=fun _=>.tuple #[]) (v:=()) (Zr hr) hs hu))
 subst hc1;exact Ck (out0 (Or.inr rfl) rfl (fun u hu=>F7 (val:=fun _=>.tuple #[]) (v:=()) (YU hr) hs hu))
variable {l:List Thing}
theorem SB {t:ByteArray} {q:Int} (h0:0<=q) (h1:q<l.length) (hl:Au t=true) (hn:∀j:Int,0<=j->j<q->seq (nth l j).nm t=false) (h:seq (nth l q).nm t=true):
  (if Au t=true/\0<=idxN Thing.nm l t then some (idxN Thing.nm l t,ws)else none)=some (q,ws):=by
 have e:idxN Thing.nm l t=q:=by unfold idxN;exact AM (p:=fun x:Thing=>seq x.nm t) (xs:=l) h0 h1 hn h
 rw[e,if_pos ⟨hl,h0⟩]
theorem P6 {t:ByteArray} (hn:Au t=true->∀j:Int,0<=j->j<l.length->seq (nth l j).nm t=false):
  (if Au t=true/\0<=idxN Thing.nm l t then some (idxN Thing.nm l t,ws)else none)=none:=by
 rw[if_neg];rintro⟨h1,h2⟩;have e:idxN Thing.nm l t = -1:=by unfold idxN;exact A2 (p:=fun x:Thing=>seq x.nm t) (xs:=l) (hn h1)
 omega
theorem Zn {nm:ByteArray} {w:Wds} (h:Rel b (BN ws) nm w b1) (hl:Au nm=false):Rel b (CL ws) nm w true:=h.fail (p:=fun x=>Au x.1=true) (by simp[hl])
theorem Ze {nm:ByteArray} {w:Wds} (h:Rel b (BN ws) nm w b1) (hl:Au nm=true):Rel b (CL ws) nm w b1:=h.ask (p:=fun x=>Au x.1=true) hl
variable {tx:ByteArray}
theorem Jfx {w:Wds} {m n:Int} (h:Rel b (BN ws) tx w b1) (hl:numB m tx=none):Rel b (numW m ws) n w true:=by
 refine Rel.bad fun hb=>?_;cases h2:b1 with
 |false=>rw[I4 (h.ok hb h2),hl];rfl
 |true=>rw[numW,h.no hb h2];rfl
theorem Jf0 {w:Wds} {m n:Int} (h:Rel b (BN ws) tx w b1) (hl:numB m tx=some n):Rel b (numW m ws) n w b1:=by
 refine⟨h.bt,fun hb h2=>?_,fun hb h2=>?_⟩
 ·rw[I4 (h.ok hb h2),hl];rfl
 rw[numW,h.no hb h2];rfl
variable {α:Type} {f:α->ByteArray}
theorem Pp {l:List α} {nm:ByteArray} {w:Wds} (h:Rel b (CL ws) nm w b1) (hi:idxN f l nm=i) (h0:0<=i):Rel b (A8 f l ws) i w b1:=by
 subst hi;exact h.bind (f:=fun x=>if 0<=idxN f l x.1 then some (idxN f l x.1,x.2)else none) (Rel.same (if_pos h0))
theorem PQ {l:List α} {nm:ByteArray} {w:Wds} (h:Rel b (CL ws) nm w b1) (hi:idxN f l nm = -1):Rel b (A8 f l ws) i w true:=
 h.bind (f:=fun x=>if 0<=idxN f l x.1 then some (idxN f l x.1,x.2)else none) (Rel.bad fun _=>if_neg (by simp only;omega))
theorem IJ (R:SA) (lb:Nat) (rb:RB) (sx:RlS) (hu:St w.heap.size w [rl lb rb sx,R] u) (hz:sx.ok):
  Calls prog 194 #[.pointer (some ⟨lb,0,none⟩)] u (RlX w R lb rb sx (CL sx.ws.l) .string (fun y=>y.size<=65536)):=by
 refine Ei hu func194 ?_;refine Nz 1 ?_;refine Nx 1 ?_;refine WS.callP rfl rfl Pw (fun u hu=>RlX.lw (OB (star _) lb rb sx (St.tailPack hu) hz)) (fun _=>rfl) (fun hq u hu=>hq.elim) ?_;rintro⟨⟨w1,b1⟩,nm⟩ ⟨hr1,hx1,hm1⟩;have hm2:nm.size<=65536:=hm1;refine Wz 1 ?_;refine Wd (Qc ?_);refine CS.cut (σ:=Bool) [6,7,8,9,10,11] (fun s=>[]) (fun s=>[rl lb rb ⟨sx.r,w1,s⟩,R]) (fun s=>Rel sx.bad (CL sx.ws.l) nm w1.l s) (fun _ _=>rfl) ?_ ?_
 ·refine Nz 1 ?_;refine Wk 1 (Cb rfl rfl Pv (fun u hu=>F1 nm u (by omega))) ?_;refine Wp ?_ ?_<;>intro hc1
  ·refine Ny 3 ?_;refine WS.weak (fun u hu=>St.unpack (L1:=As lb rb ⟨sx.r,w1,b1⟩) hu) ?_;refine Ws 0 0 ?_;refine WS.weak (fun u hu=>(St.pack (L1:=As lb rb ⟨sx.r,w1,true⟩) hu)) ?_;exact Wd (QS.head (true) rfl rfl (Zn hr1 hc1))
  exact Ck (QS.head (b1) rfl rfl (Ze hr1 hc1))
 intro z t hs;have hz9:=hs;refine Nz 2 ?_;exact Wd (Qc (Cr (out1 rfl rfl (fun u hu=>F7 hz9 hx1 hu hm1))))
theorem Lw (R:SA) (lb:Nat) (rb:RB) (sx:RlS) (hu:St w.heap.size w [rl lb rb sx,R] u) (hz:sx.ok) (most:Int) (hmo:most<=3):
  Calls prog 197 #[.pointer (some ⟨lb,0,none⟩),.int .i64 most] u (RlX w R lb rb sx (numW most sx.ws.l) (.int .i64)):=by
 refine Ei hu func197 ?_;refine Nz 1 ?_;refine Nx 1 ?_;refine WS.callP rfl rfl Pw (fun u hu=>RlX.lw (OB (star _) lb rb sx (St.tailPack hu) hz)) (fun _=>rfl) (fun hq u hu=>hq.elim) ?_;rintro⟨⟨w1,b1⟩,nm⟩ ⟨hr1,hx1,hm1⟩;have hm2:nm.size<=65536:=hm1;refine Wz 1 ?_;refine Wk 5 (Cb rfl rfl RP (fun u hu=>K7 nm most u (by omega) hmo)) ?_;refine Wd (Qc ?_);refine CS.cut (σ:=Bool) [14,15,16,17,18] (fun s=>[]) (fun s=>[rl lb rb ⟨sx.r,w1,s⟩,R]) (fun s=>Rel sx.bad (numW most sx.ws.l) ((numB most nm).getD 0) w1.l s) (fun _ _=>rfl) ?_ ?_
 ·refine Nz 2 ?_;refine Wp ?_ ?_<;>intro hc1
  ·have hno:numB most nm=none:=by cases h:numB most nm<;>simp_all
   refine Ny 3 ?_;refine WS.weak (fun u hu=>St.unpack (L1:=As lb rb ⟨sx.r,w1,b1⟩) hu) ?_;refine Ws 0 0 ?_;refine WS.weak (fun u hu=>(St.pack (L1:=As lb rb ⟨sx.r,w1,true⟩) hu)) ?_;exact Wd (QS.head (true) rfl rfl (Jfx hr1 hno))
  obtain⟨n,hyes⟩:∃n,numB most nm=some n:=by cases h:numB most nm<;>simp_all
  exact Ck (QS.head (b1) rfl rfl (by rw[hyes];exact Jf0 hr1 hyes))
 intro z t hs;have hz9:=hs;refine Nz 2 ?_;exact Wd (Qc (Cr (out1 rfl rfl (fun u hu=>F7 hz9 hx1 hu))))
theorem ET (R:SA) (lb:Nat) (rb:RB) (sx:RlS) (hu:St w.heap.size w [rl lb rb sx,R] u) (hz:sx.ok):
  Calls prog 196 #[.pointer (some ⟨lb,0,none⟩)] u (RlX w R lb rb sx (A8 id sx.r.pls.l sx.ws.l) (.int .i64)):=by
 refine Ei hu func196 ?_;refine Nz 1 ?_;refine Nx 1 ?_;refine WS.callP rfl rfl IQ (fun u hu=>RlX.lw (IJ (star _) lb rb sx (St.tailPack hu) hz)) (fun _=>rfl) (fun hq u hu=>hq.elim) ?_;rintro⟨⟨w1,b1⟩,nm⟩ ⟨hr1,hx1,hm1⟩;have hm2:nm.size<=65536:=hm1;refine Wz 1 ?_;refine Wd (Qc (Cs (Cs ?_)));refine CS.weak (fun u hu=>St.unpack (L1:=As lb rb ⟨sx.r,w1,b1⟩) hu) ?_;refine CS.stE fun hst=>?_;obtain⟨up,hup⟩:=hst;have hpl:SlT cStr up sx.r.pls:=Jc1 (lb:=lb) (rb:=rb) (s:=⟨sx.r,w1,b1⟩) hup;have hlp:sx.r.pls.l.length<=9223372036854775807:=hpl.le;refine Ny 1 ?_;refine Nu ?_;refine CS.loopM (σ:=Int) (rsL [2,2,7,31]) (fun s=>[(4,.int .i64 s)]) (fun _=>_) (fun s=>0<=s/\s<=sx.r.pls.l.length/\∀j:Int,0<=j->j<s->seq (nth sx.r.pls.l j) nm=false) (fun s=>(sx.r.pls.l.length-s).toNat) 0 (fun _ _=>rfl) rfl rfl ⟨by omega,by omega,fun j _ _=>by omega⟩ ?_;intro q t hs;obtain⟨hq1,hq2,hq3⟩:=hs;refine Cs (Nz 4 ?_);refine Wk 2 (Ba 0) ?_;refine Wk 0 (Ba 2) ?_;refine Wk 1 (B7 (j:=3) sl23 rfl rfl) ?_;refine Wp ?_ ?_<;>intro hc1
 ·refine Ck (Qc (Cs (Ce (Nz 3 ?_))));refine Wk 2 (Ba 0) ?_;refine Wk 1 (Ba 2) ?_;refine Wk 0 (FL (s:=sx.r.pls) sl23 rfl rfl hpl rfl (by omega) (by omega)) ?_;refine Wk 1 (Sq (j:=3) rfl rfl rfl ⟨by omega,by omega⟩ rfl tk9) ?_;refine Wk 0 (Ah rfl rfl) ?_;refine Wp ?_ ?_<;>intro hc2
  ·refine Nz 2 ?_;exact Wd (Qc (Cr (Qs (Qr (Qr (Qs (Qr (out1 rfl rfl (fun u hu=>F7 (Pp hr1 (AM (p:=fun x=>seq (id x) nm) hq1 (by omega) hq3 hc2) hq1) hx1 (St.pack (L1:=As lb rb ⟨sx.r,w1,b1⟩) hu))))))))))
  refine Ck (Qb (Qc (Ny 1 ?_)));refine Wk 1 Za ?_;refine Wd ?_
  exact QS.head (q+1) rfl rfl ⟨⟨by omega,by omega,fun j h0 h1=>by
     rcases(show j<q\/j=q by omega)with h|h
     ·exact hq3 j h0 h
     rw[h];exact hc2⟩,by omega⟩
 refine Cv (Qe (Qe (Qx (Qc (Nz 3 ?_)))));refine Ws 0 0 ?_;refine Nx 1 ?_;exact Wd (Qc (Cr (out1 rfl rfl (fun u hu=>F7 (PQ hr1 (A2 (p:=fun x=>seq (id x) nm) fun j h0 h1=>hq3 j h0 (by omega))) hx1 (St.pack (L1:=As lb rb ⟨sx.r,w1,true⟩) hu)))))
theorem Xm (R:SA) (lb:Nat) (rb:RB) (sx:RlS) (hu:St w.heap.size w [rl lb rb sx,R] u) (t0:ByteArray) (ht:t0.size<=65536):
  Calls prog 275 #[.pointer (some ⟨lb,0,none⟩),.string t0] u (RlX w R lb rb sx (if Au t0=true/\0<=idxN Thing.nm sx.r.ths.l t0 then some (idxN Thing.nm sx.r.ths.l t0,sx.ws.l)else none) (.int .i64)):=by
 refine Ei hu func275 ?_;refine CS.weak (fun u hu=>St.unpack (L1:=As lb rb sx) hu) ?_;refine CS.stE fun hst=>?_;obtain⟨up,hup⟩:=hst;have hth:SlT cThing up sx.r.ths:=Jcb (lb:=lb) (rb:=rb) (s:=sx) hup;have hlp:sx.r.ths.l.length<=9223372036854775807:=hth.le;refine Nz 1 ?_;refine Nv 1 ?_;refine Nu ?_;refine CS.loopM (σ:=Int) (rsL [4,4,6,35]) (fun s=>[(5,.int .i64 s)]) (fun _=>_) (fun s=>0<=s/\s<=sx.r.ths.l.length/\∀j:Int,0<=j->j<s->seq (nth sx.r.ths.l j).nm t0=false\/Au t0=false) (fun s=>(sx.r.ths.l.length-s).toNat) 0 (fun _ _=>rfl) rfl rfl ⟨by omega,by omega,fun j _ _=>by omega⟩ ?_;intro q t hs;obtain⟨hq1,hq2,hq3⟩:=hs;refine Cs (Nz 4 ?_);refine Wk 2 (Ba 0) ?_;refine Wk 0 (Ba 2) ?_;refine Wk 1 (B7 (j:=4) sl24 rfl rfl) ?_;refine Wp ?_ ?_<;>intro hc1
 ·refine Ck (Qc (Cs (Ce (Nz 3 ?_))));refine Wk 2 (Ba 0) ?_;refine Wk 1 (Ba 2) ?_;refine Wk 1 (FL (s:=sx.r.ths) sl24 rfl rfl hth rfl (by omega) (by omega)) ?_;refine Wk 1 (Gq 4 0 (j:=4) rfl rfl rfl ⟨by omega,by omega⟩ (by decide) rfl tk9) ?_;refine Wk 1 (Ah rfl rfl) ?_;refine Wj 0 ?_;refine Wt 0 rfl rfl (fun hg=>Cb rfl (ec_ (eg_ hg rfl) en_) Pv (fun u hu=>F1 t0 u (by omega))) ?_;refine Wk 0 Pa ?_;refine Wp ?_ ?_<;>intro hc2
  ·refine Nz 2 ?_;exact Wd (Qc (Cr (Qs (Qr (Qr (Qs (Qr (out1 rfl rfl (fun u hu=>F7 (Rel.same (SB hq1 (by omega) hc2.2 (fun j h0 h1=>(hq3 j h0 h1).resolve_right (by rw[hc2.2];decide)) hc2.1)) (List.suffix_refl _) (St.pack (L1:=As lb rb sx) hu))))))))))
  refine Ck (Qb (Qc (Ny 1 ?_)));refine Wk 1 Za ?_;refine Wd ?_
  exact QS.head (q+1) rfl rfl ⟨⟨by omega,by omega,fun j h0 h1=>by
     rcases(show j<q\/j=q by omega)with h|h
     ·exact hq3 j h0 h
     rw[h];exact hc2⟩,by omega⟩
 refine Cv (Qe (Qe (Qx (Qc (Nz 3 ?_)))));refine Ws 0 0 ?_;refine Nx 1 ?_;exact Wd (Qc (Cr (out1 rfl rfl (fun u hu=>F7 (ws:=sx.ws) (b:=true) (Rel.bad fun _=>P6 fun hl j h0 h1=>(hq3 j h0 (by omega)).resolve_right (by rw[hl];decide)) (List.suffix_refl _) (St.pack (L1:=As lb rb ⟨sx.r,sx.ws,true⟩) hu)))))
theorem PY (R:SA) (lb:Nat) (rb:RB) (sx:RlS) (hu:St w.heap.size w [rl lb rb sx,R] u) (hz:sx.ok):
  Calls prog 201 #[.pointer (some ⟨lb,0,none⟩)] u (RetX w R [] (fun _:Unit=>True) False (fun _=>.bool (Kp sx.bad sx.ws.l)) (fun _=>rl lb rb sx)):=by
 refine Ei hu func201 ?_;refine CS.weak (fun u hu=>St.unpack (L1:=As lb rb sx) hu) ?_;refine CS.roE (j:=1) rfl fun hwx=>?_;obtain⟨uw,hw⟩:=hwx;refine Nz 1 ?_;refine Nx 3 ?_;refine Wk 2 (Ba 0) ?_;refine Wj 0 ?_;refine Wj 0 ?_;refine Wj 0 ?_;refine Wj 0 ?_;refine Wt 0 rfl rfl (fun hg=>Nc (s:=sx.ws)) ?_;refine Wj 0 ?_;refine Wk 1 Pa ?_;refine Wj 0 ?_;refine Wj 0 ?_;refine Wj 0 ?_;refine Wj 0 ?_;refine Wt 0 rfl rfl (fun hg=>Xc (s:=sx.ws) (h1:=by(try simp only[bq]at hg);omega)) ?_;refine Wt 0 rfl rfl (fun hg=>Vb 1 rfl (s:=sx.ws) (h:=⟨by decide,by(try simp only[bq]at hg);omega⟩)) ?_;refine Wt 0 rfl rfl (fun hg=>Cb rfl (ec_ (eg_ hg rfl) en_) Jex (fun u hu=>ZG _ u (by have:=hz.sz _ (Ai (xs:=sx.ws.l) (i:=0) (by decide) (by(try simp only[bq]at hg);omega));omega))) ?_;refine Wj 0 ?_;refine Wk 1 Pa ?_;exact Wd (Qc (Cr (out1 rfl rfl (fun u hu=>.inl ⟨(),trivial,by simp only[Kp];rw[Bool.and_assoc],(St.pack (L1:=As lb rb sx) hu)⟩))))
theorem Jan {t:ByteArray} {q:Int} (h0:0<=q) (h1:q<=t.size) (hn:∀j:Int,0<=j->j<q->byt t j≠61/\byt t j≠33) (h:q=t.size\/byt t q=61\/byt t q=33):(AJ t:Int)=q:=by
 obtain⟨n,rfl⟩:∃n:Nat,q=n:=⟨q.toNat,by omega⟩
 have hno:∀(j:Nat) c,j<n->(bl t)[j]? = some c->¬sgn c:=fun j c hj hc hs=>by
  have hlt:=Tg hc;have e:=Ej hlt;have hc2:(bl t)[j]'(by rw[Bp];exact hlt)=c:=(List.getElem?_eq_some_iff.1 hc).2;rw[hc2]at e;have:=hn j (by omega) (by omega);rcases hs with rfl|rfl
  ·exact this.1 (by rw[e];rfl)
  exact this.2 (by rw[e];rfl)
 rcases h with h|h
 ·have:AJ t=(bl t).length:=FV fun j c hc=>hno j c (by have:=Tg hc;omega) hc;rw[Bp]at this;omega
 by_cases hl:n<t.size
 ·have e:=Ej hl
  have:AJ t=n:=Ip (b:=(bl t)[n]'(by rw[Bp];exact hl)) hno (List.getElem?_eq_getElem _) (by
   rw[e]at h;rcases h with h|h
   ·exact .inl (UInt8.toNat_inj.1 (by show _=61;omega))
   exact .inr (UInt8.toNat_inj.1 (by show _=33;omega)))
  omega
 have:AJ t=(bl t).length:=FV fun j c hc=>hno j c (by have:=Tg hc;omega) hc;rw[Bp]at this;omega
variable {ths:List Thing} {b2:Bool}
theorem Jaf {nt:Bool} {nm:ByteArray} {w1 w3:Wds} {b3:Bool} {idx:Int} (h1:Rel b (BN ws) nm w1 b1) (hs:AJ nm<nm.size) (hn:¬(byt nm (AJ nm)=33/\nt=false))
  (h2:b2=if(numB 2 (nm.extract (AJ nm+1) nm.size)).isSome then b1 else true)
  (h3:Rel b2 (if Au (nm.extract 0 (AJ nm))=true/\0<=idxN Thing.nm ths (nm.extract 0 (AJ nm))then some (idxN Thing.nm ths (nm.extract 0 (AJ nm)),w1)else none) idx w3 b3):
  Rel b (litW ths nt ws) ⟨idx,(numB 2 (nm.extract (AJ nm+1) nm.size)).getD 0,decide (byt nm (AJ nm)=33)⟩ w3 b3:=by
 refine h1.bind ?_;have hb2:b1=true->b2=true:=fun h=>by rw[h2,h];split<;>rfl
 refine⟨fun h=>h3.bt (hb2 h),fun h h'=>?_,fun h h'=>?_⟩
 ·have hbf:b2=false:=by
   cases hb:b2 with
   |false=>rfl
   |true=>have:=h3.bt hb;rw[h']at this;cases this
  have h4:=h3.ok hbf h';split at h4
  ·rename_i hl;simp only[Option.some.injEq,Prod.mk.injEq]at h4;obtain⟨rfl,rfl⟩:=h4;cases hm:numB 2 (nm.extract (AJ nm+1) nm.size)with
   |none=>rw[hm]at h2;simp[hbf]at h2
   |some n=>
    simp only[litT,hs,hl.1,hl.2,and_self,if_true,hm,Option.map_some,Option.bind_some,Option.getD_some];rw[if_neg];intro h5;simp only[Bool.and_eq_true,decide_eq_true_eq,Bool.not_eq_true']at h5;exact hn h5
  cases h4
 have hln:litT ths nm=none:=by
  cases hm:numB 2 (nm.extract (AJ nm+1) nm.size)with
  |none=>unfold litT;split<;>simp[hm]
  |some n=>
   rw[hm]at h2;have h5:=h3.no (by rw[h2];exact h) h';split at h5
   ·cases h5
   rename_i hl;unfold litT;rw[if_neg fun h6=>hl h6.2]
 simp only[hln];rfl
variable {a:Lit}
theorem Zf {nt:Bool} {nm:ByteArray} {w1 w3:Wds} (h1:Rel b (BN ws) nm w1 b1) (h:(AJ nm:Int)=nm.size\/(byt nm (AJ nm)=33/\nt=false)):Rel b (litW ths nt ws) a w3 true:=by
 refine h1.bind (Rel.bad fun _=>?_);rcases h with h|h
 ·have:litT ths nm=none:=by unfold litT;rw[if_neg fun h6=>by have:=h6.1;omega]
  simp only[this];rfl
 cases hl:litT ths nm with
 |none=>rfl
 |some a=>
  have:a.nt=true:=by
   unfold litT at hl;split at hl
   ·obtain⟨n,_,e⟩:=Option.map_eq_some_iff.1 hl;rw[<-e];simpa using h.1
   cases hl
  simp[this,h.2]
theorem FX (R:SA) (lb:Nat) (rb:RB) (sx:RlS) (hu:St w.heap.size w [rl lb rb sx,R] u) (hz:sx.ok) (nt:Bool):
  Calls prog 202 #[.pointer (some ⟨lb,0,none⟩),.bool nt] u (RlX w R lb rb sx (litW sx.r.ths.l nt sx.ws.l) (fun a=>.agg (cLit.cells a).toArray)):=by
 refine Ei hu func202 ?_;refine Nz 0 ?_;refine Wq 0 Cu fun b4 hb4=>?_;refine Nx 1 ?_;refine WS.callP rfl rfl Pw (fun u hu=>RlX.lw (OB (star _) lb rb sx (St.tailPack (hu.sel [1,0,0] rfl)) hz)) (fun _=>rfl) (fun hq u hu=>hq.elim) ?_;rintro⟨⟨w1,b1⟩,nm⟩ ⟨hr1,hx1,hm1⟩;have hm2:nm.size<=65536:=hm1;have hm3:(nm.size:Int)<=65536:=by omega
 refine Wz 1 ?_;refine Nx 1 ?_;refine Wd (Qc (Cs (Ce ?_)));refine CS.loopM (σ:=Int) (rsL [11,28]) (fun s=>[(6,.int .i64 s)]) (fun _=>_) (fun s=>0<=s/\s<=nm.size/\∀j:Int,0<=j->j<s->byt nm j≠61/\byt nm j≠33) (fun s=>(nm.size-s).toNat) 0 (fun _ _=>rfl) rfl rfl ⟨by omega,by omega,fun j _ _=>by omega⟩ ?_;intro q t hs;obtain⟨hq1,hq2,hq3⟩:=hs;refine Cs (Nz 2 ?_);refine Wk 2 (Al underlying9 rfl) ?_;refine Wj 0 ?_;refine Wj 0 ?_;refine Wt 0 rfl rfl (fun hg=>An underlying9 (eg_ hg rfl) (eg_ hg rfl) (by omega) (by(try simp only[bq]at hg);show q<(nm.size:Int);replace hg:=hg;omega)) ?_;refine Wj 0 ?_;refine Wk 1 Pa ?_;refine Wj 0 ?_;refine Wj 0 ?_;refine Wt 0 rfl rfl (fun hg=>An underlying9 (eg_ hg rfl) (eg_ hg rfl) (by omega) (by(try simp only[bq]at hg);show q<(nm.size:Int);replace hg:=hg;omega)) ?_;refine Wj 0 ?_;refine Wk 0 Pa ?_;refine Wp ?_ ?_<;>intro hc1
 ·refine Ck (Qc (Ce (Ny 1 ?_)));refine Wk 1 Za ?_;refine Wd (Qb ?_)
  exact QS.head (q+1) rfl rfl ⟨⟨by omega,by omega,fun j h0 h1=>by
     rcases(show j<q\/j=q by omega)with h|h
     ·exact hq3 j h0 h
     rw[h];omega⟩,by omega⟩
 have hsg:(AJ nm:Int)=q:=Jan hq1 hq2 hq3 (by omega);refine Cv (Qe (Qe (Qx (Qc (Cs (Nz 2 ?_))))));refine Wk 2 (Al underlying9 rfl) ?_;refine We 0 ?_;refine We 0 ?_;refine Wf 0 rfl rfl (fun hg=>An underlying9 (eg_ hg rfl) (eg_ hg rfl) (by omega) (by(try simp only[bq]at hg);show q<(nm.size:Int);replace hg:=hg;omega)) ?_;refine We 0 ?_;refine Wf 0 rfl rfl (fun hg=>Fm (eg_ hg rfl)) ?_;refine Wn 0 rfl rfl rfl (fun hg=>Fm) ?_;refine Wn 0 rfl rfl rfl (fun hg=>Fn) ?_;refine Wf 0 rfl rfl (fun hg=>AW (eg_ hg rfl) (Cg hg rfl) rfl) ?_;refine Wk 0 Po ?_;refine Wp ?_ ?_<;>intro hc2
 ·have hnn:(AJ nm:Int)=nm.size\/(byt nm (AJ nm)=33/\nt=false):=by
   rw[hsg];exact hc2
  refine Nz 3 ?_;refine WS.weak (fun u hu=>St.unpack (L1:=As lb rb ⟨sx.r,w1,b1⟩) hu) ?_;refine Ws 0 0 ?_;refine WS.weak (fun u hu=>(St.pack (L1:=As lb rb ⟨sx.r,w1,true⟩) hu)) ?_;refine Nx 0 ?_;refine Wk 0 (Db Hd Cu) ?_;refine Wv 0 1 ?_;exact Wd (Qc (Cr (Qr (outR (resc rfl (Ag (j:=1) rfl rfl M4)) (fun u hu=>F7 (val:=fun a=>.agg (cLit.cells a).toArray) (v:=⟨0,0,false⟩) (Zf hr1 hnn) hx1 (hu.sel [0,1] rfl))))))
 have hlt:q<nm.size:=by omega
 have hgo:¬(byt nm (AJ nm)=33/\nt=false):=by
  rw[hsg];rintro⟨h1,h2⟩;rcases hc2.2 with h|h
  ·exact h h1
  rw[h2]at h;cases h
 refine Ck (Qc (Nz 2 ?_));refine Wk 0 Za ?_;refine Wk 0 (DH underlying9 rfl rfl (show 0<=q+1/\q+1<=(nm.size:Int) by omega)) ?_;refine Wk 5 (Cb rfl rfl RP (fun u hu=>K7 (nm.extract (q+1).toNat nm.size) 2 u (by have:=ES nm (q+1).toNat nm.size;omega) (by decide))) ?_;refine Wd (Qc ?_);refine CS.cut (σ:=Bool) [55,56,57,58,59] (fun s=>[]) (fun s=>[rl lb rb ⟨sx.r,w1,s⟩,blk b4 [.int .i64 0,.int .i64 0,.bool false] 103,R]) (fun s=>s=if(numB 2 (nm.extract (q+1).toNat nm.size)).isSome then b1 else true) (fun _ _=>rfl) ?_ ?_
 ·refine Nz 2 ?_;refine Wp ?_ ?_<;>intro hc3
  ·refine Ny 3 ?_;refine WS.weak (fun u hu=>St.unpack (L1:=As lb rb ⟨sx.r,w1,b1⟩) hu) ?_;refine Ws 0 0 ?_;refine WS.weak (fun u hu=>(St.pack (L1:=As lb rb ⟨sx.r,w1,true⟩) hu)) ?_;exact Wd (QS.head (true) rfl rfl (by rw[hc3];rfl))
  exact Ck (QS.head (b1) rfl rfl (by rw[hc3];rfl))
 intro b2 t hs;have hb2:=hs;refine Cs ?_;refine CS.drawnTillC 11 ((fun u=>Below w.heap.size w u)) (k:=12) mixed rfl rfl ?_;refine Tr 12 [0,1,2] ?_;refine Tk 12 3 [5,6,7] rfl (C5 underlying9 rfl rfl (show 0<=q/\q<=(nm.size:Int) by omega)) ?_;refine Tk 12 8 [9] rfl (An underlying9 rfl rfl (by omega) (show q<(nm.size:Int) by omega)) ?_;refine AT.one (i:=4) (by kernel_rfl) rfl (fun _ u hu=>hu.below) rfl ?_;refine WS.callP rfl rfl Jee (fun u hu=>RlX.lw (Xm (star _) lb rb ⟨sx.r,w1,b2⟩ (St.tailPack hu) (nm.extract 0 q.toNat) (by have:=ES nm 0 q.toNat;omega))) (fun _=>rfl) (fun hq u hu=>hq.elim) ?_;rintro⟨⟨w3,b3⟩,idx⟩ ⟨hr3,hx3,_⟩;refine Wd (Qt ?_);refine Tk 12 10 [] rfl (Db Hd Cu) ?_;refine AT.one (i:=11) (by kernel_rfl) rfl (fun _ u hu=>hu.below) rfl ?_;refine Wv 0 1 ?_;refine Wd (Qt ?_);refine Te ?_;refine Qc (Cr ?_)
 exact outR (resc rfl (Ag (j:=1) rfl rfl M4)) (fun u hu=>F7 (val:=fun a=>.agg (cLit.cells a).toArray) (v:=⟨idx,(numB 2 (nm.extract (q+1).toNat nm.size)).getD 0,decide (byt nm q=33)⟩) (by
  subst hsg;have e1:((AJ nm:Int)+1).toNat=AJ nm+1:=by omega
  have e2:(AJ nm:Int).toNat=AJ nm:=by omega
  rw[e1]at hb2⊢;rw[e2]at hr3
  exact Jaf hr1 (by omega) hgo hb2 hr3) (hx3.trans hx1) (hu.sel [0,1] rfl))
def RlL (C:Cel α) (w:World) (R:SA) (lb:Nat) (rb:RB) (s:RlS) (spec:Option (List α×Wds)):Ending->World->Prop:=
 RetX (β:=RlS×Sl α) w R [] (fun x=>x.1.r=s.r/\x.1.ws.l <:+s.ws.l/\Rel s.bad spec x.2.l x.1.ws.l x.1.bad/\∃u0,SlT C u0 x.2) False (fun x=>x.2.v) (fun x=>star [rl lb rb x.1,roT C x.2])
variable {C:Cel α} {spec:Option (List α×Wds)}
theorem RlL.lw {Ls:List SA} {f:FuncId} (h:Calls prog f args u (RlL C w (star Ls) lb rb s spec)):
  Calls prog f args u (fun e u'=>(∃x:(Sl ByteArray×Bool)×Sl α,(Rel s.bad spec x.2.l x.1.1.l x.1.2/\x.1.1.l <:+s.ws.l/\∃u0,SlT C u0 x.2)/\e = .returned x.2.v/\St w.heap.size w (rl lb rb ⟨s.r,x.1.1,x.1.2⟩::roT C x.2::Ls) u')\/(False/\e = .panicked []/\St w.heap.size w Ls u')):=by
 refine(RetX.ls2 h).mono ?_;rintro e u' (⟨⟨s1,x⟩,⟨h1,h2,h3,h6⟩,h4,h5⟩|h)
 ·refine .inl ⟨((s1.ws,s1.bad),x),⟨h3,h2,h6⟩,h4,?_⟩;rw[<-show s1.r=s.r from h1];exact h5
 exact .inr h
theorem Pe {R:SA} {x:Sl α} {ws:Sl ByteArray} (h:Rel s.bad spec x.l ws.l b) (hs:ws.l <:+s.ws.l) (hx:∃u0,SlT C u0 x) (hu:St w0.heap.size w0 [rl lb rb ⟨s.r,ws,b⟩,roT C x,R] u):RlL C w0 R lb rb s spec (.returned x.v) u:=
 .inl ⟨(⟨s.r,ws,b⟩,x),⟨rfl,hs,h,hx⟩,rfl,St.pack (L1:=[rl lb rb ⟨s.r,ws,b⟩,roT C x]) hu⟩
theorem Jf1 {e:TypeId} {v:Value} {xs:List α} {A R:SA} (hC:∀u,∀a∈xs,C.ok u a) (h:St n0 w0 [A,oT C e v xs,R] u):St n0 w0 [A,roT C ⟨v,xs⟩,R] u:=by
 have h2:=h.perm (.swap _ _ _);have h3:=St.toRo (p:=fun u=>SlT C u ⟨v,xs⟩) (fun S u h=>⟨Star.osl (L:=[oT C e v xs]) (j:=0) rfl ⟨S,fun _ h=>h,h,trivial⟩,hC u⟩) h2;exact h3.perm (.swap _ _ _)
theorem RlS.sub (hz:s.ok) {w:Sl ByteArray} (h:w.l <:+s.ws.l) (b:Bool):RlS.ok ⟨s.r,w,b⟩:=⟨fun y hy=>hz.sz y (h.subset hy),Nat.le_trans h.length_le hz.len⟩
theorem Jdd {w:Wds} (h:litW ths true ws=some (a,w)):∃t,BN ws=some (t,w)/\litT ths t=some a:=by
 simp only[litW,Option.bind_eq_some_iff]at h;obtain⟨⟨t,r⟩,h1,a',h2,h3⟩:=h;simp only[Bool.not_true,Bool.and_false,Bool.false_eq_true,if_false,Option.some.injEq,Prod.mk.injEq]at h3;obtain⟨rfl,rfl⟩:=h3;exact⟨t,h1,h2⟩
theorem Jn {bad:Bool} {w2:Wds} (hm:Kp bad ws=true) (h:Rel bad (litW ths true ws) a w2 b2):
  (b2=false->BE ths ws=((BE ths w2).map fun x=>(a::x.1,x.2))/\ws.length=w2.length+1)/\(b2=true->BE ths ws=none):=by
 obtain⟨h1,h2,h3⟩:=Eb hm;refine⟨fun hb=>?_,fun hb=>?_⟩
 ·obtain⟨t,h4,h5⟩:=Jdd (h.ok h1 hb);exact⟨HF h4 h3 h5,Ic h4⟩
 have h4:=h.no h1 hb;have h5:=Ev h2;refine J2 h5 h3 ?_;rw[litW,h5]at h4;cases hl:litT ths (nth ws 0)with
 |none=>rfl
 |some a=>simp[hl]at h4
theorem Ns {prs:List Pro} {bad:Bool} {w2:Wds} (hm:Kp bad ws=true) (h:Rel bad (A8 Pro.nm prs ws) i w2 b2):
  (b2=false->BR prs ws=((BR prs w2).map fun x=>(i::x.1,x.2))/\ws.length=w2.length+1)/\(b2=true->BR prs ws=none):=by
 obtain⟨h1,h2,h3⟩:=Eb hm;exact⟨fun hb=>⟨LV h3 (h.ok h1 hb),Ja (h.ok h1 hb)⟩,fun hb=>LB h2 h3 (h.no h1 hb)⟩
theorem WB {l:List Pro} {nm:ByteArray} {k:Int×Int} (hc:seq (nth l k.1).nm nm=false) (h:(k.2 = -1/\∀j:Int,k.1<j->j<l.length->seq (nth l j).nm nm=false)\/(k.1<k.2/\k.2<l.length/\seq (nth l k.2).nm nm=true/\∀j:Int,k.1<j->j<k.2->seq (nth l j).nm nm=false)):
  (k.2 = -1/\∀j:Int,k.1-1<j->j<l.length->seq (nth l j).nm nm=false)\/(k.1-1<k.2/\k.2<l.length/\seq (nth l k.2).nm nm=true/\∀j:Int,k.1-1<j->j<k.2->seq (nth l j).nm nm=false):=by
 rcases h with⟨h1,h2⟩|⟨h1,h2,h3,h4⟩
 ·refine .inl ⟨h1,fun j a b=>?_⟩;rcases(show j=k.1\/k.1<j by omega)with e|e
  ·rw[e];exact hc
  exact h2 j e b
 refine .inr ⟨by omega,h2,h3,fun j a b=>?_⟩;rcases(show j=k.1\/k.1<j by omega)with e|e
 ·rw[e];exact hc
 exact h4 j e b
theorem VB {l:List Pro} {nm:ByteArray} {k:Int×Int} (hk:k.1 = -1) (h:(k.2 = -1/\∀j:Int,k.1<j->j<l.length->seq (nth l j).nm nm=false)\/(k.1<k.2/\k.2<l.length/\seq (nth l k.2).nm nm=true/\∀j:Int,k.1<j->j<k.2->seq (nth l j).nm nm=false)):
  (k.2 = -1/\idxN Pro.nm l nm = -1)\/(0<=k.2/\idxN Pro.nm l nm=k.2):=by
 rcases h with⟨h1,h2⟩|⟨h1,h2,h3,h4⟩
 ·refine .inl ⟨h1,?_⟩;unfold idxN;exact A2 (p:=fun x:Pro=>seq x.nm nm) (xs:=l) fun j a b=>h2 j (by omega) b
 refine .inr ⟨by omega,?_⟩;unfold idxN;exact AM (p:=fun x:Pro=>seq x.nm nm) (xs:=l) (by omega) h2 (fun j a b=>h4 j (by omega) b) h3
theorem KL {bad:Bool} {w2:Wds} {p:Prop} (hb:bad=false) (h:b2=false->p/\ws.length=w2.length+1) (hs:w2 <:+ws):2*w2.length+(if b2 then 0 else 1)<2*ws.length+(if bad then 0 else 1):=by
 have:=hs.length_le;subst hb;cases hb2:b2 with
 |true=>simp;omega
 |false=>have:=(h hb2).2;simp;omega
theorem If_c (R:SA) (lb:Nat) (rb:RB) (sx:RlS) (hu:St w.heap.size w [rl lb rb sx,R] u) (hz:sx.ok):
  Calls prog 199 #[.pointer (some ⟨lb,0,none⟩)] u (RlL cLit w R lb rb sx (CB sx.r.ths.l sx.ws.l)):=by
 refine Ei hu func199 ?_;refine Nz 1 ?_;refine Nv 1 ?_;refine WS.callP rfl rfl Iz (fun u hu=>RlX.lw (Is_c (star _) lb rb sx (St.tailPack hu) ifW)) (fun _=>rfl) (fun hq u hu=>hq.elim) ?_;rintro⟨⟨w1,b1⟩,c⟩ ⟨hr1,hx1,_⟩;refine Wz 1 ?_;refine Wp ?_ ?_<;>intro hc1
 ·subst hc1;refine Nz 1 ?_;exact Wd (Qc (Cr (Qr (out1 rfl rfl (fun u hu=>Pe (x:=⟨.slice none 0 0,[]⟩) (H7 hr1) hx1 ⟨u,SlT.nil _ _⟩ (W7 cLit hu))))))
 subst hc1;refine Ck (Qc (Nz 1 ?_));refine Wd (Qc (Cs (Ce ?_)));refine CS.weak (fun _ hu=>hu.osl0 (e:=103) (size:=3)) ?_;refine CS.sel [1,0,0] rfl ?_;refine CS.loopM (σ:=(Sl ByteArray×Bool)×Value×List Lit) (rsL [7,13]) (fun s=>[(3,s.2.1)]) (fun s=>[rl lb rb ⟨sx.r,s.1.1,s.1.2⟩,oT cLit 103 s.2.1 s.2.2,R]) (fun s=>LoopI b1 (BE sx.r.ths.l) w1.l s.2.2 s.1.1.l s.1.2) (fun s=>2*s.1.1.l.length+(if s.1.2 then 0 else 1)) ((w1,b1),.slice none 0 0,[]) (fun _ _=>rfl) rfl rfl (LoopI.start _ _ _) ?_;intro q t hs;have hqi:=hs;have hzq:RlS.ok ⟨sx.r,q.1.1,q.1.2⟩:=RlS.sub hz (hqi.sf.trans hx1) q.1.2;have hlm:=hqi.lm;have hln:=(RlS.sub hz hx1 b1).len;have hll:q.2.2.length<=65537:=Nat.le_trans hlm hln;refine Cs (Nz 1 ?_);refine WS.callP rfl rfl Py (fun u hu=>RetX.ls (PY (star _) lb rb ⟨sx.r,q.1.1,q.1.2⟩ (St.tailPack hu) hzq)) (fun _=>rfl) (fun hq u hu=>hq.elim) ?_;rintro⟨⟩ _;refine Wp ?_ ?_<;>intro hc2
 ·refine Ck (Qc (Ce (Ny 2 ?_)));refine WS.callP rfl rfl PK (fun u hu=>RlX.lw (FX (star _) lb rb ⟨sx.r,q.1.1,q.1.2⟩ (St.tailPack hu) hzq true)) (fun _=>rfl) (fun hq u hu=>hq.elim) ?_;rintro⟨⟨w2,b2⟩,a⟩ ⟨hr2,hx2,_⟩;have hst:=Jn hc2 hr2;have hmy:=Eb hc2;refine WS.buildT1 cLit (a:=a) sl29 Cu rfl (by decide) (fun _=>rfl) ?_;intro v12;refine WS.appendT1 (C:=cLit) (a:=a) (j:=2) (jz:=0) sl29 Cu rfl (by decide) rfl rfl rfl rfl (w:=w) trivial (by omega) (by omega) (fun _=>rfl) (fun _=>rfl) ?_;intro v13 hv13;refine Wz 1 ?_;refine Wd (Qb ?_);refine QS.sel [1,1,1] rfl ?_;exact QS.head (((w2,b2),v13,q.2.2++[a])) rfl rfl ⟨hqi.step hmy.1 hmy.2.1 hx2 hst.1 hst.2,KL hmy.1 hst.1 hx2⟩
 have hfin:=hqi.fin fun hb=>EV (JP hc2 hb);refine Cv (Qe (Qe (Qx (Qc ?_))));refine CS.cut (σ:=Bool) [14,15,16,17,18,19] (fun s=>[]) (fun s=>[rl lb rb ⟨sx.r,q.1.1,s⟩,oT cLit 103 q.2.1 q.2.2,R]) (fun s=>Rel sx.bad (CB sx.r.ths.l sx.ws.l) q.2.2 q.1.1.l s) (fun _ _=>rfl) ?_ ?_
 ·refine Nz 1 ?_;refine Wk 1 (B7 (j:=1) sl29 rfl rfl) ?_;refine Wp ?_ ?_<;>intro hc3
  ·have hnl:q.2.2=[]:=List.length_eq_zero_iff.1 (by omega);refine Ny 3 ?_;refine WS.weak (fun u hu=>St.unpack (L1:=As lb rb ⟨sx.r,q.1.1,q.1.2⟩) hu) ?_;refine Ws 0 0 ?_;refine WS.weak (fun u hu=>St.pack (L1:=As lb rb ⟨sx.r,q.1.1,true⟩) hu) ?_;exact Wd (QS.head (true) rfl rfl (Km hr1 hfin hnl))
  have hnn:q.2.2≠[]:=fun h=>by rw[h]at hc3;exact hc3 rfl
  exact Ck (QS.head (q.1.2) rfl rfl (Ky hr1 hfin hnn))
 intro z t hs;have hz9:=hs;refine Nz 2 ?_;exact Wd (Qc (Cr (out1 rfl rfl (fun u hu=>Pe (x:=⟨q.2.1,q.2.2⟩) hz9 (hqi.sf.trans hx1) ⟨u,Bk hu (j:=1) rfl fun _ _=>trivial⟩ (Jf1 (fun _ _ _=>trivial) hu)))))
theorem MF (R:SA) (lb:Nat) (rb:RB) (sx:RlS) (hu:St w.heap.size w [rl lb rb sx,R] u) (hz:sx.ok) (t0:ByteArray):
  Calls prog 200 #[.pointer (some ⟨lb,0,none⟩),.string t0] u (RlL cInt w R lb rb sx (EZ sx.r.prs.l t0 sx.ws.l)):=by
 refine Ei hu func200 ?_;refine Nz 1 ?_;refine Nv 2 ?_;refine WS.callP rfl rfl Iz (fun u hu=>RlX.lw (Is_c (star _) lb rb sx (St.tailPack hu) t0)) (fun _=>rfl) (fun hq u hu=>hq.elim) ?_;rintro⟨⟨w1,b1⟩,c⟩ ⟨hr1,hx1,_⟩;refine Wz 1 ?_;refine Wp ?_ ?_<;>intro hc1
 ·subst hc1;refine Nz 1 ?_;exact Wd (Qc (Cr (Qr (out1 rfl rfl (fun u hu=>Pe (x:=⟨.slice none 0 0,[]⟩) (H7 hr1) hx1 ⟨u,SlT.nil _ _⟩ (W7 cInt hu))))))
 subst hc1;refine Ck (Qc (Nz 1 ?_));refine Wd (Qc (Cs (Ce ?_)));refine CS.weak (fun _ hu=>hu.osl0 (e:=3) (size:=1)) ?_;refine CS.sel [1,0,0] rfl ?_;refine CS.loopM (σ:=(Sl ByteArray×Bool)×Value×List Int) (rsL [6,8,13,52]) (fun s=>[(5,s.2.1)]) (fun s=>[rl lb rb ⟨sx.r,s.1.1,s.1.2⟩,oT cInt 3 s.2.1 s.2.2,R]) (fun s=>LoopI b1 (BR sx.r.prs.l) w1.l s.2.2 s.1.1.l s.1.2) (fun s=>2*s.1.1.l.length+(if s.1.2 then 0 else 1)) ((w1,b1),.slice none 0 0,[]) (fun _ _=>rfl) rfl rfl (LoopI.start _ _ _) ?_;intro q t hs;have hqi:=hs;have hzq:RlS.ok ⟨sx.r,q.1.1,q.1.2⟩:=RlS.sub hz (hqi.sf.trans hx1) q.1.2;have hlm:=hqi.lm;have hln:=(RlS.sub hz hx1 b1).len;have hll:q.2.2.length<=65537:=Nat.le_trans hlm hln;refine Cs (Nz 1 ?_);refine WS.callP rfl rfl Py (fun u hu=>RetX.ls (PY (star _) lb rb ⟨sx.r,q.1.1,q.1.2⟩ (St.tailPack hu) hzq)) (fun _=>rfl) (fun hq u hu=>hq.elim) ?_;rintro⟨⟩ _;refine Wp ?_ ?_<;>intro hc2
 ·have hmy:=Eb hc2;refine Ck (Qc (Ce (Nz 1 ?_)));refine WS.callP rfl rfl IQ (fun u hu=>RlX.lw (IJ (star _) lb rb ⟨sx.r,q.1.1,q.1.2⟩ (St.tailPack hu) hzq)) (fun _=>rfl) (fun hq u hu=>hq.elim) ?_;rintro⟨⟨w2,b2⟩,nm⟩ ⟨hr2,hx2,_⟩;refine Wz 1 ?_;refine Nx 1 ?_;refine Wd (Qc (Cs (Cs ?_)));refine CS.weak (fun u hu=>St.unpack (L1:=As lb rb ⟨sx.r,w2,b2⟩) hu) ?_;refine CS.stE fun hst=>?_;obtain⟨up,hup⟩:=hst;have hpr:SlT cPro up sx.r.prs:=Jcc (lb:=lb) (rb:=rb) (s:=⟨sx.r,w2,b2⟩) hup;have hlp:sx.r.prs.l.length<=9223372036854775807:=hpr.le;refine Ny 3 ?_;refine Wk 2 (Ba 0) ?_;refine Wk 0 (Ba 2) ?_;refine Wk 0 (B7 (j:=5) sl25 rfl rfl) ?_;refine Wk 1 (GI rfl rfl (by(try simp only);omega)) ?_;refine Nu ?_;refine CS.loopM (σ:=Int×Int) (rsL [26,43]) (fun s=>[(8,.int .i64 s.1),(7,.int .i64 s.2)]) (fun s=>As lb rb ⟨sx.r,w2,b2⟩++[oT cInt 3 q.2.1 q.2.2,R]) (fun s=> -1<=s.1/\s.1<sx.r.prs.l.length/\((s.2 = -1/\∀j:Int,s.1<j->j<sx.r.prs.l.length->seq (nth sx.r.prs.l j).nm nm=false)\/(s.1<s.2/\s.2<sx.r.prs.l.length/\seq (nth sx.r.prs.l s.2).nm nm=true/\∀j:Int,s.1<j->j<s.2->seq (nth sx.r.prs.l j).nm nm=false))) (fun s=>(s.1+1).toNat) (sx.r.prs.l.length-1,-1) (fun _ _=>rfl) rfl rfl ⟨by simp only;omega,by simp only;omega,.inl ⟨rfl,fun j h0 h1=>by simp only at h0;omega⟩⟩ ?_;intro k t hs;obtain⟨hk1,hk2,hk3⟩:=hs;refine Cs (Nz 2 ?_);refine Wp ?_ ?_<;>intro hc3
  ·refine Ck (Qc (Cs (Ce (Nz 3 ?_))));refine Wk 2 (Ba 0) ?_;refine Wk 1 (Ba 2) ?_;refine Wk 1 (FL (s:=sx.r.prs) sl25 rfl rfl hpr rfl (by omega) (by omega)) ?_;refine Wk 1 (Gq 3 0 (j:=5) rfl rfl rfl ⟨by omega,by omega⟩ (by decide) rfl tk9) ?_;refine Wk 0 (Ah rfl rfl) ?_;refine Wp ?_ ?_<;>intro hc4
   ·refine Ny 2 ?_;refine Wd (Qb (Qc (Ny 1 ?_)));refine Wk 1 Zb ?_;exact Wd (QS.head ((k.1-1,k.1)) rfl rfl ⟨⟨by simp only;omega,by simp only;omega,.inr ⟨by simp only;omega,by simp only;omega,hc4,fun j h0 h1=>by simp only at h0 h1;omega⟩⟩,by simp only;omega⟩)
   refine Ck (Qb (Qc (Ny 1 ?_)));refine Wk 1 Zb ?_;exact Wd (QS.head ((k.1-1,k.2)) rfl rfl ⟨⟨by simp only;omega,by simp only;omega,WB hc4 hk3⟩,by simp only;omega⟩)
  have hfd:=VB (show k.1 = -1 by omega) hk3;refine Cv (Qe (Qe (Qx (Qc ?_))));refine CS.cut (σ:=Bool) [44,45,46,47,48] (fun s=>[]) (fun s=>[rl lb rb ⟨sx.r,w2,s⟩,oT cInt 3 q.2.1 q.2.2,R]) (fun s=>Rel q.1.2 (A8 Pro.nm sx.r.prs.l q.1.1.l) k.2 w2.l s) (fun _ _=>rfl) ?_ ?_
  ·refine Nz 2 ?_;refine Wp ?_ ?_<;>intro hc5
   ·have hkn:Rel q.1.2 (A8 Pro.nm sx.r.prs.l q.1.1.l) k.2 w2.l true:=PQ hr2 (by rcases hfd with⟨h1,h2⟩|⟨h1,h2⟩;exact h2;omega);refine Ny 3 ?_;refine Ws 0 0 ?_;refine WS.weak (fun u hu=>St.pack (L1:=As lb rb ⟨sx.r,w2,true⟩) hu) ?_;exact Wd (QS.head (true) rfl rfl hkn)
   have hkn:Rel q.1.2 (A8 Pro.nm sx.r.prs.l q.1.1.l) k.2 w2.l b2:=by
    rcases hfd with⟨h1,h2⟩|⟨h1,h2⟩
    ·omega
    exact Pp hr2 h2 h1
   refine Ck ?_;refine QS.weak (fun u hu=>St.pack (L1:=As lb rb ⟨sx.r,w2,b2⟩) hu) ?_;exact QS.head (b2) rfl rfl hkn
  intro z t hs;have hst:=Ns hc2 hs;refine Ny 2 ?_;refine WS.buildN1 (b:=k.2) sl48 zv3 rfl (fun _=>rfl) ?_;intro v51;refine WS.appendT1 (C:=cInt) (a:=k.2) (j:=2) (jz:=0) sl48 zv3 rfl (by decide) rfl rfl rfl rfl (w:=w) trivial (by omega) (by omega) (fun _=>rfl) (fun _=>rfl) ?_;intro v52 hv52;refine Wz 1 ?_;refine Wd (Qb ?_);refine QS.sel [1,1,1] rfl ?_;exact QS.head (((w2,z),v52,q.2.2++[k.2])) rfl rfl ⟨hqi.step hmy.1 hmy.2.1 hx2 hst.1 hst.2,KL hmy.1 hst.1 hx2⟩
 have hfin:=hqi.fin fun hb=>Ik (JP hc2 hb);refine Cv (Qe (Qe (Qx (Qc ?_))));refine CS.cut (σ:=Bool) [53,54,55,56,57,58] (fun s=>[]) (fun s=>[rl lb rb ⟨sx.r,q.1.1,s⟩,oT cInt 3 q.2.1 q.2.2,R]) (fun s=>Rel sx.bad (EZ sx.r.prs.l t0 sx.ws.l) q.2.2 q.1.1.l s) (fun _ _=>rfl) ?_ ?_
 ·refine Nz 1 ?_;refine Wk 1 (B7 (j:=1) sl48 rfl rfl) ?_;refine Wp ?_ ?_<;>intro hc6
  ·have hnl:q.2.2=[]:=List.length_eq_zero_iff.1 (by omega);refine Ny 3 ?_;refine WS.weak (fun u hu=>St.unpack (L1:=As lb rb ⟨sx.r,q.1.1,q.1.2⟩) hu) ?_;refine Ws 0 0 ?_;refine WS.weak (fun u hu=>St.pack (L1:=As lb rb ⟨sx.r,q.1.1,true⟩) hu) ?_;exact Wd (QS.head (true) rfl rfl (Km hr1 hfin hnl))
  have hnn:q.2.2≠[]:=fun h=>by rw[h]at hc6;exact hc6 rfl
  exact Ck (QS.head (q.1.2) rfl rfl (Ky hr1 hfin hnn))
 intro z t hs;have hz9:=hs;refine Nz 2 ?_;exact Wd (Qc (Cr (out1 rfl rfl (fun u hu=>Pe (x:=⟨q.2.1,q.2.2⟩) hz9 (hqi.sf.trans hx1) ⟨u,Bk hu (j:=1) rfl fun _ _=>trivial⟩ (Jf1 (fun _ _ _=>trivial) hu)))))
end Go.Proofs.YtllebkdchemabaaGreatDoor
