/- Merged texts of this proof. -/
import Derived.Test.YtllebkdchemabaaGreatDoorZq
import Derived.Test.YtllebkdchemabaaGreatDoorZm
set_option maxHeartbeats 8000000
namespace Go.Proofs.YtllebkdchemabaaGreatDoor
open Go.RowKit Go.Proofs Tryz
set_option maxRecDepth 100000
set_option linter.unusedVariables false
set_option linter.unusedSimpArgs false
def gel2 (G:Game) (u:World):Prop:=(∀x∈G.cds.l,SlT cInt u x)/\∀x∈G.nts.l,cNote.ok u x
def rgB (b:Nat) (G:Game) (kd:Int):RB:=⟨b,[G.lks.v,G.cds.v,G.nts.v,.int .i64 G.tr,.int .i64 kd],82⟩
def PP (G:Game):List SA:=[oT cLock 85 G.lks.v G.lks.l,oT (cSl cInt) 48 G.cds.v G.cds.l,oT cNote 91 G.nts.v G.nts.l,roS (gel2 G)]
def BM (b:Nat) (G:Game) (kd:Int):List SA:=BS (rgB b G kd) G.rm++PP G
def rg (b:Nat) (G:Game) (kd:Int):SA:=star (BM b G kd)
def rgA (b:Nat) (x:Game×Int×Bool):SA:=if x.2.2=true then rg b x.1 x.2.1 else star []
def GrX (w:World) (Ls:List SA) (b:Nat) (p:Game->Int->Bool->Prop):Ending->World->Prop:=fun e u'=>∃x:Game×Int×Bool,p x.1 x.2.1 x.2.2/\e = .returned (.bool x.2.2)/\St w.heap.size w (rgA b x::Ls) u'
variable {u:World} {G:Game} {kd:Int}
theorem grX0 {w:World} {Ls:List SA} {b:Nat} {p:Game->Int->Bool->Prop} (h:p G kd false) (hu:St w.heap.size w Ls u):GrX w Ls b p (.returned (.bool false)) u:=⟨(G,kd,false),h,rfl,St.pack (L1:=[]) hu⟩
theorem grX1 {w:World} {Ls:List SA} {b:Nat} {p:Game->Int->Bool->Prop} {z:Bool} (h:p G kd z) (hu:St w.heap.size w (BM b G kd++Ls) u):GrX w Ls b p (.returned (.bool z)) u:=by
 cases z with
 |true=>exact⟨(G,kd,true),h,rfl,St.pack hu⟩
 |false=>exact⟨(G,kd,false),h,rfl,St.pack (L1:=[]) ((St.pack (L1:=BM b G kd) hu).tail)⟩
def M0 (G:Game) (kd:Int) (ws:Wds) (G':Game) (kd':Int) (z:Bool):Prop:=if z=true then kd'=kd/\¬0<kd/\∃x,Eq (ws.drop 1)=some x/\G'.p=addG G.p (.lock x.1 x.2)else 0<kd\/Eq (ws.drop 1)=none
variable {ws:Wds}
theorem Jg1 (h:ws.length=4) (h1:1<=(nth ws 3).size) (h4:(nth ws 3).size<=4):
  Eq (ws.drop 1)=if AV (bl (nth ws 3))=true then(numB 3 (nth ws 1)).bind fun a=>(numB 3 (nth ws 2)).map fun b=>((⟨a,b⟩:LockD),BB (nth ws 3))else none:=by
 match ws,h,h1,h4 with
 |[x,a,b,c],_,h1,h4=>
  have h1:1<=c.size:=h1;have h4:c.size<=4:=h4;have hd:AB c 4=AV (bl c):=by unfold AB;rw[decide_eq_true (show(1:Int)<=c.size by omega),decide_eq_true (show(c.size:Int)<=4 by omega)];rfl
  show Eq [a,b,c]=if AV (bl c)=true then(numB 3 a).bind fun x=>(numB 3 b).map fun y=>((⟨x,y⟩:LockD),BB c)else none
  unfold Eq;show(if[a,b,c].length=3/\AB c 4=true then(numB 3 a).bind fun x=>(numB 3 b).map fun y=>((⟨x,y⟩:LockD),BB c)else none)=_;rw[hd]
  by_cases h:AV (bl c)=true
  ·rw[if_pos ⟨rfl,h⟩,if_pos h]
  rw[if_neg fun q=>h q.2,if_neg h]
theorem VJ (h:¬(ws.length=4/\1<=(nth ws 3).size/\(nth ws 3).size<=4)):Eq (ws.drop 1)=none:=by
 unfold Eq;refine if_neg fun h2=>h ?_;have h3:ws.length=4:=by have:=h2.1;rw[List.length_drop]at this;omega
 refine⟨h3,?_⟩
 match ws,h3 with
 |[x,a,b,c],_=>
  have h4:AB c 4=true:=h2.2;have h5:=Ef h4;show 1<=c.size/\c.size<=4;omega
variable {xs:List Int}
theorem Yw {z:Bool} {v1 v2 v3:Value} {ds:List Int} {x y:Int} {a b:Option Int} (hc:Eq (ws.drop 1)=a.bind fun a=>b.map fun b=>((⟨a,b⟩:LockD),ds)) (hk:¬0<kd) (hz:z=(a.isSome&&b.isSome)) (hx:xs=ds) (hl:(⟨a.getD 0,b.getD 0⟩:LockD)=⟨x,y⟩):
  M0 G kd ws {G with lks:=⟨v1,G.lks.l++[⟨x,y⟩]⟩,cds:=⟨v2,G.cds.l++[⟨v3,xs⟩]⟩} kd z:=by
 subst hz hx;unfold M0;rw[hc];cases a with
 |none=>exact .inr rfl
 |some a=>
  cases b with
  |none=>exact .inr rfl
  |some b=>
   obtain⟨rfl,rfl⟩:a=x/\b=y:=by injection hl with h1 h2;exact⟨h1,h2⟩
   exact⟨rfl,hk,_,rfl,by simp[addG,Game.p]⟩
theorem Ru {n0:Nat} {w0:World} {L:List SA} {v:Value} (v1 v2:Value) (ls:List LockD) (h:St n0 w0 (roS (gel2 G)::roT cInt ⟨v,xs⟩::L) u):St n0 w0 (roS (gel2 {G with lks:=⟨v1,ls⟩,cds:=⟨v2,G.cds.l++[⟨v,xs⟩]⟩})::L) u:=
 St.roMap (fun u h=>⟨fun x hx=>by rcases List.mem_append.1 hx with hx|hx;exact h.1.1 x hx;(rw[List.mem_singleton]at hx;subst hx;exact h.2),h.1.2⟩) (St.roAnd h)
theorem toRoI {n0:Nat} {w0:World} {L:List SA} {e:TypeId} {v:Value} (h:St n0 w0 (oT cInt e v xs::L) u):St n0 w0 (roT cInt ⟨v,xs⟩::L) u:=
 St.toRo (A:=oT cInt e v xs) (p:=fun u=>SlT cInt u ⟨v,xs⟩) (fun S u h=>⟨Star.osl (L:=[oT cInt e v xs]) (j:=0) rfl ⟨S,fun _ h=>h,h,trivial⟩,fun _ _=>trivial⟩) h
theorem NV {w:World} (R:SA) (b:Nat) (G:Game) (kd:Int) (s0:Sl ByteArray) (hz:∀x∈s0.l,(x.size:Int)<=65536) (hn:s0.l.length<=65537) (hB:GmB G) (hu:St w.heap.size w [rg b G kd,roT cStr s0,R] u):
  Calls prog 94 #[.pointer (some ⟨b,0,none⟩),s0.v] u (GrX w [roT cStr s0,R] b (M0 G kd s0.l)):=by
 have hB1:=hB.lks;have hB2:=hB.cds;have hzn:=SW (by decide) hz;have hz1:=hzn 1;have hz2:=hzn 2;have hz3:=hzn 3;refine Ei hu func94 ?_;refine CS.unpack (L1:=BM b G kd) ?_;refine CS.roE (j:=13) rfl fun hwx=>?_;obtain⟨uw,hw⟩:=hwx;refine Nz 1 ?_;refine Nv 1 ?_;refine Wk 2 (Nc (s:=s0)) ?_;refine We 0 ?_;refine We 0 ?_;refine We 0 ?_;refine We 0 ?_;refine We 0 ?_;refine Wk 1 Po ?_;refine We 0 ?_;refine Wf 0 rfl rfl (fun hg=>Xc (eg_ hg rfl) (s:=s0)) ?_;refine Wf 0 rfl rfl (fun hg=>Vb 13 rfl (eg_ hg rfl) (s:=s0) (h:=⟨by decide,by(try simp only[bq]at hg);omega⟩)) ?_;refine Wf 0 rfl rfl (fun hg=>Al underlying9 (eg_ hg rfl)) ?_;refine We 0 ?_;refine Wk 1 Po ?_;refine We 0 ?_;refine Wf 0 rfl rfl (fun hg=>Xc (eg_ hg rfl) (s:=s0)) ?_;refine Wf 0 rfl rfl (fun hg=>Vb 13 rfl (eg_ hg rfl) (s:=s0) (h:=⟨by decide,by(try simp only[bq]at hg);omega⟩)) ?_;refine Wf 0 rfl rfl (fun hg=>Al underlying9 (eg_ hg rfl)) ?_;refine We 0 ?_;refine Wk 0 Po ?_;refine Wp ?_ ?_<;>intro hc1
 ·have hno:M0 G kd s0.l G kd false:=by
   show 0<kd\/Eq (s0.l.drop 1)=none
   by_cases hk:0<kd
   ·exact .inl hk
   exact .inr (VJ (by omega))
  refine Nz 1 ?_;exact Wd (Qc (Cr (Qr (out1 rfl rfl (fun u hu=>grX0 hno (hu.sel [13,13] rfl))))))
 have hw4:s0.l.length=4:=by omega
 have hce:=Jg1 (ws:=s0.l) hw4 (by omega) (by omega);refine Ck (Qc (Nz 1 ?_));refine Wk 0 (Xc (s:=s0)) ?_;refine Wk 0 (Vb 13 rfl (s:=s0)) ?_;refine Wk 5 (Cb rfl rfl RP (fun u hu=>K7 _ 3 u (by omega) (by decide))) ?_;refine Nx 1 ?_;refine Wk 0 (Xc (s:=s0)) ?_;refine Wk 0 (Vb 13 rfl (s:=s0)) ?_;refine Wk 5 (Cb rfl rfl RP (fun u hu=>K7 _ 3 u (by omega) (by decide))) ?_;refine Nx 1 ?_;refine Nv 1 ?_;refine Nu ?_;refine CS.weak (fun _ hu=>hu.osl0 (e:=3) (size:=1)) ?_;refine CS.loopM (σ:=Int×Value×List Int) (rsL [4,4,49,80]) (fun s=>[(10,.int .i64 s.1),(9,s.2.1)]) (fun s=>oT cInt 3 s.2.1 s.2.2::(BM b G kd++[roT cStr s0,R])) (fun s=>0<=s.1/\s.1<=(nth s0.l 3).size/\(∀j:Int,0<=j->j<s.1->48<=byt (nth s0.l 3) j/\byt (nth s0.l 3) j<=57)/\s.2.2=(BB (nth s0.l 3)).take s.1.toNat) (fun s=>((nth s0.l 3).size-s.1).toNat) (0,.slice none 0 0,[]) (fun _ _=>rfl) rfl rfl ⟨by simp,by simp,fun j _ _=>by omega,rfl⟩ ?_;intro q t hs;obtain⟨hq1,hq2,hq3,hq4⟩:=hs;refine Cs (Nz 2 ?_);refine Wk 0 (Xc (s:=s0)) ?_;refine Wk 0 (Vb 14 rfl (s:=s0)) ?_;refine Wk 1 (Al underlying9 rfl) ?_;refine Wp ?_ ?_<;>intro hc2
 ·refine Ck (Qc (Cs (Ce (Cs (Nz 1 ?_)))));refine Wk 0 (Xc (s:=s0)) ?_;refine Wk 1 (Vb 14 rfl (s:=s0)) ?_;refine Wk 2 (An underlying9 rfl rfl (by omega) (by omega)) ?_;refine We 0 ?_;refine Wf 0 rfl rfl (fun hg=>Xc (eg_ hg rfl) (s:=s0)) ?_;refine Wf 0 rfl rfl (fun hg=>Vb 14 rfl (eg_ hg rfl) (s:=s0) (h:=⟨by decide,by(try simp only[bq]at hg);omega⟩)) ?_;refine We 0 ?_;refine Wf 0 rfl rfl (fun hg=>An underlying9 (eg_ hg rfl) (eg_ hg rfl) (by(try simp only[bq]at hg);omega) (by(try simp only[bq]at hg);omega)) ?_;refine We 0 ?_;refine Wk 0 Po ?_;refine Wp ?_ ?_<;>intro hc3
  ·have hno:M0 G kd s0.l G kd false:=.inr (by rw[hce,if_neg];rw[R1 hq1 (show q.1<(nth s0.l 3).size by omega) (by omega)];decide);refine Nz 1 ?_;exact Wd (Qc (Cr (Qr (Qs (Qr (Qr (Qs (Qr (out1 rfl rfl (fun u hu=>grX0 hno (hu.sel [14,14] rfl)))))))))))
  refine Ck (Qc (Ny 2 ?_));refine Wk 0 (Xc (s:=s0)) ?_;refine Wk 1 (Vb 14 rfl (s:=s0)) ?_;refine Wk 0 (An underlying9 rfl rfl (by omega) (by omega)) ?_;refine Wk 0 (EC rfl rfl (by have:=JO (t:=(nth s0.l 3)) (i:=q.1);omega)) ?_;refine Wk 0 (DG underlying5 underlying3 rfl (by have:=JO (t:=(nth s0.l 3)) (i:=q.1);omega)) ?_;refine WS.buildN1 (b:=byt (nth s0.l 3) q.1-48) sl48 zv3 rfl (fun _=>rfl) ?_;intro v79;refine WS.appendT1 (C:=cInt) (a:=byt (nth s0.l 3) q.1-48) (j:=1) (jz:=0) sl48 zv3 rfl (by decide) rfl rfl rfl rfl (w:=w) trivial (by rw[hq4,List.length_take];omega) (by rw[hq4,List.length_take];omega) (fun _=>rfl) (fun _=>rfl) ?_;intro v80 hv80;refine Wz 1 ?_;refine Wd (Qb (Qc (Ny 1 ?_)));refine Wk 1 Za ?_;refine Wd ?_;refine QS.sel [1,1,1,1,1,1,1,1,1,1,1,1,1,1,1,1] rfl ?_
  exact QS.head ((q.1+1,v80,q.2.2++[byt (nth s0.l 3) q.1-48])) rfl rfl ⟨⟨by simp only;omega,by simp only;omega,fun j h0 h1=>by
     rcases(show j<q.1\/j=q.1 by simp only at h1;omega)with h|h
     ·exact hq3 j h0 h
     rw[h];omega,by simp only;rw[C6 hq1 (by omega),<-hq4]⟩,by simp only;omega⟩
 have hta:(BB (nth s0.l 3)).take q.1.toNat=BB (nth s0.l 3):=List.take_of_length_le (by rw[Cz];omega);rw[hta]at hq4;have hdg:AV (bl (nth s0.l 3))=true:=MX fun j h0 h1=>hq3 j h0 (by omega);rw[if_pos hdg]at hce;have hkd:¬0<kd:=by omega
 refine Cv (Qe (Qe (Qx (Qc (Nz 5 ?_)))));refine Wk 2 (Ba 1) ?_;refine Wk 0 (Db Z5 zv85) ?_;refine WS.buildT1 cLock (a:=⟨(numB 3 (nth s0.l 1)).getD 0,(numB 3 (nth s0.l 2)).getD 0⟩) sl33 zv85 rfl (by decide) (fun _=>rfl) ?_;intro v90;refine WS.appendT1 (C:=cLock) (a:=⟨(numB 3 (nth s0.l 1)).getD 0,(numB 3 (nth s0.l 2)).getD 0⟩) (j:=11) (jz:=0) sl33 zv85 rfl (by decide) rfl rfl rfl rfl (w:=w) trivial (by omega) (by omega) (fun _=>rfl) (fun _=>rfl) ?_;intro v91 hv91;refine Wz 3 ?_;refine Ws 0 2 ?_;refine Wd (Qc (Cs ?_));refine CS.sel [1,1,1,1,1,1,1,1,1,1,1,1,1,1,1,1] rfl ?_;refine CS.weak (fun u hu=>toRoI hu) ?_;refine CS.roE (j:=0) rfl fun hox=>?_;obtain⟨uo,ho⟩:=hox;have hoo:=Sl.one ho;refine Ny 5 ?_;refine Wk 1 (Ba 1) ?_;refine WS.buildSlice1 sl34 zv48 (vs:=[q.2.1]) rfl rfl (by decide) (fun v h=>by simp at h;subst h;exact hoo) (fun _=>rfl) ?_;intro v102;refine WS.appendT2 (C:=cSl cInt) (a:=⟨q.2.1,q.2.2⟩) (j:=12) (jz:=0) sl34 zv48 rfl (by decide) rfl rfl rfl rfl (fun v h=>by simp[cSl]at h;subst h;exact hoo) (by omega) (by omega) (fun _=>rfl) (fun _=>rfl) ?_;intro v103 hv103;refine Wz 3 ?_;refine Ws 0 2 ?_;refine Nx 2 ?_;refine Wj 0 ?_;refine Wk 1 Pa ?_;refine Wd (Qc (Cr ?_));refine QS.sel [14,1,1,1,1,1,1,1,1,1,1,1,1,1,1,1] rfl ?_;refine QS.weak (fun u hu=>Ru v91 v103 (G.lks.l++[⟨(numB 3 (nth s0.l 1)).getD 0,(numB 3 (nth s0.l 2)).getD 0⟩]) hu) ?_;refine QS.sel [1,1,1,1,1,1,1,1,1,1,1,1,0,0,0] rfl ?_;exact out1 rfl rfl (fun u hu=>grX1 (G:={G with lks:=⟨v91,G.lks.l++[⟨(numB 3 (nth s0.l 1)).getD 0,(numB 3 (nth s0.l 2)).getD 0⟩]⟩,cds:=⟨v103,G.cds.l++[⟨q.2.1,q.2.2⟩]⟩}) (kd:=kd) (Yw hce hkd rfl hq4 rfl) hu)
end Go.Proofs.YtllebkdchemabaaGreatDoor
