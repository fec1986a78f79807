/- Merged texts of this proof. -/
import Derived.Test.YtllebkdchemabaaGreatDoorZo
import Derived.Test.YtllebkdchemabaaGreatDoorZw0
import Derived.Test.YtllebkdchemabaaGreatDoorZi
set_option maxHeartbeats 8000000
namespace Go.Proofs.YtllebkdchemabaaGreatDoor
open Go.RowKit Go.Proofs Tryz
set_option maxRecDepth 100000
set_option linter.unusedVariables false
set_option linter.unusedSimpArgs false
section
variable {P:Program} {n0:Nat} {w0:World} {L:List SA} {l:List Value} {d:Option Tmp} {ty:TypeId} {ps:String} {af:Array Edge} {g:Option (Nat×Bool)}
theorem Da {p:World->Prop} {T:TypeId} {z jj:Nat} {x:Operand} {s:Sl ByteArray} {i:Int} (hj':L[jj]? = some (roS p)) (hp:∀u,p u->SlT cStr u s) (hx:evo l x=some (.pointer (some (sla s.v (i.toNat*1))))) (h:0<=i/\i<s.l.length) (hT:tk P T=some (false,z)):
  Det P (St n0 w0 L) ⟨d,.load T x,ty,ps,af,g⟩ l (.string (nth s.l i)):=
 Do (show evo l x=some (.pointer (some (sla s.v (i.toNat*cStr.k+0))))from hx) (fun _ hu=>(hp _ (St.ro hj' hu)).sp) (by rw[BW cStr h.1 h.2 0 (by decide)];rfl) hT
end
theorem PR:∀(n:Nat) (s:ByteArray),∀x∈EA n s,x.size<=s.size
 |0,_,x,h=>by cases h
 |1,s,x,h=>by rw[show EA 1 s=[s]from rfl,List.mem_singleton]at h;rw[h];exact Nat.le_refl _
 |n+2,s,x,h=>by
  rw[EA]at h;rcases List.mem_cons.1 h with rfl|h
  ·rw[ByteArray.size_extract];omega
  have:=PR (n+1) _ x h;rw[ByteArray.size_extract]at this;omega
theorem Se (s:ByteArray):(Cw s).length<=s.size:=by unfold Cw;rw[KV];exact TP s
variable {ws:Wds}
theorem Jfp (h3:ws.length=3) (h1:1<=(nth ws 2).size) (h4:(nth ws 2).size<=4):
  Eq ws=if(numO (ws.take 2)&&numO (Cw (nth ws 2)))=true then some (⟨nth (numD (ws.take 2)) 0,nth (numD (ws.take 2)) 1⟩,numD (Cw (nth ws 2)))else none:=by
 match ws,h3,h1,h4 with
 |[a,b,c],_,h1,h4=>
  have h1:1<=c.size:=h1;have h4:c.size<=4:=h4;show Eq [a,b,c]=if(numO [a,b]&&numO (Cw c))=true then some (⟨(numB 3 a).getD 0,(numB 3 b).getD 0⟩,numD (Cw c))else none
  have hd:AB c 4=AV (bl c):=by unfold AB;rw[decide_eq_true (show(1:Int)<=c.size by omega),decide_eq_true (show(c.size:Int)<=4 by omega)];rfl
  have hn:=SP (s:=c) (by omega);rw[XU]at hn;unfold Eq;show(if[a,b,c].length=3/\AB c 4=true then(numB 3 a).bind fun x=>(numB 3 b).map fun y=>((⟨x,y⟩:LockD),BB c)else none)=_;have e:numO [a,b]=((numB 3 a).isSome&&(numB 3 b).isSome):=by simp[numO]
  rw[hd,e]
  by_cases h:AV (bl c)=true
  ·rw[if_pos h]at hn
   have h9:numO (Cw c)=true:=by
    cases hq:numO (Cw c)with
    |true=>rfl
    |false=>rw[hq]at hn;cases hn
   rw[h9,if_pos rfl]at hn;rw[if_pos ⟨rfl,h⟩,h9,Option.some.inj hn];cases numB 3 a with
   |none=>rfl
   |some x=>cases numB 3 b<;>rfl
  rw[if_neg h]at hn
  have h9:numO (Cw c)=false:=by
   cases hq:numO (Cw c)with
   |false=>rfl
   |true=>rw[hq]at hn;cases hn
  rw[if_neg fun q=>h q.2,h9,if_neg (by simp)]
def Ks (G:Game) (u:World):Prop:=RoomOk u G.rm/\(∀x∈G.cds.l,SlT cInt u x)/\∀x∈G.nts.l,cNote.ok u x
def A5 (gb:Nat) (T:TypeId) (cs:List Value) (G:Game):List SA:=[blk gb cs T,oT cLock 85 G.lks.v G.lks.l,oT (cSl cInt) 48 G.cds.v G.cds.l,oT cNote 91 G.nts.v G.nts.l,roS (Ks G)]
def gm (gb:Nat) (G:Game):SA:=star (A5 gb 37 (gcl G) G)
def GmR (a:Addr) (w:World) (Ls:List SA) (gb:Nat) (p:Game->Bool->Prop):Ending->World->Prop:=fun e u'=>∃x:Game×Value,(p x.1 (noE x.2)/\(x.2 = .nilIface\/∃t y,x.2 = .iface t y))/\e = .returned x.2/\St w.heap.size w (gm gb x.1::roS (fun u=>ErrX a u x.2)::Ls) u'
variable {a:Addr} {w u:World} {Ls:List SA} {gb:Nat} {G:Game}
theorem gmR0 {p:Game->Bool->Prop} (h:p G false) (hu:St w.heap.size w (A5 gb 37 (gcl G) G++Ls) u):GmR a w Ls gb p (.returned (errV a)) u:=
 ⟨(G,errV a),⟨h,.inr ⟨_,_,rfl⟩⟩,rfl,(St.roTrue (St.pack hu) (p:=fun u=>ErrX a u (errV a)) fun _=>.inr .line).perm (.swap _ _ _)⟩
theorem gmR1 {p:Game->Bool->Prop} (h:p G true) (hu:St w.heap.size w (A5 gb 37 (gcl G) G++Ls) u):GmR a w Ls gb p (.returned .nilIface) u:=
 ⟨(G,.nilIface),⟨h,.inl rfl⟩,rfl,(St.roTrue (St.pack hu) (p:=fun u=>ErrX a u .nilIface) fun _=>.inl rfl).perm (.swap _ _ _)⟩
theorem gmRx {x:Value} {p:Game->Bool->Prop} (h:p G (noE x)) (hx:x = .nilIface\/∃t y,x = .iface t y) (hu:St w.heap.size w (roS (fun u=>ErrX a u x)::(A5 gb 37 (gcl G) G++Ls)) u):GmR a w Ls gb p (.returned x) u:=by
 refine⟨(G,x),⟨h,hx⟩,rfl,?_⟩;have h1:St w.heap.size w (A5 gb 37 (gcl G) G++(roS (fun u=>ErrX a u x)::Ls)) u:=hu.perm (by simpa using(List.perm_middle (l₁:=A5 gb 37 (gcl G) G) (a:=roS fun u=>ErrX a u x) (l₂:=Ls)).symm);exact St.pack h1
variable {n0:Nat} {w0:World} {L:List SA}
theorem XH {x y z:Value} (h:St n0 w0 (roS (fun u=>(∀v∈[z,y],ErrX a u v)->ErrX a u x)::roS (fun u=>ErrX a u z)::roS (fun u=>ErrX a u y)::L) u):St n0 w0 (roS (fun u=>ErrX a u x)::L) u:=
 St.roMap (fun u h=>h.1.1 (okE h.1.2 h.2)) (St.roAnd (St.roAnd h))
theorem Kf {y:Sl Int} (v1 v2:Value) (ls:List LockD) (h:St n0 w0 (roS (Ks G)::roT cInt y::L) u):St n0 w0 (roS (Ks {G with lks:=⟨v1,ls⟩,cds:=⟨v2,G.cds.l++[y]⟩})::L) u:=
 St.roMap (fun u h=>⟨h.1.1,fun x hx=>by rcases List.mem_append.1 hx with hx|hx;exact h.1.2.1 x hx;(rw[List.mem_singleton]at hx;subst hx;exact h.2),h.1.2.2⟩) (St.roAnd h)
structure GmB (G:Game):Prop where
 lks:G.lks.l.length<=70000
 cds:G.cds.l.length<=70000
 nts:G.nts.l.length<=70000
def QB (G:Game) (ws:Wds) (G':Game) (b:Bool):Prop:=if b=true then G.nts.l=[]/\∃x,Eq ws=some x/\G'.p=addG G.p (.lock x.1 x.2)else(G.nts.l≠[]\/Eq ws=none)
theorem QQ (R:SA) (a:Addr) (hE:EOk w a) (gb:Nat) (G:Game) (s0:Sl ByteArray) (hz:∀x∈s0.l,(x.size:Int)<=65536) (hn:s0.l.length<=65537) (hB:GmB G) (p:World->Prop) (hp:∀u,p u->SlT cStr u s0) (hU:U8Ok w) (hu:St w.heap.size w [gm gb G,roS p,R] u):
  Calls prog 27 #[.pointer (some ⟨gb,0,none⟩),s0.v] u (GmR a w [roS p,R] gb (QB G s0.l)):=by
 have hB1:=hB.lks;have hB2:=hB.cds;refine Ei hu func27 ?_;refine CS.unpack (L1:=A5 gb 37 (gcl G) G) ?_;refine CS.roE (j:=5) rfl fun hwx=>?_;obtain⟨uw,hwp⟩:=hwx;have hw:=hp uw hwp;refine Nz 1 ?_;refine Nv 3 ?_;refine Wk 0 (Ba 0) ?_;refine Wk 2 (B7 (j:=3) sl35 rfl rfl) ?_;refine We 0 ?_;refine Wf 0 rfl rfl (fun hg=>Nc (eg_ hg rfl) (s:=s0)) ?_;refine We 0 ?_;refine Wk 1 Po ?_;refine We 0 ?_;refine Wf 0 rfl rfl (fun hg=>Xc (eg_ hg rfl) (s:=s0)) ?_;refine Wf 0 rfl rfl (fun hg=>Da (s:=s0) (jj:=5) rfl hp (eg_ hg rfl) ⟨by decide,by(try simp only[bq]at hg);omega⟩ tk9) ?_;refine Wf 0 rfl rfl (fun hg=>Al underlying9 (eg_ hg rfl)) ?_;refine Wf 0 rfl rfl (fun hg=>Cb rfl (ec_ (eg_ hg rfl) (ec_ rfl (ec_ rfl en_))) Hm (fun u hu=>BF _ _ _ u)) ?_;refine We 0 ?_;refine Wk 0 Po ?_;refine Wp ?_ ?_<;>intro hc1
 ·have hno:QB G s0.l G false:=by
   show G.nts.l≠[]\/Eq s0.l=none
   by_cases hnt:G.nts.l=[]
   ·refine .inr (if_neg fun h9=>?_);have h8:=Ef h9.2;have h7:(G.nts.l.length:Int)=0:=by rw[hnt];rfl
    omega
   exact .inl hnt
  refine Nz 0 ?_;refine Wk 1 (AX tk71 rfl fun u hu=>hE.st hu) ?_;exact Wd (Qc (Cr (Qr (out1 rfl rfl (fun u hu=>gmR0 hno hu)))))
 have hnt:G.nts.l=[]:=List.length_eq_zero_iff.1 (by omega);have hw3:s0.l.length=3:=by omega
 have hce:=Jfp (ws:=s0.l) hw3 (by omega) (by omega);have hct:(s0.cut 1 0 2).l=s0.l.take 2:=by simp[Sl.cut]
 have hzc:∀x∈(s0.cut 1 0 2).l,(x.size:Int)<=1000000:=fun x hx=>by rw[hct]at hx;have:=hz x (List.mem_of_mem_take hx);omega
 have hxl:=Se (nth s0.l 2);have hxz:∀x∈Cw (nth s0.l 2),(x.size:Int)<=1000000:=fun x hx=>by have:=PR _ _ x hx;omega
 have hcl:(s0.cut 1 0 2).l.length=2:=by rw[hct,List.length_take];omega
 refine Ck (Qc (Nz 1 ?_));refine Wk 0 (Cl sl23 rfl rfl hw.sp (by decide) (by omega)) ?_;refine Wc rfl rfl Yu (fun u hu=>N0 a (s0.cut 1 0 2) u (hE.st hu) ((hp u (hu.ro (j:=5) rfl)).cut (lo:=0) (hi:=2) (by omega) (by omega)) hzc (by omega)) (fun _=>rfl) ?_;rintro⟨v1,e1⟩ ⟨⟨h1,he1⟩,u1,hv1⟩;refine WS.unpack ?_;have hvo1:=Sl.one hv1;have heo1:=oneE he1;have hdl1:(numD (s0.cut 1 0 2).l).length=2:=by rw[FU,hcl]
 refine Wz 5 ?_;refine Nx 1 ?_;refine Wk 0 (Xc (s:=s0)) ?_;refine Wk 0 (Da (s:=s0) (jj:=7) rfl hp rfl ⟨by decide,by omega⟩ tk9) ?_;refine Wc rfl rfl U0 (fun u hu=>Xo (nth s0.l 2) u (hU.st hu) (by omega) (by omega)) (fun _=>rfl) ?_;rintro v40 ⟨u40,hv40⟩;have hvo40:=Sl.one hv40;refine Wc rfl rfl Yu (fun u hu=>N0 a ⟨v40,Cw (nth s0.l 2)⟩ u (hE.st hu) (hu.ro (j:=0) rfl) hxz (by(try simp only);omega)) (fun _=>rfl) ?_;rintro⟨v2,e2⟩ ⟨⟨h2,he2⟩,u2,hv2⟩;refine WS.unpack ?_;have hvo2:=Sl.one hv2;have heo2:=oneE he2;refine Wz 5 ?_;refine Nv 2 ?_;refine WS.buildE2 a (b:=e1) (c:=e2) Me zv71 rfl rfl he1 he2 (fun _=>rfl) ?_;intro v46;refine Wc rfl rfl RD (fun u hu=>Le a ⟨v46,[e1,e2]⟩ u (Bk hu (j:=0) rfl (okE (hu.ro (j:=5) rfl) (hu.ro (j:=2) rfl))) (by simp)) (fun _=>rfl) ?_;rintro x ⟨hx1,hx2⟩;refine WS.sel [0,5,2,4,4,4,4,4,4,4,3,1] rfl ?_;refine WS.weak (fun u hu=>XH hu) ?_;refine Wz 1 ?_;refine Nx 1 ?_;refine Wk 0 (Er (by kernel_rfl) rfl hx2) ?_;refine Wp ?_ ?_<;>intro hc2
 ·have hno:QB G s0.l G (noE x):=by
   show if noE x=true then _ else _
   rw[if_neg (by simpa using hc2)];refine .inr ?_;rw[hce,<-hct,if_neg];have h9:noE x=(noE e1&&noE e2):=by rw[hx1];simp
   rw[<-h1,<-h2,<-h9];simpa using hc2
  refine Nz 2 ?_;exact Wd (Qc (Cr (Qr (out1 rfl rfl (fun u hu=>gmRx hno hx2 (hu.sel [0,0,0,0,0,0,0,0] rfl))))))
 have hxt:noE x=true:=by simpa using hc2
 have h9:noE x=(noE e1&&noE e2):=by rw[hx1];simp
 rw[hxt,h1,h2,hct]at h9;rw[<-h9,if_pos rfl]at hce;have hyes:∀(z1 z2:Value) (z3:Sl Int),z3.l=numD (Cw (nth s0.l 2))->QB G s0.l {G with lks:=⟨z1,G.lks.l++[⟨nth (numD (s0.cut 1 0 2).l) 0,nth (numD (s0.cut 1 0 2).l) 1⟩]⟩,cds:=⟨z2,G.cds.l++[z3]⟩} true:=fun z1 z2 z3 hz3=>⟨hnt,_,hce,by rw[<-hct];simp[addG,Game.p,hz3]⟩;refine Ck (Qc (Cs ?_));refine CS.drawnTill 13 (k:=17) mixed rfl rfl ?_;refine Tr 17 [1,2,3] ?_;refine Tk 17 4 [5] rfl (Ba 1) ?_;refine Tk 17 6 [] rfl (Xc (s:=⟨v1,numD (s0.cut 1 0 2).l⟩) (h0:=by decide) (h1:=by show(0:Int)<((numD (s0.cut 1 0 2).l).length:Int);omega)) ?_;refine Tk 17 7 [8] rfl (Vb 8 rfl (s:=⟨v1,numD (s0.cut 1 0 2).l⟩) (h:=⟨by decide,by show(0:Int)<((numD (s0.cut 1 0 2).l).length:Int);omega⟩)) ?_;refine Tk 17 9 [] rfl (Xc (s:=⟨v1,numD (s0.cut 1 0 2).l⟩) (h0:=by decide) (h1:=by show(1:Int)<((numD (s0.cut 1 0 2).l).length:Int);omega)) ?_;refine Tk 17 10 [] rfl (Vb 8 rfl (s:=⟨v1,numD (s0.cut 1 0 2).l⟩) (h:=⟨by decide,by show(1:Int)<((numD (s0.cut 1 0 2).l).length:Int);omega⟩)) ?_;refine Tk 17 11 [] rfl (Db Z5 zv85) ?_;refine AT.two (i:=0) (j:=12) (by kernel_rfl) rfl rfl (by first|(intro h;exact absurd h (by decide))|exact fun _ _ h=>h|exact fun _ _ h=>h.sub (by repeat first|exact List.Sublist.refl _|apply List.Sublist.cons_cons|apply List.Sublist.cons)) rfl rfl ?_ ?_
 ·refine Wz 1 ?_;refine Wd (Qt ?_);refine To 12 rfl ?_;refine WS.buildT1 cLock (a:=⟨nth (numD (s0.cut 1 0 2).l) 0,nth (numD (s0.cut 1 0 2).l) 1⟩) sl33 zv85 rfl (by decide) (fun _=>rfl) ?_;intro v63;refine Wd (Qt ?_);refine To 13 rfl ?_;refine WS.appendT1 (C:=cLock) (a:=⟨nth (numD (s0.cut 1 0 2).l) 0,nth (numD (s0.cut 1 0 2).l) 1⟩) (j:=3) (jz:=0) sl33 zv85 rfl (by decide) rfl rfl rfl rfl (w:=w) trivial (by omega) (by omega) (fun _=>rfl) (fun _=>rfl) ?_;intro v64 hv64;refine Wd (Qt ?_);refine To 14 rfl ?_;refine Wz 1 ?_;refine Wd (Qt ?_);refine To 15 rfl ?_;refine Wz 1 ?_;refine Wd (Qt ?_);refine To 16 rfl ?_;refine Ws 0 2 ?_;refine Wd (Qt ?_);refine Te ?_;refine Qc (Nz 4 ?_);refine Wk 1 (Ba 2) ?_;refine WS.buildSlice1 sl34 zv48 (vs:=[v2]) rfl rfl (by decide) (fun v h=>by simp at h;subst h;exact hvo2) (fun _=>rfl) ?_;intro v73;refine WS.appendT2 (C:=cSl cInt) (a:=⟨v2,numD (Cw (nth s0.l 2))⟩) (j:=5) (jz:=0) sl34 zv48 rfl (by decide) rfl rfl rfl rfl (fun v h=>by simp[cSl]at h;subst h;exact hvo2) (by omega) (by omega) (fun _=>rfl) (fun _=>rfl) ?_;intro v74 hv74;refine Wz 2 ?_;refine Ws 0 3 ?_;refine Nx 1 ?_;refine Wd (Qc (Cr ?_));refine QS.sel [7,10,3,3,3,3,3,3] rfl ?_;refine QS.weak (fun u hu=>Kf v64 v74 (G.lks.l++[⟨nth (numD (s0.cut 1 0 2).l) 0,nth (numD (s0.cut 1 0 2).l) 1⟩]) hu) ?_;refine QS.sel [1,1,1,1,0,0,0] rfl ?_;exact out1 rfl rfl (fun u hu=>gmR1 (G:={G with lks:=⟨v64,G.lks.l++[⟨nth (numD (s0.cut 1 0 2).l) 0,nth (numD (s0.cut 1 0 2).l) 1⟩]⟩,cds:=⟨v74,G.cds.l++[⟨v2,numD (Cw (nth s0.l 2))⟩]⟩}) (hyes _ _ _ rfl) hu)
 refine WS.buildT1 cLock (a:=⟨nth (numD (s0.cut 1 0 2).l) 0,nth (numD (s0.cut 1 0 2).l) 1⟩) sl33 zv85 rfl (by decide) (fun _=>rfl) ?_;intro v63;refine Wd (Qt ?_);refine AT.two (i:=0) (j:=13) (by kernel_rfl) rfl rfl (by first|(intro h;exact absurd h (by decide))|exact fun _ _ h=>h|exact fun _ _ h=>h.sub (by repeat first|exact List.Sublist.refl _|apply List.Sublist.cons_cons|apply List.Sublist.cons)) rfl rfl ?_ ?_
 ·refine Wz 1 ?_;refine Wd (Qt ?_);refine To 13 rfl ?_;refine WS.appendT1 (C:=cLock) (a:=⟨nth (numD (s0.cut 1 0 2).l) 0,nth (numD (s0.cut 1 0 2).l) 1⟩) (j:=3) (jz:=0) sl33 zv85 rfl (by decide) rfl rfl rfl rfl (w:=w) trivial (by omega) (by omega) (fun _=>rfl) (fun _=>rfl) ?_;intro v64 hv64;refine Wd (Qt ?_);refine To 14 rfl ?_;refine Wz 1 ?_;refine Wd (Qt ?_);refine To 15 rfl ?_;refine Wz 1 ?_;refine Wd (Qt ?_);refine To 16 rfl ?_;refine Ws 0 2 ?_;refine Wd (Qt ?_);refine Te ?_;refine Qc (Nz 4 ?_);refine Wk 1 (Ba 2) ?_;refine WS.buildSlice1 sl34 zv48 (vs:=[v2]) rfl rfl (by decide) (fun v h=>by simp at h;subst h;exact hvo2) (fun _=>rfl) ?_;intro v73;refine WS.appendT2 (C:=cSl cInt) (a:=⟨v2,numD (Cw (nth s0.l 2))⟩) (j:=5) (jz:=0) sl34 zv48 rfl (by decide) rfl rfl rfl rfl (fun v h=>by simp[cSl]at h;subst h;exact hvo2) (by omega) (by omega) (fun _=>rfl) (fun _=>rfl) ?_;intro v74 hv74;refine Wz 2 ?_;refine Ws 0 3 ?_;refine Nx 1 ?_;refine Wd (Qc (Cr ?_));refine QS.sel [7,10,3,3,3,3,3,3] rfl ?_;refine QS.weak (fun u hu=>Kf v64 v74 (G.lks.l++[⟨nth (numD (s0.cut 1 0 2).l) 0,nth (numD (s0.cut 1 0 2).l) 1⟩]) hu) ?_;refine QS.sel [1,1,1,1,0,0,0] rfl ?_;exact out1 rfl rfl (fun u hu=>gmR1 (G:={G with lks:=⟨v64,G.lks.l++[⟨nth (numD (s0.cut 1 0 2).l) 0,nth (numD (s0.cut 1 0 2).l) 1⟩]⟩,cds:=⟨v74,G.cds.l++[⟨v2,numD (Cw (nth s0.l 2))⟩]⟩}) (hyes _ _ _ rfl) hu)
 refine WS.appendT1 (C:=cLock) (a:=⟨nth (numD (s0.cut 1 0 2).l) 0,nth (numD (s0.cut 1 0 2).l) 1⟩) (j:=3) (jz:=0) sl33 zv85 rfl (by decide) rfl rfl rfl rfl (w:=w) trivial (by omega) (by omega) (fun _=>rfl) (fun _=>rfl) ?_;intro v64 hv64;refine Wd (Qt ?_);refine To 0 rfl ?_;refine Wz 1 ?_;refine Wd (Qt ?_);refine To 14 rfl ?_;refine Wz 1 ?_;refine Wd (Qt ?_);refine To 15 rfl ?_;refine Wz 1 ?_;refine Wd (Qt ?_);refine To 16 rfl ?_;refine Ws 0 2 ?_;refine Wd (Qt ?_);refine Te ?_;refine Qc (Nz 4 ?_);refine Wk 1 (Ba 2) ?_;refine WS.buildSlice1 sl34 zv48 (vs:=[v2]) rfl rfl (by decide) (fun v h=>by simp at h;subst h;exact hvo2) (fun _=>rfl) ?_;intro v73;refine WS.appendT2 (C:=cSl cInt) (a:=⟨v2,numD (Cw (nth s0.l 2))⟩) (j:=5) (jz:=0) sl34 zv48 rfl (by decide) rfl rfl rfl rfl (fun v h=>by simp[cSl]at h;subst h;exact hvo2) (by omega) (by omega) (fun _=>rfl) (fun _=>rfl) ?_;intro v74 hv74;refine Wz 2 ?_;refine Ws 0 3 ?_;refine Nx 1 ?_;refine Wd (Qc (Cr ?_));refine QS.sel [7,10,3,3,3,3,3,3] rfl ?_;refine QS.weak (fun u hu=>Kf v64 v74 (G.lks.l++[⟨nth (numD (s0.cut 1 0 2).l) 0,nth (numD (s0.cut 1 0 2).l) 1⟩]) hu) ?_;refine QS.sel [1,1,1,1,0,0,0] rfl ?_;exact out1 rfl rfl (fun u hu=>gmR1 (G:={G with lks:=⟨v64,G.lks.l++[⟨nth (numD (s0.cut 1 0 2).l) 0,nth (numD (s0.cut 1 0 2).l) 1⟩]⟩,cds:=⟨v74,G.cds.l++[⟨v2,numD (Cw (nth s0.l 2))⟩]⟩}) (hyes _ _ _ rfl) hu)
variable {l:Wds} {n:Int}
theorem SW (hn:0<=n) (h:∀x∈l,(x.size:Int)<=n) (i:Int):((nth l i).size:Int)<=n:=by
 by_cases hi:i.toNat<l.length
 ·refine h _ ?_;simp only[nth,List.getD,List.getElem?_eq_getElem hi,Option.getD_some];exact List.getElem_mem hi
 simp only[nth,List.getD,List.getElem?_eq_none (by omega:l.length<=i.toNat),Option.getD_none];exact hn
def I5 (G:Game) (ws:Wds) (G':Game) (b:Bool):Prop:=if b=true then∃n,BP G.rm.pls.l G.rm.ths.l G.lks.l ws=some n/\G'.p=addG G.p (.note n)else BP G.rm.pls.l G.rm.ths.l G.lks.l ws=none
theorem three (h:3<=ws.length):ws=nth ws 0::nth ws 1::nth ws 2::ws.drop 3:=by
 match ws,h with
 |a::b::c::r,_=>rfl
structure NtI (G:Game) (ws:Wds) (b:Bool) (c:List Lit) (W:Wds):Prop where
 yes:b=true->nmB G.rm.pls.l (nth ws 2)=true/\FQ G.rm.ths.l G.lks.l (ws.drop 3)=(CU G.lks.l W).map fun k=>(c,k.1,k.2)
 no:b=false->BP G.rm.pls.l G.rm.ths.l G.lks.l ws=none
 sf:W <:+ws
variable {pls:Wds}
theorem Rj {t:ByteArray}:nmB pls t=true↔Au t=true/\0<=idxN id pls t:=by
 unfold nmB;rw[Bool.and_eq_true,decide_eq_true_eq];exact and_comm
variable {ths:List Thing} {lks:List LockD}
theorem Nn (h3:3<=ws.length) (h:nmB pls (nth ws 2)=false):BP pls ths lks ws=none:=by
 rw[three h3];refine F0 fun h2=>?_;rw[Rj.2 h2.2.2]at h;cases h
theorem HG (h3:3<=ws.length) (h1:Au (nth ws 0)=true) (h2:seq (nth ws 1) atW=true) (h:nmB pls (nth ws 2)=true):
  BP pls ths lks ws=(FQ ths lks (ws.drop 3)).map fun x=>⟨nth ws 0,idxN id pls (nth ws 2),x.2.1,x.1,x.2.2⟩:=by
 have h4:=Rj.1 h
 conv=>lhs;rw[three h3]
 exact Rf h1 h2 h4.1 h4.2
theorem NtI.zero (h3:3<=ws.length) (hi:isW ifW (ws.drop 3)=false):NtI G ws (nmB G.rm.pls.l (nth ws 2)) [] (ws.drop 3):=
 ⟨fun h=>⟨h,Xl hi⟩,Nn h3,List.drop_suffix _ _⟩
variable {W:Wds} {b:Bool} {c:List Lit} {k:Int×Clue}
theorem NtI.lock (h3:3<=ws.length) (h1:Au (nth ws 0)=true) (h2:seq (nth ws 1) atW=true) (h:NtI G ws b c W) (hk:CU G.lks.l W=some k):
  if b=true then BP G.rm.pls.l G.rm.ths.l G.lks.l ws=some ⟨nth ws 0,idxN id G.rm.pls.l (nth ws 2),k.1,c,k.2⟩else BP G.rm.pls.l G.rm.ths.l G.lks.l ws=none:=by
 split
 ·rename_i hb;obtain⟨h4,h5⟩:=h.yes hb;rw[HG h3 h1 h2 h4,h5,hk];rfl
 rename_i hb;exact h.no (by simpa using hb)
theorem NtI.none (h3:3<=ws.length) (h1:Au (nth ws 0)=true) (h2:seq (nth ws 1) atW=true) (h:NtI G ws b c W) (hk:CU G.lks.l W=Option.none):BP G.rm.pls.l G.rm.ths.l G.lks.l ws=Option.none:=by
 cases hb:b with
 |false=>exact h.no hb
 |true=>
  obtain⟨h4,h5⟩:=h.yes hb;rw[HG h3 h1 h2 h4,h5,hk];rfl
structure NtL (G:Game) (ws:Wds) (ls:Wds) (i:Int) (b:Bool) (c:List Lit):Prop where
 yes:b=true->nmB G.rm.pls.l (nth ws 2)=true/\CQ G.rm.ths.l (ls.take i.toNat)=some c
 no:b=false->nmB G.rm.pls.l (nth ws 2)=false\/CQ G.rm.ths.l (ls.take i.toNat)=none
 ln:(c.length:Int)=i
theorem Sf {t:ByteArray} (h:CQ ths ws=none):CQ ths (ws++[t])=none:=by
 induction ws with
 |nil=>cases h
 |cons x r ih=>
  rw[List.cons_append,CQ];unfold CQ at h;cases hl:litT ths x with
  |none=>rfl
  |some a=>
   rw[hl]at h;cases hc:CQ ths r with
   |none=>rw[ih hc]
   |some c=>rw[hc]at h;cases h
theorem NtL.zero {ls:Wds}:NtL G ws ls 0 (nmB G.rm.pls.l (nth ws 2)) []:=⟨fun h=>⟨h,rfl⟩,fun h=>.inl h,rfl⟩
theorem NtL.step {ls:Wds} {i:Int} {b2 b3:Bool} {a:Lit} (h:NtL G ws ls i b c) (h0:0<=i) (h1:i<ls.length)
  (ha:(∃z,litT G.rm.ths.l (nth ls i)=some z/\a=z/\b2=true)\/(litT G.rm.ths.l (nth ls i)=none/\b2=false)) (hb:b3=(b&&b2)):NtL G ws ls (i+1) b3 (c++[a]):=by
 have e:=AG ls h0 h1;refine⟨fun h3=>?_,fun h3=>?_,by rw[List.length_append];have:=h.ln;simp;omega⟩
 ·rw[hb,Bool.and_eq_true]at h3;obtain⟨h4,h5⟩:=h.yes h3.1;rcases ha with⟨z,hz,rfl,_⟩|⟨_,h6⟩
  ·rw[e];exact⟨h4,JG h5 hz⟩
  rw[h6]at h3;cases h3.2
 rw[e];cases hb1:b with
 |false=>
  rcases h.no hb1 with h4|h4
  ·exact .inl h4
  exact .inr (Sf h4)
 |true=>
  rw[hb,hb1,Bool.true_and]at h3;rcases ha with⟨z,_,_,h6⟩|⟨h6,_⟩
  ·rw[h6]at h3;cases h3
  exact .inr (LN (ws:=ls.take i.toNat++[nth ls i]) (by simp) h6)
structure LkE (l:Wds) (e:Int):Prop where
 e0:0<=e
 e1:e<=l.length
 no:∀j:Int,0<=j->j<e->seq (nth l j) Br=false
 at_:e<l.length->seq (nth l e) Br=true
theorem LkE.len (h:idxF (fun x=>seq Br x) l<0):LkE l l.length:=by
 refine⟨by omega,Int.le_refl _,fun j h0 h1=>?_,fun h=>absurd h (by omega)⟩;cases hs:seq (nth l j) Br with
 |false=>rfl
 |true=>
  exfalso;unfold idxF at h;cases hf:l.findIdx? (fun x=>seq Br x)with
  |some i=>rw[hf]at h;simp only at h;omega
  |none=>
   rw[List.findIdx?_eq_none_iff]at hf;have:=hf _ (Ai h0 h1);rw[CY,hs]at this;cases this
theorem LkE.idx (h:¬idxF (fun x=>seq Br x) l<0):LkE l (idxF (fun x=>seq Br x) l):=by
 unfold idxF at h⊢;cases hf:l.findIdx? (fun x=>seq Br x)with
 |none=>rw[hf]at h;simp at h
 |some i=>
  rw[List.findIdx?_eq_some_iff_getElem]at hf;obtain⟨h1,h2,h3⟩:=hf;simp only;refine⟨by omega,by omega,fun j h0 h4=>?_,fun _=>?_⟩
  ·have h5:=h3 j.toNat (by omega);have e:nth l j=l[j.toNat]'(by omega):=by simp[nth,List.getD,show j.toNat<l.length by omega]
   rw[e,CY];simpa using h5
  have e:nth l (i:Int)=l[i]:=by simp[nth,List.getD,h1]
  rw[e,CY];simpa using h2
theorem LkE.parts {e:Int} (h:LkE l e) (hi:isW ifW l=true):1<=e/\l=ifW::((l.drop 1).take (e.toNat-1)++l.drop e.toNat)/\(∀x∈(l.drop 1).take (e.toNat-1),seq x Br=false)/\(l.drop e.toNat=[]\/isW Br (l.drop e.toNat)=true):=by
 have he0:=h.e0;have he1:=h.e1
 match l,hi with
 |t::r,hi=>
  obtain rfl:t=ifW:=C9.1 hi
  have h1:1<=e:=by
   rcases(show e=0\/1<=e by omega)with rfl|h1
   ·have:=h.at_ (by simp only[List.length_cons];omega);exact absurd (show seq ifW Br=true from this) (by decide+kernel)
   exact h1
  obtain⟨n,rfl⟩:∃n:Nat,e=(n:Int)+1:=⟨e.toNat-1,by omega⟩;have en:((n:Int)+1).toNat=n+1:=by omega
  rw[en];refine⟨h1,?_,fun x hx=>?_,?_⟩
  ·simp
  ·simp only[List.drop_one,List.tail_cons,Nat.add_sub_cancel]at hx;obtain⟨j,hj,rfl⟩:=List.mem_iff_getElem.1 hx;rw[List.getElem_take];have hj2:j<r.length/\j<n:=by rw[List.length_take]at hj;omega
   have:=h.no ((j:Int)+1) (by omega) (by omega)
   have e2:nth (ifW::r) ((j:Int)+1)=r[j]:=by
    unfold nth;rw[show((j:Int)+1).toNat=j+1 by omega];simp[List.getD,hj2.1]
   rw[e2]at this;exact this
  rw[List.drop_succ_cons]
  by_cases hl:n<r.length
  ·right;have:=h.at_ (by simp only[List.length_cons];omega)
   have e2:nth (ifW::r) ((n:Int)+1)=r[n]:=by
    unfold nth;rw[show((n:Int)+1).toNat=n+1 by omega];simp[List.getD,hl]
   rw[e2]at this;rw[List.drop_eq_getElem_cons hl];exact this
  left;exact List.drop_eq_nil_of_le (by omega)
theorem NtL.fin {e:Int} (hi:isW ifW (ws.drop 3)=true) (h3:3<=ws.length) (hE:LkE (ws.drop 3) e) (he:¬e=1)
  (h:NtL G ws (((ws.drop 3).drop 1).take (e.toNat-1)) n b c) (hn:n=(((ws.drop 3).drop 1).take (e.toNat-1)).length):NtI G ws b c ((ws.drop 3).drop e.toNat):=by
 obtain⟨p1,p2,p3,p4⟩:=hE.parts hi;have ht:(((ws.drop 3).drop 1).take (e.toNat-1)).take n.toNat=((ws.drop 3).drop 1).take (e.toNat-1):=List.take_of_length_le (by omega);have hln:=h.ln;refine⟨fun hb=>?_,fun hb=>?_,(List.drop_suffix _ _).trans (List.drop_suffix _ _)⟩
 ·obtain⟨h4,h5⟩:=h.yes hb;rw[ht]at h5;refine⟨h4,?_⟩
  conv=>lhs;rw[p2]
  refine WD p4 h5 fun h0=>?_;rw[h0]at hln;have he1:=hE.e1
  have:(((ws.drop 3).drop 1).take (e.toNat-1)).length=0:=by
   have:((([]:List Lit).length:Nat):Int)=n:=hln;simp only[List.length_nil]at this;omega
  rw[List.length_take,List.length_drop]at this;omega
 rcases h.no hb with h4|h4
 ·exact Nn h3 h4
 cases hnm:nmB G.rm.pls.l (nth ws 2)with
 |false=>exact Nn h3 hnm
 |true=>
  rw[ht]at h4
  by_cases h1:Au (nth ws 0)=true/\seq (nth ws 1) atW=true
  ·rw[HG h3 h1.1 h1.2 hnm]
   have e9:FQ G.rm.ths.l G.lks.l (ws.drop 3)=Option.none:=by
    conv=>lhs;rw[p2]
    exact Ry p3 h4
   rw[e9];rfl
  rw[three h3];exact F0 fun h9=>h1 ⟨h9.1,h9.2.1⟩
theorem NtL.one {e:Int} (hi:isW ifW (ws.drop 3)=true) (h3:3<=ws.length) (hE:LkE (ws.drop 3) e) (he:e=1):BP G.rm.pls.l G.rm.ths.l G.lks.l ws=none:=by
 obtain⟨p1,p2,p3,p4⟩:=hE.parts hi;subst he
 have e9:FQ G.rm.ths.l G.lks.l (ws.drop 3)=Option.none:=by
  conv=>lhs;rw[p2]
  exact SZ p4
 by_cases h1:Au (nth ws 0)=true/\seq (nth ws 1) atW=true/\nmB G.rm.pls.l (nth ws 2)=true
 ·rw[HG h3 h1.1 h1.2.1 h1.2.2,e9];rfl
 rw[three h3];exact F0 fun h9=>h1 ⟨h9.1,h9.2.1,Rj.2 h9.2.2⟩
theorem Ya {m:Int} {t:ByteArray} (h:numB m t=some n):0<=n:=by
 unfold numB at h;split at h
 ·rename_i h1;rw[Bool.and_eq_true]at h1;cases h;exact(RJ (Fv h1.1)).1
 cases h
theorem Ur (h0:0<W.length) (h:(W.length:Int)<2\/seq (nth W 0) Br=false):CU lks W=none:=by
 match W,h0 with
 |t::r,_=>
  cases hs:seq t Br with
  |false=>exact Pf hs
  |true=>
   rcases h with h|h
   ·have:r=[]:=List.length_eq_zero_iff.1 (by simp only[List.length_cons]at h;omega);subst this;unfold CU;rw[if_pos (show isW Br [t]=true from hs)];rfl
   exact absurd (show seq t Br=false from h) (by rw[hs];decide)
theorem Jao (h2:2<=W.length) (hs:seq (nth W 0) Br=true):CU lks W=(numB 3 (nth W 1)).bind fun k=>if k<(lks.length:Int)/\(Cf lks k (W.drop 2)).1=0 then some (k,(Cf lks k (W.drop 2)).2)else none:=by
 match W,h2 with
 |t::n::r,_=>
  unfold CU;rw[if_pos (show isW Br (t::n::r)=true from hs)];show((numB 3 n).map fun k=>(k,r)).bind _=(numB 3 n).bind _;cases numB 3 n<;>rfl
theorem Kb {y:NoteD} (v1:Value) (h:St n0 w0 (roS (Ks G)::roS (fun u=>cNote.ok u y)::L) u):St n0 w0 (roS (Ks {G with nts:=⟨v1,G.nts.l++[y]⟩})::L) u:=
 St.roMap (fun u h=>⟨h.1.1,h.1.2.1,fun x hx=>by rcases List.mem_append.1 hx with hx|hx;exact h.1.2.2 x hx;(rw[List.mem_singleton]at hx;subst hx;exact h.2)⟩) (St.roAnd h)
theorem ntRo {e:TypeId} {v gv:Value} {g:List Int} (h:St n0 w0 (oT cLit e v c::roI gv g::L) u):St n0 w0 (roS (fun u=>SlT cLit u ⟨v,c⟩/\SlI u gv g)::L) u:=
 St.roAnd (St.toRo (p:=fun u=>SlT cLit u ⟨v,c⟩) (fun S u h=>⟨Star.osl (L:=[oT cLit e v c]) (j:=0) rfl ⟨S,fun _ h=>h,h,trivial⟩,fun _ _=>trivial⟩) h)
theorem KJ {x:NoteD} {v:Value} (h3:3<=ws.length) (h1:Au (nth ws 0)=true) (h2:seq (nth ws 1) atW=true) (h:NtI G ws b c W) (hk:CU G.lks.l W=some k)
  (hx:x.nm=nth ws 0) (hp:x.pl=if nmB G.rm.pls.l (nth ws 2)=true then idxN id G.rm.pls.l (nth ws 2)else 0) (hl:x.lk=k.1) (hw:x.wh.l=c) (hc:x.cl=k.2):I5 G ws {G with nts:=⟨v,G.nts.l++[x]⟩} b:=by
 have h9:=h.lock h3 h1 h2 hk;unfold I5;split
 ·rename_i hb;rw[if_pos hb]at h9;rw[if_pos (h.yes hb).1]at hp;refine⟨_,h9,?_⟩;simp[addG,Game.p,NoteD.p,hx,hp,hl,hw,hc]
 rename_i hb;rw[if_neg hb]at h9;exact h9
theorem Jfo (R:SA) (a:Addr) (hE:EOk w a) (gb:Nat) (G:Game) (s0:Sl ByteArray) (hz:∀x∈s0.l,(x.size:Int)<=65536) (hn:s0.l.length<=65537) (hB:GmB G) (p:World->Prop) (hp:∀u,p u->SlT cStr u s0) (hM:MaxOk w) (hW8:WOk w) (hths:G.rm.ths.l.length<=70000) (hu:St w.heap.size w [gm gb G,roS p,R] u):
  Calls prog 28 #[.pointer (some ⟨gb,0,none⟩),s0.v] u (GmR a w [roS p,R] gb (I5 G s0.l)):=by
 have hB3:=hB.nts;have hzn:=SW (by decide) hz;obtain⟨pl,hpl⟩:∃pl,(if nmB G.rm.pls.l (nth s0.l 2)=true then idxN id G.rm.pls.l (nth s0.l 2)else 0)=pl:=⟨_,rfl⟩;have hz0:=hzn 0;have hz2:=hzn 2;refine Ei hu func28 ?_;refine CS.unpack (L1:=A5 gb 37 (gcl G) G) ?_;refine CS.roE (j:=5) rfl fun hwx=>?_;obtain⟨uw,hwp⟩:=hwx;have hw:=hp uw hwp;refine Nz 1 ?_;refine Nv 1 ?_;refine Wk 2 (Nc (s:=s0)) ?_;refine We 0 ?_;refine Wf 0 rfl rfl (fun hg=>Xc (eg_ hg rfl) (s:=s0)) ?_;refine Wf 0 rfl rfl (fun hg=>Da (s:=s0) (jj:=5) rfl hp (eg_ hg rfl) ⟨by decide,by(try simp only[bq]at hg);omega⟩ tk9) ?_;refine Wf 0 rfl rfl (fun hg=>Cb rfl (ec_ (eg_ hg rfl) en_) Yr (fun u hu=>NJ _ u (by have:=hzn 0;omega))) ?_;refine We 0 ?_;refine Wk 1 Po ?_;refine We 0 ?_;refine Wf 0 rfl rfl (fun hg=>Xc (eg_ hg rfl) (s:=s0)) ?_;refine Wf 0 rfl rfl (fun hg=>Da (s:=s0) (jj:=5) rfl hp (eg_ hg rfl) ⟨by decide,by(try simp only[bq]at hg);omega⟩ tk9) ?_;refine Wf 0 rfl rfl (fun hg=>A3 (eg_ hg rfl) rfl) ?_;refine Wk 0 Po ?_;refine Wp ?_ ?_<;>intro hc1
 ·have hno:I5 G s0.l G false:=by
   by_cases h3:s0.l.length<3
   ·exact M3 h3
   show BP _ _ _ s0.l=none;rw[three (show 3<=s0.l.length by omega)];refine F0 fun h9=>?_;have h10:seq (nth s0.l 1) ⟨#[97,116]⟩=true:=h9.2.1;rcases hc1 with(h|h)|h
   ·omega
   ·rw[h9.1]at h;cases h
   rw[h10]at h;cases h
  refine Nz 0 ?_;refine Wk 1 (AX tk71 rfl fun u hu=>hE.st hu) ?_;exact Wd (Qc (Cr (Qr (out1 rfl rfl (fun u hu=>gmR0 hno (hu.sel [0,0,0,0,0,0,0] rfl))))))
 have h3:3<=s0.l.length:=by omega
 have hlt:Au (nth s0.l 0)=true:=hc1.1.2;have hat:seq (nth s0.l 1) atW=true:=hc1.2;have hw3:SlT cStr uw (s0.cut 1 3 s0.l.length):=hw.cut (lo:=3) (hi:=s0.l.length) (by omega) (Nat.le_refl _);have hl3:(s0.cut 1 3 s0.l.length).l=s0.l.drop 3:=by simp only[Sl.cut];exact List.take_of_length_le (by rw[List.length_drop];omega)
 have hn3:(s0.cut 1 3 s0.l.length).l.length=s0.l.length-3:=by rw[hl3,List.length_drop]
 have hro3:∀u,p u->SlT cStr u (s0.cut 1 3 s0.l.length):=fun u h=>(hp u h).cut (lo:=3) (hi:=s0.l.length) (by omega) (Nat.le_refl _);refine Ck (Qc (Cs (Dr mixed 4 ?_)));refine Dk 1 (Ba 0) ?_;refine Dk 0 (Xc (s:=s0)) ?_;refine Dk 0 (Da (s:=s0) (jj:=5) rfl hp rfl ⟨by decide,by omega⟩ tk9) ?_;refine Dk 5 (Cb rfl rfl Je0 (fun u hu=>hpl▸PT a G.rm.pls (nth s0.l 2) u (hE.st hu) (hu.ro (j:=4) rfl:Ks G u).1.pls (by omega))) ?_;refine Dd (Qc (Nz 1 ?_));refine Wk 0 (Xc (s:=s0)) ?_;refine Wk 1 (Da (s:=s0) (jj:=5) rfl hp rfl ⟨by decide,by omega⟩ tk9) ?_;refine Wk 0 (Db T6 zv91) ?_;refine Wq 0 zv91 fun b7 hb7=>?_;refine Wv 0 0 ?_;refine Nx 1 ?_;refine Wk 1 (Bf sl23 rfl rfl hw.sp (by decide) (by omega)) ?_;refine Wd (Qc ?_);refine CS.cut (σ:=Sl ByteArray×Value×Value×List Lit) [4,8,10,11,12,53,54,55,56,57,58,59,60,61,62,63,64,65,66,67,68,69,70,71,72,73,74,75,76,77,78,79,80,81,82,83,84,85,86,87,88,89,90,91,92,93,94,95,96,97,98,99,100,101] (fun s=>[(1,s.1.v),(6,s.2.1)]) (fun s=>blk b7 [.string (nth s0.l 0),.int .i64 pl,.int .i64 (-1),s.2.2.1,.int .i64 0,.int .i64 0,.int .i64 0,.int .i64 0,.int .i64 0,.slice none 0 0,.bool false] 91::oT cLit 103 s.2.2.1 s.2.2.2::roS (fun u=>ErrX a u s.2.1)::(A5 gb 37 (gcl G) G++[roS p,R])) (fun s=>(∀u,p u->SlT cStr u s.1)/\(s.2.1 = .nilIface\/∃t y,s.2.1 = .iface t y)/\NtI G s0.l (noE s.2.1) s.2.2.2 s.1.l) (fun _ _=>rfl) ?_ ?_
 ·refine Nz 1 ?_;refine Wk 2 (Nc (s:=(s0.cut 1 3 s0.l.length))) ?_;refine Wj 0 ?_;refine Wt 0 rfl rfl (fun hg=>Xc (eg_ hg rfl) (s:=(s0.cut 1 3 s0.l.length))) ?_;refine Wt 0 rfl rfl (fun hg=>Da (s:=(s0.cut 1 3 s0.l.length)) (jj:=6) rfl hro3 (eg_ hg rfl) ⟨by decide,by(try simp only[bq]at hg);omega⟩ tk9) ?_;refine Wt 0 rfl rfl (fun hg=>Ah (eg_ hg rfl) rfl) ?_;refine Wk 0 Pa ?_;refine Wp ?_ ?_<;>intro hc2
  ·have hif:isW ifW (s0.l.drop 3)=true:=by rw[<-hl3,GD (by omega)];exact hc2.2
   refine Nz 1 ?_;refine Wk 1 (Cb rfl rfl SC (fun u hu=>Hw (s0.cut 1 3 s0.l.length) Br u (hro3 u (hu.ro (j:=6) rfl)))) ?_;refine Wd (Qc ?_);refine CS.cut (σ:=Int) [64,65,66,67] (fun s=>[(8,.int .i64 s)]) (fun s=>blk b7 [.string (nth s0.l 0),.int .i64 pl,.int .i64 (-1),.slice none 0 0,.int .i64 0,.int .i64 0,.int .i64 0,.int .i64 0,.int .i64 0,.slice none 0 0,.bool false] 91::(A5 gb 37 (gcl G) G++[roS p,R])) (fun s=>LkE (s0.l.drop 3) s) (fun _ _=>rfl) ?_ ?_
   ·refine Nz 2 ?_;refine Wp ?_ ?_<;>intro hc3
    ·refine Ny 1 ?_;refine Wk 1 (Nc (s:=(s0.cut 1 3 s0.l.length))) ?_;exact Wd (QS.head (((s0.cut 1 3 s0.l.length).l.length:Int)) rfl rfl (by rw[hl3]at hc3⊢;exact LkE.len hc3))
    exact Ck (QS.head ((idxF (fun x=>seq Br x) (s0.cut 1 3 s0.l.length).l)) rfl rfl (by rw[hl3]at hc3⊢;exact LkE.idx hc3))
   intro e t hs;have hEe:=hs;refine Cs (Nz 2 ?_);refine Wp ?_ ?_<;>intro hc4
   ·have hno:I5 G s0.l G false:=NtL.one hif h3 hEe hc4;refine Nz 0 ?_;refine Wk 1 (AX tk71 rfl fun u hu=>hE.st hu) ?_;exact Wd (Qc (Cr (Qr (Qr (out1 rfl rfl (fun u hu=>gmR0 hno (hu.sel [1,1,1,1,1,1,1] rfl)))))))
   have he1:=(hEe.parts hif).1;have he2:=hEe.e1;rw[<-hl3]at he2;have hwI:SlT cStr uw ((s0.cut 1 3 s0.l.length).cut 1 1 e.toNat):=hw3.cut (lo:=1) (hi:=e.toNat) (by omega) (by omega);have hlI:((s0.cut 1 3 s0.l.length).cut 1 1 e.toNat).l=(((s0.l.drop 3).drop 1).take (e.toNat-1)):=by simp only[Sl.cut]at hl3⊢;rw[hl3]
   have hnI:(((s0.cut 1 3 s0.l.length).cut 1 1 e.toNat).l.length:Int)=e-1:=by rw[hlI,List.length_take,List.length_drop,<-hl3];omega
   have hroI:∀u,p u->SlT cStr u ((s0.cut 1 3 s0.l.length).cut 1 1 e.toNat):=fun u h=>(hro3 u h).cut (lo:=1) (hi:=e.toNat) (by omega) (by omega);refine Ck (Qc (Cs (Nz 2 ?_)));refine Wk 0 (QE sl23 rfl rfl rfl hw3.sp (by decide) (by omega) (by omega)) ?_;refine Wk 1 (Nc (s:=((s0.cut 1 3 s0.l.length).cut 1 1 e.toNat))) ?_;refine Nu ?_;refine CS.weak (fun u hu=>(hu.roTrue (p:=fun u=>ErrX a u (errO a (nmB G.rm.pls.l (nth s0.l 2)))) (fun u=>.o _)).osl0 (e:=103) (size:=3)) ?_;refine CS.sel [2,0,0,0,0,0,0,0,0,0] rfl ?_;refine CS.loopM (σ:=Int×Value×Value×List Lit) (rsL [10,12,76,98]) (fun s=>[(75,.int .i64 s.1),(6,s.2.1)]) (fun s=>blk b7 [.string (nth s0.l 0),.int .i64 pl,.int .i64 (-1),s.2.2.1,.int .i64 0,.int .i64 0,.int .i64 0,.int .i64 0,.int .i64 0,.slice none 0 0,.bool false] 91::oT cLit 103 s.2.2.1 s.2.2.2::roS (fun u=>ErrX a u s.2.1)::(A5 gb 37 (gcl G) G++[roS p,R])) (fun s=>0<=s.1/\s.1<=((s0.cut 1 3 s0.l.length).cut 1 1 e.toNat).l.length/\(s.2.1 = .nilIface\/∃t y,s.2.1 = .iface t y)/\NtL G s0.l (((s0.l.drop 3).drop 1).take (e.toNat-1)) s.1 (noE s.2.1) s.2.2.2) (fun s=>(((s0.cut 1 3 s0.l.length).cut 1 1 e.toNat).l.length-s.1).toNat) (0,errO a (nmB G.rm.pls.l (nth s0.l 2)),.slice none 0 0,[]) (fun _ _=>rfl) rfl rfl ⟨by simp,by simp,ifO a _,by simp only[U9];exact NtL.zero⟩ ?_;intro q t hs;obtain⟨hq1,hq2,hq3,hq4⟩:=hs;refine Nz 1 ?_;refine Wd (Qc (Cs (Cn ?_ ?_)))<;>intro hc5
   ·have hzq:((nth ((s0.cut 1 3 s0.l.length).cut 1 1 e.toNat).l q.1).size:Int)<=65536:=hz _ (by
     have h8:∀y,y∈((s0.cut 1 3 s0.l.length).cut 1 1 e.toNat).l->y∈s0.l:=fun y hy=>by rw[hlI]at hy;exact List.mem_of_mem_drop (List.mem_of_mem_drop (List.mem_of_mem_take hy))
     exact h8 _ (Ai hq1 (by omega)))
    have hln:=hq4.ln;refine Ck (Qc (Cs (Ce (Nz 0 ?_))));refine Wk 0 (Xc (s:=((s0.cut 1 3 s0.l.length).cut 1 1 e.toNat))) ?_;refine Wk 1 (Da (s:=((s0.cut 1 3 s0.l.length).cut 1 1 e.toNat)) (jj:=8) rfl hroI rfl ⟨by omega,by omega⟩ tk9) ?_;refine Nx 3 ?_;refine Wk 1 (Bc 3) ?_;refine Wc rfl rfl Jg3 (fun u hu=>Jds a G.rm u (hu.ro (j:=7) rfl:Ks G u).1 (nth ((s0.cut 1 3 s0.l.length).cut 1 1 e.toNat).l q.1) (hE.st hu) (by omega) hths) (fun _=>rfl) ?_;rintro⟨b,e9⟩ ⟨h9,he9⟩;have heo9:=oneE he9;refine Wz 3 ?_;refine Wq 0 Cu fun b11 hb11=>?_;refine Wv 1 0 ?_;refine Nw 1 ?_;refine Wk 0 (Ba 2) ?_;refine Wk 0 (Bb 0) ?_;refine WS.buildT1 cLit (a:=b) sl29 Cu rfl (by decide) (fun _=>rfl) ?_;intro v91;refine WS.appendT1 (C:=cLit) (a:=b) (j:=4) (jz:=0) sl29 Cu rfl (by decide) rfl rfl rfl rfl (w:=w) trivial (by omega) (by omega) (fun _=>rfl) (fun _=>rfl) ?_;intro v92 hv92;refine Wz 2 ?_;refine WS.buildE2 a (b:=q.2.1) (c:=e9) Me zv71 rfl rfl hq3 he9 (fun _=>rfl) ?_;intro v95;refine Wc rfl rfl RD (fun u hu=>Le a ⟨v95,[q.2.1,e9]⟩ u (Bk hu (j:=0) rfl (okE (hu.ro (j:=6) rfl) (hu.ro (j:=3) rfl))) (by simp)) (fun _=>rfl) ?_;rintro x ⟨hx1,hx2⟩;refine WS.sel [0,6,3,3,3,3,3,3,3,3,3,3] rfl ?_;refine WS.weak (fun u hu=>XH hu) ?_;refine Wz 1 ?_;refine Ws 1 1 ?_;refine Wd (Qb (Qc (Ny 0 ?_)));refine Wk 1 Za ?_;refine Wd ?_;refine QS.sel [1,1,0,0,0,0,0,0,0,0] rfl ?_;exact QS.head ((q.1+1,x,v92,q.2.2.2++[b])) rfl rfl ⟨⟨by simp only;omega,by simp only;omega,hx2,hq4.step hq1 (by rw[<-hlI];omega) (by rw[<-hlI];exact h9) (by rw[hx1];simp)⟩,by simp only;omega⟩
   have hW4l:((s0.cut 1 3 s0.l.length).cut 1 e.toNat (s0.cut 1 3 s0.l.length).l.length).l=(s0.l.drop 3).drop e.toNat:=by
    show((s0.cut 1 3 s0.l.length).l.drop e.toNat).take _=_;rw[hl3];exact List.take_of_length_le (by rw[List.length_drop];exact Nat.le_refl _)
   refine Cv (Qe (Qe (Qx (Qc (Ny 2 ?_)))));refine Wk 1 (Bf sl23 rfl rfl hw3.sp (by omega) (by omega)) ?_;exact Wd (QS.head ((((s0.cut 1 3 s0.l.length).cut 1 e.toNat (s0.cut 1 3 s0.l.length).l.length),q.2.1,q.2.2.1,q.2.2.2)) rfl rfl ⟨fun u h=>(hro3 u h).cut (lo:=e.toNat) (hi:=(s0.cut 1 3 s0.l.length).l.length) (by omega) (Nat.le_refl _),hq3,by simp only;rw[hW4l];exact NtL.fin hif h3 hEe hc4 hq4 (by rw[<-hlI];omega)⟩)
  have hif:isW ifW (s0.l.drop 3)=false:=by
   rw[<-hl3];rcases Nat.eq_zero_or_pos (s0.cut 1 3 s0.l.length).l.length with h0|h0
   ·exact NH h0
   rw[GD h0];rcases hc2 with h|h
   ·omega
   exact h
  refine Ck ?_;refine QS.weak (fun u hu=>(hu.roTrue (p:=fun u=>ErrX a u (errO a (nmB G.rm.pls.l (nth s0.l 2)))) (fun u=>.o _)).osl0 (e:=103) (size:=3)) ?_;refine QS.sel [2,0,0,0,0,0,0,0,0,0] rfl ?_;exact QS.head (((s0.cut 1 3 s0.l.length),errO a (nmB G.rm.pls.l (nth s0.l 2)),.slice none 0 0,[])) rfl rfl ⟨hro3,ifO a _,by simp only[U9];rw[hl3];exact NtI.zero h3 hif⟩
 intro z t hs;obtain⟨hz1,hz2,hz3⟩:=hs;have hwz:=hz1 uw hwp;refine CS.cut (σ:=Int×Clue×Value) [4,13,14,15,16,102,103,104,105,106,107,108,109,110,111,112,113,114,115,116,117,118,119,120,121,122,123,124,125,126,127,128,129,130,131,132,133,134,135,136,137,138,139,140,141,142,143,144,145,146,147,148,149,150,151,152,153,154] (fun s=>[]) (fun s=>blk b7 [.string (nth s0.l 0),.int .i64 pl,.int .i64 s.1,z.2.2.1,.int .i64 s.2.1.k,.int .i64 s.2.1.a,.int .i64 s.2.1.b,.int .i64 s.2.1.n,.int .i64 s.2.1.m,s.2.2,.bool s.2.1.nt] 91::roI s.2.2 s.2.1.g::oT cLit 103 z.2.2.1 z.2.2.2::roS (fun u=>ErrX a u z.2.1)::(A5 gb 37 (gcl G) G++[roS p,R])) (fun s=>CU G.lks.l z.1.l=some (s.1,s.2.1)/\s.2.2.oneCell'=true) (fun _ _=>rfl) ?_ ?_
 ·refine Nz 1 ?_;refine Wk 1 (Nc (s:=z.1) (hs:=hwz)) ?_;refine Wp ?_ ?_<;>intro hc6
  ·refine Cs (Nz 1 ?_);refine Wk 2 (Nc (s:=z.1) (hs:=hwz)) ?_;refine We 0 ?_;refine Wf 0 rfl rfl (fun hg=>Xc (eg_ hg rfl) (s:=z.1) (hs:=hwz)) ?_;refine Wf 0 rfl rfl (fun hg=>Da (s:=z.1) (jj:=8) rfl hz1 (eg_ hg rfl) ⟨by decide,by(try simp only[bq]at hg);omega⟩ tk9) ?_;refine Wf 0 rfl rfl (fun hg=>A3 (eg_ hg rfl) rfl) ?_;refine Wk 0 Po ?_;refine Wp ?_ ?_<;>intro hc7
   ·have hno:I5 G s0.l G false:=hz3.none h3 hlt hat (Ur (by omega) hc7);refine Nz 0 ?_;refine Wk 1 (AX tk71 rfl fun u hu=>hE.st hu) ?_;exact Wd (Qc (Cr (Qr (Qr (out1 rfl rfl (fun u hu=>gmR0 hno (hu.sel [3,3,3,3,3,3,3] rfl)))))))
   have hl2:2<=z.1.l.length:=by omega
   have hsl:seq (nth z.1.l 0) Br=true:=hc7.2;have hle:=Jao (lks:=G.lks.l) hl2 hsl;have hz1n:((nth z.1.l 1).size:Int)<=65536:=hz _ (hz3.sf.subset (Ai (by decide) (by omega)));refine Ck (Qc (Nz 1 ?_));refine Wk 0 (Xc (s:=z.1) (hs:=hwz)) ?_;refine Wk 0 (Da (s:=z.1) (jj:=8) rfl hz1 rfl ⟨by decide,by omega⟩ tk9) ?_;refine Wk 5 (Cb rfl rfl Z4 (fun u hu=>SE a _ u (hE.st hu) (by omega))) ?_;refine Nv 1 ?_;refine Wk 1 (Er (by kernel_rfl) rfl (ifO a _)) ?_;refine We 0 ?_;refine We 0 ?_;refine We 0 ?_;refine We 0 ?_;refine We 0 ?_;refine Wf 0 rfl rfl (fun hg=>B7 (j:=4) sl33 (eg_ hg rfl) rfl) ?_;refine We 0 ?_;refine Wk 0 Po ?_;refine Wp ?_ ?_<;>intro hc8
   ·have hno:I5 G s0.l G false:=hz3.none h3 hlt hat (by
     rw[hle];cases hk:numB 3 (nth z.1.l 1)with
     |none=>rfl
     |some k=>
      rw[hk]at hc8;rw[Option.bind_some,if_neg];rintro⟨h8,_⟩;rcases hc8 with h9|h9
      ·simp[errO,noE]at h9
      simp at h9;omega)
    refine Nz 0 ?_;refine Wk 1 (AX tk71 rfl fun u hu=>hE.st hu) ?_;exact Wd (Qc (Cr (Qr (Qr (out1 rfl rfl (fun u hu=>gmR0 hno (hu.sel [3,3,3,3,3,3,3] rfl)))))))
   obtain⟨k,hk⟩:∃k,numB 3 (nth z.1.l 1)=some k:=by
    cases hk:numB 3 (nth z.1.l 1)with
    |none=>rw[hk]at hc8;simp[errO,noE,errV]at hc8
    |some k=>exact⟨k,rfl⟩
   have hkg:((numB 3 (nth z.1.l 1)).getD 0)=k:=by rw[hk];rfl
   have hk0:=Ya hk;have hkl:k<G.lks.l.length:=by rw[hkg]at hc8;have h9:=hc8;(try simp at h9);omega
   have htx:(z.1.cut 1 2 z.1.l.length).l=z.1.l.drop 2:=by simp only[Sl.cut];exact List.take_of_length_le (by rw[List.length_drop];omega)
   have hzj:∀x∈(z.1.cut 1 2 z.1.l.length).l,x.size<=65536:=fun x hx=>by rw[htx]at hx;have:=hz x (hz3.sf.subset (List.mem_of_mem_drop hx));omega
   have hnj:=hz3.sf.length_le;have hnt:(z.1.cut 1 2 z.1.l.length).l.length=z.1.l.length-2:=by rw[htx,List.length_drop]
   refine Ck (Qc ?_);refine CS.cut (σ:=Nat×Value) [134,135,136,137,138,139,140,141,142,143,144,145,146,147] (fun s=>[(16,.int .i64 (Cf G.lks.l ((numB 3 (nth z.1.l 1)).getD 0) (z.1.l.drop 2)).1),(15,.pointer (some ⟨s.1,0,none⟩))]) (fun s=>blk s.1 (Aw (Cf G.lks.l ((numB 3 (nth z.1.l 1)).getD 0) (z.1.l.drop 2)).2 s.2) 89::roI s.2 (Cf G.lks.l ((numB 3 (nth z.1.l 1)).getD 0) (z.1.l.drop 2)).2.g::blk b7 [.string (nth s0.l 0),.int .i64 pl,.int .i64 (-1),z.2.2.1,.int .i64 0,.int .i64 0,.int .i64 0,.int .i64 0,.int .i64 0,.slice none 0 0,.bool false] 91::oT cLit 103 z.2.2.1 z.2.2.2::roS (fun u=>ErrX a u z.2.1)::(A5 gb 37 (gcl G) G++[roS p,R])) (fun s=>s.2.oneCell'=true) (fun _ _=>rfl) ?_ ?_
   ·refine CS.drawnTill 15 (k:=17) mixed rfl rfl ?_;refine Tr 17 [0,1,2] ?_;refine Tk 17 3 [4] rfl (Ba 3) ?_;refine Tk 17 5 [] rfl (DM (j:=4) sl33 rfl rfl rfl rfl (by omega) (by omega)) ?_;refine Tk 17 6 [7] rfl (Lx (C:=cLock) (k:=2) 0 [.int .i64 (nth G.lks.l ((numB 3 (nth z.1.l 1)).getD 0)).w,.int .i64 (nth G.lks.l ((numB 3 (nth z.1.l 1)).getD 0)).s] (j:=4) rfl rfl rfl ⟨by omega,by omega⟩ (Nat.le_refl 2) rfl tk85) ?_;refine Tk 17 8 [] rfl (Bf sl23 rfl rfl hwz.sp (by decide) (by omega)) ?_;refine Tk 17 9 [] rfl (Cb rfl rfl Jge (fun u hu=>htx▸YR (z.1.cut 1 2 z.1.l.length) u ((hz1 u (hu.ro (j:=8) rfl)).cut (lo:=2) (hi:=z.1.l.length) (by omega) (Nat.le_refl _)) (by omega) hzj (by decide))) ?_;refine AT.two (i:=10) (j:=14) (by kernel_rfl) rfl rfl (by first|(intro h;exact absurd h (by decide))|exact fun _ _ h=>h|exact fun _ _ h=>h.sub (by repeat first|exact List.Sublist.refl _|apply List.Sublist.cons_cons|apply List.Sublist.cons)) rfl rfl ?_ ?_
    ·refine Wc rfl rfl Jeg (fun u hu=>Ph (nth G.lks.l ((numB 3 (nth z.1.l 1)).getD 0)).w (nth G.lks.l ((numB 3 (nth z.1.l 1)).getD 0)).s (jnB (z.1.l.drop 2)) u (hM.st hu) (hW8.st hu)) (fun _=>rfl) ?_;rintro gv ⟨hgv,ug,hsg⟩;have hco:=Bs (c:=(Cf G.lks.l ((numB 3 (nth z.1.l 1)).getD 0) (z.1.l.drop 2)).2) hgv;refine Wd (Qt ?_);refine Tr 17 [11,12] ?_;refine AT.two (i:=13) (j:=14) (by kernel_rfl) rfl rfl (by first|(intro h;exact absurd h (by decide))|exact fun _ _ h=>h|exact fun _ _ h=>h.sub (by repeat first|exact List.Sublist.refl _|apply List.Sublist.cons_cons|apply List.Sublist.cons)) rfl rfl ?_ ?_
     ·refine Wz 1 ?_;refine Wd (Qt ?_);refine To 14 rfl ?_;refine Wq 0 zv89 fun b15 hb15=>?_;refine Wd (Qt ?_);refine To 15 rfl ?_;refine Wv 0 0 ?_;refine Wd (Qt ?_);refine To 16 rfl ?_;refine Wz 1 ?_;refine Wd (Qt ?_);refine Te ?_;exact QS.head ((b15,gv)) rfl rfl hgv
     refine Wq 0 zv89 fun b15 hb15=>?_;refine Wd (Qt ?_);refine AT.two (i:=13) (j:=15) (by kernel_rfl) rfl rfl (by first|(intro h;exact absurd h (by decide))|exact fun _ _ h=>h|exact fun _ _ h=>h.sub (by repeat first|exact List.Sublist.refl _|apply List.Sublist.cons_cons|apply List.Sublist.cons)) rfl rfl ?_ ?_
     ·refine Wz 1 ?_;refine Wd (Qt ?_);refine To 15 rfl ?_;refine Wv 0 0 ?_;refine Wd (Qt ?_);refine To 16 rfl ?_;refine Wz 1 ?_;refine Wd (Qt ?_);refine Te ?_;exact QS.head ((b15,gv)) rfl rfl hgv
     refine Wv 0 0 ?_;refine Wd (Qt ?_);refine To 13 rfl ?_;refine Wz 1 ?_;refine Wd (Qt ?_);refine To 16 rfl ?_;refine Wz 1 ?_;refine Wd (Qt ?_);refine Te ?_;exact QS.head ((b15,gv)) rfl rfl hgv
    refine Wq 0 zv89 fun b15 hb15=>?_;refine Wd (Qt ?_);refine To 10 rfl ?_;refine Wc rfl rfl Jeg (fun u hu=>Ph (nth G.lks.l ((numB 3 (nth z.1.l 1)).getD 0)).w (nth G.lks.l ((numB 3 (nth z.1.l 1)).getD 0)).s (jnB (z.1.l.drop 2)) u (hM.st hu) (hW8.st hu)) (fun _=>rfl) ?_;rintro gv ⟨hgv,ug,hsg⟩;have hco:=Bs (c:=(Cf G.lks.l ((numB 3 (nth z.1.l 1)).getD 0) (z.1.l.drop 2)).2) hgv;refine Wd (Qt ?_);refine Tr 17 [11,12] ?_;refine AT.two (i:=13) (j:=15) (by kernel_rfl) rfl rfl (by first|(intro h;exact absurd h (by decide))|exact fun _ _ h=>h|exact fun _ _ h=>h.sub (by repeat first|exact List.Sublist.refl _|apply List.Sublist.cons_cons|apply List.Sublist.cons)) rfl rfl ?_ ?_
    ·refine Wz 1 ?_;refine Wd (Qt ?_);refine To 15 rfl ?_;refine Wv 0 1 ?_;refine Wd (Qt ?_);refine To 16 rfl ?_;refine Wz 1 ?_;refine Wd (Qt ?_);refine Te ?_;refine QS.sel [1,0,0,0,0,0,0,0,0,0,0,0] rfl ?_;exact QS.head ((b15,gv)) rfl rfl hgv
    refine Wv 0 1 ?_;refine Wd (Qt ?_);refine To 13 rfl ?_;refine Wz 1 ?_;refine Wd (Qt ?_);refine To 16 rfl ?_;refine Wz 1 ?_;refine Wd (Qt ?_);refine Te ?_;refine QS.sel [1,0,0,0,0,0,0,0,0,0,0,0] rfl ?_;exact QS.head ((b15,gv)) rfl rfl hgv
   intro y t hs;have hy1:=hs;refine Cs (Nz 2 ?_);refine Wp ?_ ?_<;>intro hc9
   ·have hno:I5 G s0.l G false:=hz3.none h3 hlt hat (by
     rw[hle,hk,Option.bind_some,if_neg];rintro⟨_,h8⟩;rw[hkg]at hc9
     exact hc9 h8)
    refine Nz 0 ?_;refine Wk 1 (AX tk71 rfl fun u hu=>hE.st hu) ?_;exact Wd (Qc (Cr (Qr (Qr (out1 rfl rfl (fun u hu=>gmR0 hno (hu.sel [5,5,5,5,5,5,5] rfl)))))))
   have hlk:CU G.lks.l z.1.l=some (((numB 3 (nth z.1.l 1)).getD 0),(Cf G.lks.l ((numB 3 (nth z.1.l 1)).getD 0) (z.1.l.drop 2)).2):=by rw[hle,hk,Option.bind_some,<-hkg,if_pos ⟨by omega,by simpa using hc9⟩];rfl
   refine Ck (Qc ?_);refine CS.drawnTill 3 (k:=6) mixed rfl rfl ?_;refine Tr 6 [0,2] ?_;refine AT.two (i:=1) (j:=3) (by kernel_rfl) rfl rfl (by first|(intro h;exact absurd h (by decide))|exact fun _ _ h=>h|exact fun _ _ h=>h.sub (by repeat first|exact List.Sublist.refl _|apply List.Sublist.cons_cons|apply List.Sublist.cons)) rfl rfl ?_ ?_
   ·refine Wk 0 (Bb 0) ?_;refine Wd (Qt ?_);refine To 3 rfl ?_;refine Ws 0 2 ?_;refine Wd (Qt ?_);refine To 4 rfl ?_;refine Wz 1 ?_;refine Wd (Qt ?_);refine To 5 rfl ?_;refine WS.storeP rfl (j:=2) rfl (vs:=Aw (Cf G.lks.l ((numB 3 (nth z.1.l 1)).getD 0) (z.1.l.drop 2)).2 y.2) rfl rfl (Bs hy1) tk89 rfl rfl ?_;refine Wd (Qt ?_);refine Te ?_;refine QS.sel [2,1,1,1,1,1,1,1,1,1,1] rfl ?_;exact QS.head ((((numB 3 (nth z.1.l 1)).getD 0),(Cf G.lks.l ((numB 3 (nth z.1.l 1)).getD 0) (z.1.l.drop 2)).2,y.2)) rfl rfl ⟨hlk,hy1⟩
   refine Ws 0 2 ?_;refine Wd (Qt ?_);refine To 1 rfl ?_;refine Wk 0 (Bb 0) ?_;refine Wd (Qt ?_);refine To 4 rfl ?_;refine Wz 1 ?_;refine Wd (Qt ?_);refine To 5 rfl ?_;refine WS.storeP rfl (j:=2) rfl (vs:=Aw (Cf G.lks.l ((numB 3 (nth z.1.l 1)).getD 0) (z.1.l.drop 2)).2 y.2) rfl rfl (Bs hy1) tk89 rfl rfl ?_;refine Wd (Qt ?_);refine Te ?_;refine QS.sel [2,1,1,1,1,1,1,1,1,1,1] rfl ?_;exact QS.head ((((numB 3 (nth z.1.l 1)).getD 0),(Cf G.lks.l ((numB 3 (nth z.1.l 1)).getD 0) (z.1.l.drop 2)).2,y.2)) rfl rfl ⟨hlk,hy1⟩
  have hlk:CU G.lks.l z.1.l=some (-1,Em):=by
   rw[show z.1.l=[]from List.length_eq_zero_iff.1 (by omega)];rfl
  refine Ck ?_;refine QS.weak (fun u hu=>St.nilRoI hu) ?_;refine QS.sel [1,0,0,0,0,0,0,0,0,0,0] rfl ?_;exact QS.head ((-1,Em,.slice none 0 0)) rfl rfl ⟨hlk,rfl⟩
 intro y2 t hs;obtain⟨hyk,hy2⟩:=hs;refine Cs ?_;refine CS.sel [2,1,0,0,0,0,0,0,0,0,0] rfl ?_;refine CS.weak (fun u hu=>ntRo hu) ?_;refine CS.roE (j:=0) rfl fun hnx=>?_;obtain⟨un,hnx⟩:=hnx;refine CS.drawnTill 7 (k:=11) mixed rfl rfl ?_;refine Tr 11 [1,2,3] ?_;refine Tk 11 4 [] rfl (Ba 3) ?_;refine Tk 11 5 [] rfl (Bb 1) ?_;refine AT.two (i:=0) (j:=6) (by kernel_rfl) rfl rfl (by first|(intro h;exact absurd h (by decide))|exact fun _ _ h=>h|exact fun _ _ h=>h.sub (by repeat first|exact List.Sublist.refl _|apply List.Sublist.cons_cons|apply List.Sublist.cons)) rfl rfl ?_ ?_
 ·refine Wz 1 ?_;refine Wd (Qt ?_);refine To 6 rfl ?_;refine WS.buildT1 cNote (a:=⟨nth s0.l 0,pl,y2.1,⟨z.2.2.1,z.2.2.2⟩,y2.2.1,y2.2.2⟩) sl35 zv91 rfl (by decide) (fun _=>rfl) ?_;intro v161;refine Wd (Qt ?_);refine To 7 rfl ?_;refine WS.appendT1 (C:=cNote) (a:=⟨nth s0.l 0,pl,y2.1,⟨z.2.2.1,z.2.2.2⟩,y2.2.1,y2.2.2⟩) (j:=7) (jz:=0) sl35 zv91 rfl (by decide) rfl rfl rfl rfl (w:=un) hnx (by omega) (by omega) (fun _=>rfl) (fun _=>rfl) ?_;intro v162 hv162;refine Wd (Qt ?_);refine To 8 rfl ?_;refine Wz 1 ?_;refine Wd (Qt ?_);refine To 9 rfl ?_;refine Wz 1 ?_;refine Wd (Qt ?_);refine To 10 rfl ?_;refine Ws 0 4 ?_;refine Wd (Qt ?_);refine Te ?_;refine Qc (Nz 2 ?_);refine Wd (Qc (Cr ?_));refine QS.sel [8,1,3,3,3,3,2,2,2] rfl ?_;refine QS.weak (fun u hu=>Kb (y:=⟨nth s0.l 0,pl,y2.1,⟨z.2.2.1,z.2.2.2⟩,y2.2.1,y2.2.2⟩) v162 hu) ?_;refine QS.sel [5,1,1,1,1,0,0,0] rfl ?_;exact out1 rfl rfl (fun u hu=>gmRx (G:={G with nts:=⟨v162,G.nts.l++[⟨nth s0.l 0,pl,y2.1,⟨z.2.2.1,z.2.2.2⟩,y2.2.1,y2.2.2⟩]⟩}) (KJ h3 hlt hat hz3 hyk rfl hpl.symm rfl rfl rfl) hz2 hu)
 refine WS.buildT1 cNote (a:=⟨nth s0.l 0,pl,y2.1,⟨z.2.2.1,z.2.2.2⟩,y2.2.1,y2.2.2⟩) sl35 zv91 rfl (by decide) (fun _=>rfl) ?_;intro v161;refine Wd (Qt ?_);refine AT.two (i:=0) (j:=7) (by kernel_rfl) rfl rfl (by first|(intro h;exact absurd h (by decide))|exact fun _ _ h=>h|exact fun _ _ h=>h.sub (by repeat first|exact List.Sublist.refl _|apply List.Sublist.cons_cons|apply List.Sublist.cons)) rfl rfl ?_ ?_
 ·refine Wz 1 ?_;refine Wd (Qt ?_);refine To 7 rfl ?_;refine WS.appendT1 (C:=cNote) (a:=⟨nth s0.l 0,pl,y2.1,⟨z.2.2.1,z.2.2.2⟩,y2.2.1,y2.2.2⟩) (j:=7) (jz:=0) sl35 zv91 rfl (by decide) rfl rfl rfl rfl (w:=un) hnx (by omega) (by omega) (fun _=>rfl) (fun _=>rfl) ?_;intro v162 hv162;refine Wd (Qt ?_);refine To 8 rfl ?_;refine Wz 1 ?_;refine Wd (Qt ?_);refine To 9 rfl ?_;refine Wz 1 ?_;refine Wd (Qt ?_);refine To 10 rfl ?_;refine Ws 0 4 ?_;refine Wd (Qt ?_);refine Te ?_;refine Qc (Nz 2 ?_);refine Wd (Qc (Cr ?_));refine QS.sel [8,1,3,3,3,3,2,2,2] rfl ?_;refine QS.weak (fun u hu=>Kb (y:=⟨nth s0.l 0,pl,y2.1,⟨z.2.2.1,z.2.2.2⟩,y2.2.1,y2.2.2⟩) v162 hu) ?_;refine QS.sel [5,1,1,1,1,0,0,0] rfl ?_;exact out1 rfl rfl (fun u hu=>gmRx (G:={G with nts:=⟨v162,G.nts.l++[⟨nth s0.l 0,pl,y2.1,⟨z.2.2.1,z.2.2.2⟩,y2.2.1,y2.2.2⟩]⟩}) (KJ h3 hlt hat hz3 hyk rfl hpl.symm rfl rfl rfl) hz2 hu)
 refine WS.appendT1 (C:=cNote) (a:=⟨nth s0.l 0,pl,y2.1,⟨z.2.2.1,z.2.2.2⟩,y2.2.1,y2.2.2⟩) (j:=7) (jz:=0) sl35 zv91 rfl (by decide) rfl rfl rfl rfl (w:=un) hnx (by omega) (by omega) (fun _=>rfl) (fun _=>rfl) ?_;intro v162 hv162;refine Wd (Qt ?_);refine To 0 rfl ?_;refine Wz 1 ?_;refine Wd (Qt ?_);refine To 8 rfl ?_;refine Wz 1 ?_;refine Wd (Qt ?_);refine To 9 rfl ?_;refine Wz 1 ?_;refine Wd (Qt ?_);refine To 10 rfl ?_;refine Ws 0 4 ?_;refine Wd (Qt ?_);refine Te ?_;refine Qc (Nz 2 ?_);refine Wd (Qc (Cr ?_));refine QS.sel [8,1,3,3,3,3,2,2,2] rfl ?_;refine QS.weak (fun u hu=>Kb (y:=⟨nth s0.l 0,pl,y2.1,⟨z.2.2.1,z.2.2.2⟩,y2.2.1,y2.2.2⟩) v162 hu) ?_;refine QS.sel [5,1,1,1,1,0,0,0] rfl ?_;exact out1 rfl rfl (fun u hu=>gmRx (G:={G with nts:=⟨v162,G.nts.l++[⟨nth s0.l 0,pl,y2.1,⟨z.2.2.1,z.2.2.2⟩,y2.2.1,y2.2.2⟩]⟩}) (KJ h3 hlt hat hz3 hyk rfl hpl.symm rfl rfl rfl) hz2 hu)
end Go.Proofs.YtllebkdchemabaaGreatDoor
