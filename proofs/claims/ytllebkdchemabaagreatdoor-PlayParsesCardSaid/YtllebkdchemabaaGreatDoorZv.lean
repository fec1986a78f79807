/- Merged texts of this proof. -/
import Derived.Test.YtllebkdchemabaaGreatDoorZt
import Derived.Test.YtllebkdchemabaaGreatDoorZm
set_option maxHeartbeats 8000000
namespace Go.Proofs.YtllebkdchemabaaGreatDoor
open Go.RowKit Go.Proofs Tryz
set_option maxRecDepth 100000
set_option linter.unusedVariables false
set_option linter.unusedSimpArgs false
def lineW (G:Game) (kd:Int) (t:ByteArray) (G':Game) (kd':Int) (z:Bool):Prop:=if z=true then∃x,EY G.p kd t=some x/\G'.p=addG G.p x/\kd'=kdG x else EY G.p kd t=none
variable {G G':Game} {kd kd':Int} {z:Bool}
theorem lineW.code {t:ByteArray} (hk:0<=kd) (h0:seq (nth (Ab 32 t) 0) A4=true) (h:M0 G kd (Ab 32 t) G' kd' z):lineW G kd t G' kd' z:=by
 unfold lineW;rw[Nl h0];unfold M0 at h;split
 ·rename_i hz;rw[if_pos hz]at h;obtain⟨h1,h2,x,h3,h4⟩:=h;have hk0:kd=0:=by omega
  exact⟨_,by rw[if_pos hk0,h3];rfl,h4,by rw[h1,hk0];rfl⟩
 rename_i hz;rw[if_neg hz]at h;rcases h with h|h
 ·rw[if_neg (by omega)]
 rw[h];split<;>rfl
theorem lineW.note {t:ByteArray} (h0:seq (nth (Ab 32 t) 0) A4=false) (h1:seq (nth (Ab 32 t) 0) DI=true) (h:Kl G kd (Ab 32 t) G' kd' z):lineW G kd t G' kd' z:=by
 have e:EY G.p kd t=if kd<=1 then(BP G.rm.pls.l G.rm.ths.l G.lks.l ((Ab 32 t).drop 1)).map LnG.note else none:=by
  rw[M5 h0 h1,Jeo,Jbx];rfl
 unfold lineW;rw[e];unfold Kl at h;split
 ·rename_i hz;rw[if_pos hz]at h;obtain⟨h2,h3,n,h4,h5⟩:=h;exact⟨_,by rw[if_pos (by omega),h4];rfl,h5,h2⟩
 rename_i hz;rw[if_neg hz]at h;rcases h with h|h
 ·rw[if_neg (by omega)]
 rw[h];split<;>rfl
structure TrI (W:Wds) (kd n:Int) (z:Bool):Prop where
 yes:z=true->W.length=2/\kd<2/\numB 3 (nth W 1)=some n
 no:z=false->¬(W.length=2/\kd<2)\/numB 3 (nth W 1)=none
theorem TrI.bad {W:Wds} {n:Int} (h:¬(W.length=2/\kd<2)):TrI W kd n false:=⟨fun h=>(by cases h),fun _=>.inl h⟩
theorem TrI.num {W:Wds} (h:W.length=2/\kd<2):TrI W kd ((numB 3 (nth W 1)).getD 0) (numB 3 (nth W 1)).isSome:=by
 cases hn:numB 3 (nth W 1)with
 |none=>exact⟨fun h=>(by cases h),fun _=>.inr hn⟩
 |some n=>exact⟨fun _=>⟨h.1,h.2,hn⟩,fun h=>by cases h⟩
theorem lineW.tries {n:Int} {t:ByteArray} (h0:seq (nth (Ab 32 t) 0) A4=false) (h1:seq (nth (Ab 32 t) 0) DI=false) (h2:seq (nth (Ab 32 t) 0) B0=true) (h:TrI (Ab 32 t) kd n z):lineW G kd t {G with tr:=n} 2 z:=by
 unfold lineW;rw[Kc h0 h1 h2]
 have e:IK ((Ab 32 t).drop 1)=if(Ab 32 t).length=2 then numB 3 (nth (Ab 32 t) 1)else none:=by
  unfold IK
  generalize Ab 32 t=W
  match W with
  |[]=>rfl
  |[_]=>rfl
  |[_,_]=>rfl
  |_::_::_::_=>rfl
 rw[e];split
 ·rename_i hz;obtain⟨h3,h4,h5⟩:=h.yes hz;exact⟨.tries n,by rw[if_pos (by omega),if_pos h3,h5];rfl,rfl,rfl⟩
 rename_i hz;rcases h.no (by simpa using hz)with h3|h3
 ·by_cases h4:kd<=1
  ·rw[if_pos h4,if_neg (fun h5=>h3 ⟨h5,by omega⟩)];rfl
  rw[if_neg h4]
 rw[h3];split<;>(try split)<;>rfl
theorem lineW.none {t:ByteArray} (h0:seq (nth (Ab 32 t) 0) A4=false) (h1:seq (nth (Ab 32 t) 0) DI=false) (h2:seq (nth (Ab 32 t) 0) B0=false):lineW G kd t G' kd' false:=N1 h0 h1 h2
variable {u:World}
theorem YM {w:World} (R:SA) (b:Nat) (G:Game) (kd:Int) (hu:St w.heap.size w [rg b G kd,R] u) (t0:ByteArray) (ht:t0.size<=65536) (hkd:0<=kd) (hB:GmB G):
  Calls prog 35 #[.pointer (some ⟨b,0,none⟩),.string t0] u (GrX w [R] b (lineW G kd t0)):=by
 have hsl:=Bn 32 t0;have hsp:=AE 32 t0;have hz:∀x∈(Ab 32 t0),(x.size:Int)<=65536:=fun x hx=>by have:=A6 hx;omega
 have hnw:(Ab 32 t0).length<=65537:=by omega
 have hz1:=SW (by decide) hz 1;refine Ei hu func35 ?_;refine Nz 1 ?_;refine Nx 1 ?_;refine Wc rfl rfl WF (fun u hu=>HE t0 32 u (by omega)) (fun _=>rfl) ?_;rintro v9 ⟨u9,hv9⟩;refine Wz 1 ?_;refine Nv 1 ?_;refine Wk 0 (Xc (s:=⟨v9,Ab 32 t0⟩) (h0:=by decide) (h1:=by show(0:Int)<((Ab 32 t0).length:Int);omega)) ?_;refine Wk 0 (Vb 0 rfl (s:=⟨v9,Ab 32 t0⟩) (h:=⟨by decide,by show(0:Int)<((Ab 32 t0).length:Int);omega⟩)) ?_;refine Wd (Qc (Ce (Nz 0 ?_)));refine Wk 1 (Ah rfl rfl) ?_;refine Wp ?_ ?_<;>intro hc1
 ·refine Nz 2 ?_;refine WS.sel [1,0,0] rfl ?_;refine WS.callS rfl rfl Jgp (fun u hu=>NV R b G kd ⟨v9,Ab 32 t0⟩ hz hnw hB hu) (fun _=>rfl) ?_;rintro⟨G2,k2,z⟩ hq2;refine Wz 1 ?_;exact Wd (Qc (Cr (Qs (Qr (out1 rfl rfl (fun u hu=>⟨(G2,k2,z),lineW.code hkd hc1 hq2,rfl,hu.sel [0,1] rfl⟩))))))
 refine Nz 0 ?_;refine Wk 1 (Ah rfl rfl) ?_;refine Wp ?_ ?_<;>intro hc2
 ·refine Nz 2 ?_;refine WS.sel [1,0,0] rfl ?_;refine WS.callS rfl rfl Jg7 (fun u hu=>ZC R b G kd ⟨v9,Ab 32 t0⟩ hz hnw hB hu hsp) (fun _=>rfl) ?_;rintro⟨G2,k2,z⟩ hq2;refine Wz 1 ?_;exact Wd (Qc (Cr (Qs (Qr (out1 rfl rfl (fun u hu=>⟨(G2,k2,z),lineW.note hc1 hc2 hq2,rfl,hu⟩))))))
 refine Nz 0 ?_;refine Wk 1 (Ah rfl rfl) ?_;refine Wp ?_ ?_<;>intro hc3
 ·refine Cs ?_;refine CS.sel [1,0,0] rfl ?_;refine CS.unpack (L1:=BM b G kd) ?_;refine Ny 2 ?_;refine Wd (Qc ?_);refine CS.cut (σ:=Int×Bool) [25,26,27,28,29,30,31,32,33,34,35,36,37,38,39,40,41] (fun s=>[(6,.int .i64 s.1),(7,.bool s.2)]) (fun s=>BM b G kd++[roT cStr ⟨v9,Ab 32 t0⟩,R]) (fun s=>TrI (Ab 32 t0) kd s.1 s.2) (fun _ _=>rfl) ?_ ?_
  ·refine Nz 1 ?_;refine Wk 2 (Nc (s:=⟨v9,Ab 32 t0⟩)) ?_;refine Wj 0 ?_;refine Wj 0 ?_;refine Wj 0 ?_;refine Wj 0 ?_;refine Wj 0 ?_;refine Wk 0 Pa ?_;refine Wp ?_ ?_<;>intro hc4
   ·have htw:(Ab 32 t0).length=2/\kd<2:=by have h9:=hc4;(try simp at h9);exact⟨by have h8:((Ab 32 t0).length:Int)=2:=h9.1;omega,h9.2⟩
    refine Ny 1 ?_;refine Wk 0 (Xc (s:=⟨v9,Ab 32 t0⟩) (h0:=by decide) (h1:=by show(1:Int)<((Ab 32 t0).length:Int);omega)) ?_;refine Wk 0 (Vb 13 rfl (s:=⟨v9,Ab 32 t0⟩) (h:=⟨by decide,by show(1:Int)<((Ab 32 t0).length:Int);omega⟩)) ?_;refine Wk 5 (Cb rfl rfl RP (fun u hu=>K7 (nth (Ab 32 t0) 1) 3 u (by omega) (by decide))) ?_;exact Wd (QS.head (((numB 3 (nth (Ab 32 t0) 1)).getD 0,(numB 3 (nth (Ab 32 t0) 1)).isSome)) rfl rfl (TrI.num htw))
   have htw:¬((Ab 32 t0).length=2/\kd<2):=fun h=>by
    have h8:((Ab 32 t0).length:Int)=2:=by omega
    have h9:=hc4
    (try simp at h9)
    rcases h9 with h9|h9
    ·exact h9 h8
    omega
   exact Ck (QS.head ((0,false)) rfl rfl (TrI.bad htw))
  intro y t hs;have hty:=hs;refine Nz 5 ?_;refine Ws 0 0 ?_;refine Nx 3 ?_;refine Ws 0 0 ?_;refine Nx 2 ?_;refine Wd (Qc (Cr (Qs (Qr ?_))));refine QS.sel [0,0,0,0,0,0,0,0,0,0,0,0,0,1] rfl ?_;exact out1 rfl rfl (fun u hu=>grX1 (G:={G with tr:=y.1}) (kd:=2) (lineW.tries hc1 hc2 hc3 hty) hu)
 refine Ck (Qb (Qc (Nz 1 ?_)));exact Wd (Qc (Cr (out1 rfl rfl (fun u hu=>grX0 (lineW.none (G:=G) (G':=G) (kd:=kd) (kd':=kd) hc1 hc2 hc3) (hu.sel [2] rfl)))))
theorem XS (t:ByteArray):B6 t=(seq t X0||(decide (5<=t.size)&&seq (t.extract 0 5) ⟨#[103,111,97,108,32]⟩)):=by
 unfold B6;congr 1
 have e:goalSp.isPrefixOf (bl t)=decide (goalSp=(bl t).take 5):=by
  have h:=List.prefix_iff_eq_take (l₁:=goalSp) (l₂:=bl t);have h2:=List.isPrefixOf_iff_prefix (l₁:=goalSp) (l₂:=bl t);rw[h]at h2;cases hb:goalSp.isPrefixOf (bl t)with
  |true=>exact(decide_eq_true (h2.1 hb)).symm
  |false=>
   refine(decide_eq_false fun h3=>?_).symm;have:=h2.2 h3;rw[hb]at this;cases this
 rw[e];have e2:t.extract 0 5=ba ((bl t).take 5):=by rw[IW];rfl
 rw[e2];have hl:(bl t).length=t.size:=Bp t
 by_cases h:goalSp=(bl t).take 5
 ·have hgs:seq (ba goalSp) ⟨#[103,111,97,108,32]⟩=true:=by decide+kernel
  have h5:5<=t.size:=by
   have:=congrArg List.length h;rw[List.length_take]at this;have h9:goalSp.length=5:=rfl;omega
  rw[decide_eq_true h,decide_eq_true h5,<-h,hgs];rfl
 rw[decide_eq_false h];cases hs:seq (ba ((bl t).take 5)) ⟨#[103,111,97,108,32]⟩with
 |false=>simp
 |true=>
  exfalso;have h3:ba ((bl t).take 5)=⟨#[103,111,97,108,32]⟩:=C9.1 hs;have h4:=congrArg bl h3;exact h h4.symm
variable {i:Int}
theorem R3 {l:Wds} (h0:0<=i) (h1:i<l.length):LO (l.take (i+1).toNat)=LO (l.take i.toNat)++nth l i++(⟨#[10]⟩:ByteArray):=by
 rw[AG l h0 h1];refine G9 ?_;rw[IP,IP];show(l.take i.toNat++[nth l i]).flatMap (fun x=>bl x++[10])=(l.take i.toNat).flatMap (fun x=>bl x++[10])++bl (nth l i)++[10];simp[List.flatMap_append]
structure PgJ (t0:ByteArray) (G:Game) (i kd:Int):Prop where
 v:D2 t0=Hn G.p kd i ((Ab 10 t0).drop i.toNat)
 i0:0<=i
 i1:i<=linN t0
 k0:0<=kd/\kd<=2
 rm:RdJ 40001 G.rm
 lks:G.lks.l.length<=i.toNat
 cds:G.cds.l.length<=i.toNat
 nts:G.nts.l.length<=i.toNat
 nm:∀x∈G.nts.l,x.nm.size<=70000
variable {t0:ByteArray}
theorem PgJ.start {y:Room} (ht:t0.size<=40000) (hr:(Ct t0).size<=t0.size) (he:y.e=(CR (Ct t0)).1.e) (h0:(CR (Ct t0)).2.2=0):PgJ t0 (FS y) (EE t0) 0:=by
 have hb:=KN t0;refine⟨?_,by omega,by omega,by decide,(RX (by omega) h0).en he,Nat.zero_le _,Nat.zero_le _,Nat.zero_le _,fun _ h=>(by cases h)⟩;rw[Ox rfl h0,<-he];rfl
theorem PgJ.next (h:PgJ t0 G i kd) (hi:i+1<(Ab 10 t0).length) (ht:t0.size<=40000) (hq:lineW G kd (nth (Ab 10 t0) i) G' kd' true):PgJ t0 G' (i+1) kd':=by
 have hi0:=h.i0;unfold lineW at hq;rw[if_pos rfl]at hq;obtain⟨x,hx,hG,rfl⟩:=hq;have hz:(nth (Ab 10 t0) i).size<=t0.size:=A6 (Ai hi0 (by omega));have hv:=h.v;rw[QL hi0 (by omega),Ol (x:=x) (by rw[List.length_drop];omega) hx,<-hG]at hv
 have e1:G'.rm.e=G.rm.e:=by
  have h2:=congrArg GP.rm hG;cases x<;>exact h2
 have e2:G'.lks.l=(addG G.p x).lks:=congrArg GP.lks hG;have e3:G'.cds.l.map Sl.l=(addG G.p x).cds:=congrArg GP.cds hG;have e4:G'.nts.l.map NoteD.p=(addG G.p x).nts:=congrArg GP.nts hG;have l3:G'.cds.l.length=(addG G.p x).cds.length:=by rw[<-e3,List.length_map]
 have l4:G'.nts.l.length=(addG G.p x).nts.length:=by rw[<-e4,List.length_map]
 have o1:=h.lks;have o2:=h.cds;have o3:=h.nts;have p1:G.p.cds.length=G.cds.l.length:=List.length_map _;have p2:G.p.nts.length=G.nts.l.length:=List.length_map _;have hi1:i+1<=linN t0:=by unfold linN;omega
 have en:(i+1).toNat=i.toNat+1:=by omega
 have old:∀n∈G.p.nts,n.nm.size<=70000:=fun n hn=>by
  obtain⟨y,hy,rfl⟩:=List.mem_map.1 hn;exact h.nm y hy
 have nms:(∀n∈(addG G.p x).nts,n.nm.size<=70000)->∀y∈G'.nts.l,y.nm.size<=70000:=fun hn y hy=>hn y.p (by rw[<-e4];exact List.mem_map_of_mem hy);have hk:0<=kdG x/\kdG x<=2:=by cases x<;>simp[kdG]
 rcases Lo hx with⟨_,_,a,c,rfl⟩|⟨_,n,rfl,hn⟩|⟨_,n,rfl⟩
 ·have l2:G'.lks.l.length=G.lks.l.length+1:=by rw[e2];simp[addG,Game.p]
  have l5:(addG G.p (.lock a c)).cds.length=G.p.cds.length+1:=by simp[addG]
  have l6:(addG G.p (.lock a c)).nts=G.p.nts:=rfl;exact⟨hv,by omega,hi1,hk,h.rm.en e1,by omega,by omega,by rw[l4,l6];omega,nms old⟩
 ·have l2:G'.lks.l=G.lks.l:=e2;have l5:(addG G.p (.note n)).cds=G.p.cds:=rfl;have l6:(addG G.p (.note n)).nts.length=G.p.nts.length+1:=by simp[addG]
  refine⟨hv,by omega,hi1,hk,h.rm.en e1,by rw[l2];omega,by rw[l3,l5];omega,by omega,nms fun m hm=>?_⟩;rcases List.mem_append.1 hm with hm|hm
  ·exact old m hm
  rw[List.mem_singleton]at hm;subst hm;have:=A6 hn;omega
 have l2:G'.lks.l=G.lks.l:=e2;have l5:(addG G.p (.tries n)).cds=G.p.cds:=rfl;have l6:(addG G.p (.tries n)).nts=G.p.nts:=rfl;exact⟨hv,by omega,hi1,hk,h.rm.en e1,by rw[l2];omega,by rw[l3,l5];omega,by rw[l4,l6];omega,nms old⟩
theorem PgJ.bad (h:PgJ t0 G i kd) (hi:i+1<(Ab 10 t0).length) (hq:lineW G kd (nth (Ab 10 t0) i) G' kd' false):D2 t0=(gp0,i+1,4):=by
 have hi0:=h.i0;rw[h.v,QL hi0 (by omega)];exact Pj (by rw[List.length_drop];omega) hq
theorem PgJ.last (h:PgJ t0 G i kd) (hi:i=linN t0):D2 t0=if seq (nth (Ab 10 t0) i) ⟨#[]⟩=true/\kd=2 then finG G.p else(gp0,i+1,4):=by
 have hi0:=h.i0;have hp:=AE 10 t0;rw[h.v,QL hi0 (by unfold linN at hi;omega),show(Ab 10 t0).drop (i+1).toNat=[]from List.drop_eq_nil_of_le (by unfold linN at hi;omega),GK]
theorem PgJ.gmb (h:PgJ t0 G i kd) (ht:t0.size<=40000):GmB G/\NmG G:=by
 have hi1:=h.i1;have hl:=Bn 10 t0;have o1:=h.lks;have o2:=h.cds;have o3:=h.nts;have hn:i.toNat<=40001:=by unfold linN at hi1;omega
 exact⟨⟨by omega,by omega,by omega⟩,⟨h.rm.nm,fun x hx=>⟨h.nm x hx,trivial⟩⟩⟩
theorem T4 {t:ByteArray} {n:Nat} (h:n<(Ab 10 t).length):(LO ((Ab 10 t).take n)).size<=t.size:=by
 rw[<-LM h];have h2:=HZ (aftS 10 t) n;rw[J0]at h2;exact h2
theorem Jae (t:ByteArray):(Ct t).size<=t.size:=by
 have hb:=Gj t;unfold Ct;split
 ·exact T4 (by unfold linN at hb;omega)
 exact Nat.le_refl _
variable {n0:Nat} {w0:World} {b:Nat}
theorem rg0 {y:Room} {A B:SA} (h:St n0 w0 ([blk b (gcl (FS y)++[.int .i64 0]) 82]++Gy y++[A,B]) u):St n0 w0 [rg b (FS y) 0,A,B] u:=by
 have h1:=(((h.osl0 (e:=91) (size:=11)).osl0 (e:=48) (size:=1)).osl0 (e:=85) (size:=2)).roTrue (p:=gel2 (FS y)) (fun u=>⟨fun _ h=>(by cases h),fun _ h=>(by cases h)⟩);exact St.pack (L1:=BM b (FS y) 0) (h1.sel [4,4,4,4,4,4,4,4,4,1,1,1,0,0,0] rfl)
theorem Jaw {w:World} {Ls:List SA} (b:Nat) (G:Game) (kd:Int) (hu:St w.heap.size w (rg b G kd::Ls) u) (t0:ByteArray) (ht:t0.size<=65536) (hkd:0<=kd) (hB:GmB G):
  Calls prog 35 #[.pointer (some ⟨b,0,none⟩),.string t0] u (GrX w Ls b (lineW G kd t0)):=by
 refine(YM (star Ls) b G kd hu.tailPack t0 ht hkd hB).mono ?_;rintro e u' ⟨x,h1,h2,h3⟩;exact⟨x,h1,h2,h3.tailUnpack⟩
variable {L:List SA}
theorem TL {S:Nat->Prop} (h:Star (BM b G kd++L) S u):GameOk u G:=by
 have he:gel2 G u:=Star.ro (L:=BM b G kd++L) (j:=12) rfl h;exact⟨RR (rb:=rgB b G kd) (L:=PP G++L) h,⟨Star.osl (L:=BM b G kd++L) (j:=9) rfl h,fun _ _=>trivial⟩,⟨Star.osl (L:=BM b G kd++L) (j:=10) rfl h,he.1⟩,⟨Star.osl (L:=BM b G kd++L) (j:=11) rfl h,he.2⟩⟩
theorem Z6 (h:St n0 w0 (BM b G kd++L) u):GameOk u G:=TL h.star
theorem W5 {x:GP×Int×Int} (hx:x=(G.p,0,0)) (hu:St w0.heap.size w0 (BM b G kd++L) u):Gg w0 x (.returned (.tuple #[.agg (gcl G).toArray,.int .i64 0,.int .i64 0])) u:=by
 subst hx;exact⟨G,⟨rfl,u,Z6 hu⟩,retR (p:=fun u=>GameOk u G) (fun S u h=>TL h) u hu⟩
theorem Jho {k:Int} (h:St n0 w0 (rgA b (G,k,true)::L) u):St n0 w0 (rg b G k::L) u:=h
theorem R0 (t0:ByteArray) (w:World) (ht:t0.size<=40000):
  Calls prog 7 #[.string t0] w (Gg w (D2 t0)):=by
 have hsl:=Bn 10 t0;have hsp:=AE 10 t0;have hlN:linN t0=((Ab 10 t0).length:Int)-1:=rfl;have hrz:=Jae t0;have hrb:=KN t0;refine En func7 ?_;refine Nz 0 ?_;refine Wq 2 zv37 fun b2 hb2=>?_;refine Nv 1 ?_;refine Wk 1 (Al underlying9 rfl) ?_;refine Wp ?_ ?_<;>intro hc1
 ·exact absurd hc1 (by omega)
 refine Ck (Qc (Nz 1 ?_));refine Wc rfl rfl WF (fun u hu=>HE t0 10 u (by omega)) (fun _=>rfl) ?_;rintro v20 ⟨u20,hv20⟩;refine Wz 1 ?_;refine Nx 1 ?_;refine Wk 0 (Nc (s:=⟨v20,Ab 10 t0⟩)) ?_;refine Wk 1 (GI rfl rfl (by show -9223372036854775808<=((Ab 10 t0).length:Int)-1/\((Ab 10 t0).length:Int)-1<=9223372036854775807;omega)) ?_;refine Nx 1 ?_;refine Wd (Qc (Cs (Ce ?_)));refine CS.loopM (σ:=Int) (rsL [24,51]) (fun s=>[(7,.int .i64 s)]) (fun _=>_) (fun s=>0<=s/\s<=linN t0/\∀j:Int,0<=j->j<s->B6 (nth (Ab 10 t0) j)=false) (fun s=>(linN t0-s).toNat) 0 (fun _ _=>rfl) rfl rfl ⟨by omega,by omega,fun j _ _=>by omega⟩ ?_;intro i t hs;obtain⟨hi1,hi2,hi3⟩:=hs;refine Cs (Nz 4 ?_);refine Wj 0 ?_;refine Wj 0 ?_;refine Wt 0 rfl rfl (fun hg=>Xc (eg_ hg rfl) (eg_ hg rfl) (s:=⟨v20,Ab 10 t0⟩) (h0:=by omega) (h1:=by(try simp only[bq]at hg);show(i:Int)<((Ab 10 t0).length:Int);omega)) ?_;refine Wt 0 rfl rfl (fun hg=>Vb 0 rfl (eg_ hg rfl) (s:=⟨v20,Ab 10 t0⟩) (h:=⟨by omega,by(try simp only[bq]at hg);show(i:Int)<((Ab 10 t0).length:Int);omega⟩)) ?_;refine Wt 0 rfl rfl (fun hg=>A3 (eg_ hg rfl) rfl) ?_;refine Wk 1 Pa ?_;refine Wj 0 ?_;refine Wj 0 ?_;refine Wt 0 rfl rfl (fun hg=>Xc (eg_ hg rfl) (eg_ hg rfl) (s:=⟨v20,Ab 10 t0⟩) (h0:=by omega) (h1:=by(try simp only[bq]at hg);show(i:Int)<((Ab 10 t0).length:Int);omega)) ?_;refine Wt 0 rfl rfl (fun hg=>Vb 0 rfl (eg_ hg rfl) (s:=⟨v20,Ab 10 t0⟩) (h:=⟨by omega,by(try simp only[bq]at hg);show(i:Int)<((Ab 10 t0).length:Int);omega⟩)) ?_;refine Wt 0 rfl rfl (fun hg=>Al underlying9 (eg_ hg rfl)) ?_;refine Wj 0 ?_;refine Wt 0 rfl rfl (fun hg=>Fm (eg_ hg rfl)) ?_;refine Wn 0 rfl rfl rfl (fun hg=>Fm) ?_;refine Wn 0 rfl rfl rfl (fun hg=>Fm) ?_;refine Wn 0 rfl rfl rfl (fun hg=>Xc (eg_ hg rfl) (eg_ hg rfl) (s:=⟨v20,Ab 10 t0⟩) (h0:=by omega) (h1:=by(try simp only[bq]at hg);show(i:Int)<((Ab 10 t0).length:Int);omega)) ?_;refine Wn 0 rfl rfl rfl (fun hg=>Vb 0 rfl (eg_ hg rfl) (s:=⟨v20,Ab 10 t0⟩) (h:=⟨by omega,by(try simp only[bq]at hg);show(i:Int)<((Ab 10 t0).length:Int);omega⟩)) ?_;refine Wn 0 rfl rfl rfl (fun hg=>C5 underlying9 (eg_ hg rfl) rfl (show(0:Int)<=5/\(5:Int)<=((nth (Ab 10 t0) i).size:Int)from by have h9:=hg;simp at h9;have:=h9.2;omega)) ?_;refine Wn 0 rfl rfl rfl (fun hg=>A3 (eg_ hg rfl) rfl) ?_;refine Wt 0 rfl rfl (fun hg=>D1 (eg_ hg rfl) (KD hg rfl) rfl) ?_;refine Wk 0 Pa ?_;refine Wp ?_ ?_<;>intro hc2
 ·have hng:B6 (nth (Ab 10 t0) i)=false:=by
   rw[XS,Bool.or_eq_false_iff,Bool.and_eq_false_iff];refine⟨hc2.1.2,?_⟩;rcases hc2.2 with h|h
   ·exact .inl (decide_eq_false (by omega))
   exact .inr h
  refine Ck (Qc (Ce (Ny 1 ?_)));refine Wk 1 Za ?_;refine Wd (Qb ?_)
  exact QS.head (i+1) rfl rfl ⟨⟨by omega,by omega,fun j h0 h1=>by
   rcases(show j<i\/j=i by omega)with h|rfl
   ·exact hi3 j h0 h
   exact hng⟩,by omega⟩
 have hgo:i<linN t0->B6 (nth (Ab 10 t0) i)=true:=fun h=>by
  rw[XS,Bool.or_eq_true,Bool.and_eq_true];rcases hc2 with(h1|h1)|h1
  ·omega
  ·exact .inl h1
  exact .inr ⟨decide_eq_true (by omega),h1.2⟩
 refine Cv (Qe (Qe (Qx (Qc (Nz 2 ?_)))));refine Wd (Qc ?_);refine CS.cut (σ:=Int×ByteArray) [9,53,54,55,56,57,58,59,60,61,62,63,64,65,66,67,68,69] (fun s=>[(7,.int .i64 s.1),(8,.string s.2)]) (fun s=>[roT cStr ⟨v20,Ab 10 t0⟩,blk b2 (gcl game0) 37]) (fun s=>s.1=EE t0/\s.2=Ct t0) (fun _ _=>rfl) ?_ ?_
 ·refine Nz 3 ?_;refine Wp ?_ ?_<;>intro hc3
  ·have hhit:=WV (Rq hi1 (by omega) hi3 (hgo (by omega))) hi1;refine Nz 1 ?_;refine Wk 1 Za ?_;refine Nx 1 ?_;refine Nx 1 ?_;refine Nu ?_;refine CS.loopM (σ:=Int×ByteArray) (rsL [58,69]) (fun s=>[(9,.int .i64 s.1),(8,.string s.2)]) (fun _=>_) (fun s=>0<=s.1/\s.1<=i+1/\s.2=LO ((Ab 10 t0).take s.1.toNat)) (fun s=>(i+1-s.1).toNat) (0,⟨#[]⟩) (fun _ _=>rfl) rfl rfl ⟨by simp,by simp;omega,rfl⟩ ?_;intro q t hs;obtain⟨hq1,hq2,hq3⟩:=hs;refine Cs (Nz 3 ?_);refine Wp ?_ ?_<;>intro hc4
   ·have hez:(LO ((Ab 10 t0).take q.1.toNat)).size<=t0.size:=T4 (by omega);have hnz:(nth (Ab 10 t0) q.1).size<=t0.size:=A6 (Ai hq1 (by omega));have hs1:(⟨#[10]⟩:ByteArray).size=1:=rfl;have hqz:q.2.size<=t0.size:=by rw[hq3];exact hez
    refine Ck (Qc (Cs (Ce (Ny 3 ?_))));refine Wk 0 (Xc (s:=⟨v20,Ab 10 t0⟩) (h0:=by omega) (h1:=by show(q.1:Int)<((Ab 10 t0).length:Int);omega)) ?_;refine Wk 0 (Vb 0 rfl (s:=⟨v20,Ab 10 t0⟩) (h:=⟨by omega,by show(q.1:Int)<((Ab 10 t0).length:Int);omega⟩)) ?_;refine Wk 0 (F2 rfl rfl underlying9 (show q.2.size+(nth (Ab 10 t0) q.1).size<=9223372036854775807 by omega)) ?_;refine Wk 1 (F2 rfl rfl underlying9 (show(q.2++nth (Ab 10 t0) q.1).size+(⟨#[10]⟩:ByteArray).size<=9223372036854775807 by rw[ByteArray.size_append];omega)) ?_;refine Wd (Qb (Qc (Ny 1 ?_)));refine Wk 1 Za ?_;exact Wd (QS.head ((q.1+1,q.2++nth (Ab 10 t0) q.1++(⟨#[10]⟩:ByteArray))) rfl rfl ⟨⟨by simp only;omega,by simp only;omega,by simp only;rw[hq3,R3 hq1 (by omega)]⟩,by simp only;omega⟩)
   have hqe:q.1=i+1:=by omega
   rw[hqe]at hq3;exact Cv (Qe (Qe (Qx (QS.head ((i+1,q.2)) rfl rfl ⟨hhit.1.symm,by simp only;rw[hq3,hhit.2]⟩))))
  have hmis:=Uz (P7 fun j h0 h1=>hi3 j h0 (by omega));exact Ck (QS.head ((i,t0)) rfl rfl ⟨by simp only;omega,hmis.2.symm⟩)
 intro z t hs;obtain⟨z1,z2⟩:=z;obtain⟨rfl,rfl⟩:z1=EE t0/\z2=Ct t0:=hs;refine Nz 1 ?_;refine Wc rfl rfl Jgn (fun u hu=>V9 (Ct t0) u (by omega)) (fun _=>rfl) ?_;rintro y ⟨hy1,uy,hy2⟩;refine WS.unpack ?_;refine Wz 4 ?_;refine Wq 0 zv32 fun b10 hb10=>?_;refine WS.storeP rfl (j:=0) rfl (vs:=Room.cells y) rfl rfl (J5 hy2) tk32 rfl rfl ?_;refine Wz 2 ?_;refine Nv 2 ?_;refine Wp ?_ ?_<;>intro hc5
 ·have hbad:=KZ rfl hc5;refine Nz 0 ?_;refine Wk 2 (Db H9 zv37) ?_;refine Wv 2 10 ?_;exact Wd (Qc (Cr (Qr (outR (B9 rfl (Ag (j:=10) rfl rfl tk37) rfl rfl) (fun u hu=>Cj hbad hu)))))
 refine Ck (Qc (Nz 0 ?_));refine Wk 0 (Bb 0) ?_;refine Wk 0 (AF H9 zv37 (pcs:=[(0,Room.cells y)]) rfl (CellsOf.agg CellsOf.nil) rfl) ?_;refine Wk 0 (AF Jgr zv82 (pcs:=[(0,gcl (FS y))]) rfl (CellsOf.agg CellsOf.nil) rfl) ?_;refine Wr 1 fun b84 hb84=>?_;refine Wd (Qc (Cs (Cs ?_)));refine CS.sel [0,1,1,1,1,1,1,1,1,1,1] rfl ?_;refine CS.weak (fun u hu=>rg0 hu) ?_;refine Ny 2 ?_;refine Nu ?_;refine CS.loopM (σ:=Game×Int×Int) (rsL [3,4,86,100]) (fun s=>[(14,.int .i64 s.2.2)]) (fun s=>[rg b84 s.1 s.2.1,roT cStr ⟨v20,Ab 10 t0⟩,blk b2 (gcl game0) 37]) (fun s=>PgJ t0 s.1 s.2.2 s.2.1) (fun s=>(linN t0-s.2.2).toNat) (FS y,0,EE t0) (fun _ _=>rfl) rfl rfl (PgJ.start ht hrz hy1 (by omega)) ?_;intro q t hs;have hqi:=hs;have hi0:=hqi.i0;have hi1:=hqi.i1;have hgb:=hqi.gmb ht;refine Cs (Nz 3 ?_);refine Wp ?_ ?_<;>intro hc6
 ·refine Ck (Qc (Cs (Ce (Nz 3 ?_))));refine Wk 0 (Xc (s:=⟨v20,Ab 10 t0⟩) (h0:=by omega) (h1:=by show(q.2.2:Int)<((Ab 10 t0).length:Int);omega)) ?_;refine Wk 0 (Vb 1 rfl (s:=⟨v20,Ab 10 t0⟩) (h:=⟨by omega,by show(q.2.2:Int)<((Ab 10 t0).length:Int);omega⟩)) ?_;refine WS.callS rfl rfl Jgs (fun u hu=>Jaw b84 q.1 q.2.1 hu (nth (Ab 10 t0) q.2.2) (by have:=A6 (Ai (xs:=Ab 10 t0) hi0 (by omega));omega) hqi.k0.1 hgb.1) (fun _=>rfl) ?_;rintro⟨G3,k3,z3⟩ hq3;refine Wz 1 ?_;refine Wp ?_ ?_<;>intro hc7
  ·obtain rfl:z3=false:=by simpa using hc7
   have hbad2:=hqi.bad (by omega) hq3;refine Nz 0 ?_;refine Wk 1 (Db H9 zv37) ?_;refine Wk 0 Za ?_;refine Wv 2 2 ?_;exact Wd (Qc (Cr (Qs (Qr (Qr (Qs (Qr (outR (B9 rfl (Ag (j:=2) rfl rfl tk37) rfl rfl) (fun u hu=>Cj hbad2 hu)))))))))
  obtain rfl:z3=true:=by simpa using hc7
  refine CS.weak (fun u hu=>Jho hu) ?_;refine Ck (Qb (Qc (Ny 1 ?_)));refine Wk 1 Za ?_;exact Wd (QS.head ((G3,k3,q.2.2+1)) rfl rfl ⟨hqi.next (by omega) ht hq3,by simp only;omega⟩)
 have hlast:=hqi.last (by omega);have hqe:q.2.2=(((Ab 10 t0).length:Int)-1):=by omega
 rw[hqe]at hlast;refine Cv (Qe (Qe (Qx (Qc (Cs (Cs ?_))))));refine CS.unpack (L1:=BM b84 q.1 q.2.1) ?_;refine Ny 2 ?_;refine Wk 0 (Xc (s:=⟨v20,Ab 10 t0⟩) (h0:=by show(0:Int)<=(((Ab 10 t0).length:Int)-1);omega) (h1:=by show((((Ab 10 t0).length:Int)-1):Int)<((Ab 10 t0).length:Int);omega)) ?_;refine Wk 0 (Vb 13 rfl (s:=⟨v20,Ab 10 t0⟩) (h:=⟨by show(0:Int)<=(((Ab 10 t0).length:Int)-1);omega,by show((((Ab 10 t0).length:Int)-1):Int)<((Ab 10 t0).length:Int);omega⟩)) ?_;refine Wk 1 (A3 rfl rfl) ?_;refine We 0 ?_;refine We 0 ?_;refine We 0 ?_;refine We 0 ?_;refine We 0 ?_;refine Wk 0 Po ?_;refine Wp ?_ ?_<;>intro hc8
 ·have hbad3:D2 t0=((gp0,((Ab 10 t0).length:Int)-1+1,4):GP×Int×Int):=by
   rw[hlast,if_neg];rintro⟨h1,h2⟩;rcases hc8 with h|h
   ·rw[h1]at h;cases h
   omega
  refine Nz 0 ?_;refine Wk 1 (Db H9 zv37) ?_;refine Wk 0 (ID rfl rfl (by show -9223372036854775808<=((Ab 10 t0).length:Int)-1+1/\((Ab 10 t0).length:Int)-1+1<=9223372036854775807;omega)) ?_;refine Wv 2 14 ?_;exact Wd (Qc (Cr (Qr (outR (B9 rfl (Ag (j:=14) rfl rfl tk37) rfl rfl) (fun u hu=>Cj hbad3 hu)))))
 have hfin:D2 t0=finG q.1.p:=by rw[hlast,if_pos ⟨hc8.1,by have:=hqi.k0;omega⟩]
 refine Ck (Qc (Nz 3 ?_));refine Wk 0 (Bc 0) ?_;refine Wk 1 (Cb rfl rfl Jh3 (fun u hu=>QK q.1 u (Z6 (b:=b84) (kd:=q.2.1) hu) hgb.2)) ?_;refine Nv 2 ?_;refine Wp ?_ ?_<;>intro hc9
 ·have hbad4:D2 t0=(gp0,0,Bo q.1.p):=by rw[hfin,finG,if_pos hc9]
  refine Nz 0 ?_;refine Wk 1 (Db H9 zv37) ?_;refine Wv 2 14 ?_;exact Wd (Qc (Cr (Qr (outR (B9 rfl (Ag (j:=14) rfl rfl tk37) rfl rfl) (fun u hu=>Cj hbad4 hu)))))
 have hgood:D2 t0=(q.1.p,0,0):=by rw[hfin,finG,if_neg (by omega)]
 refine Ck (Qc (Cs ?_));refine CS.stE fun hst2=>?_;obtain⟨uu,huu⟩:=hst2;have hone:=Oe (Z6 (b:=b84) (kd:=q.2.1) huu);refine Ny 3 ?_;refine Wk 0 (Bc 0) ?_;refine WS.storeP rfl (j:=14) rfl (vs:=gcl q.1) rfl rfl hone tk37 rfl rfl ?_;refine Wz 2 ?_;exact Wd (Qc (Cr (outR (B9 rfl (Ag (j:=14) rfl rfl tk37) rfl rfl) (fun u hu=>W5 (b:=b84) (kd:=q.2.1) hgood hu))))
end Go.Proofs.YtllebkdchemabaaGreatDoor
