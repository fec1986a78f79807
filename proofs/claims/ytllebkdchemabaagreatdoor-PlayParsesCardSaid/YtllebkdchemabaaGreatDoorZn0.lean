/- Merged texts of this proof. -/
import Derived.Test.YtllebkdchemabaaGreatDoorZb
import Derived.Test.YtllebkdchemabaaGreatDoorZd
import Derived.Test.YtllebkdchemabaaGreatDoorZg
set_option maxHeartbeats 8000000
namespace Go.Proofs.YtllebkdchemabaaGreatDoor
open Go.RowKit Go.Proofs Tryz
set_option maxRecDepth 100000
set_option linter.unusedVariables false
set_option linter.unusedSimpArgs false
theorem MN (n lo hi:Int) (w:World):
  Calls prog 101 #[.int .i64 n,.int .i64 lo,.int .i64 hi] w (RetB w (.bool (decide (lo<=n)&&decide (n<=hi)))):=by
 refine Eg func101 ?_
 iterate 4 refine Aa ?_
 exact out1 rfl rfl (Af (by simp))
theorem BF (n lo hi:Int) (w:World):
  Calls prog 79 #[.int .i64 n,.int .i64 lo,.int .i64 hi] w (RetB w (.bool (decide (lo<=n)&&decide (n<=hi)))):=by
 refine Eg func79 ?_
 iterate 4 refine Aa ?_
 exact out1 rfl rfl (Af (by simp))
theorem YV (c:Clue) (gv:Value) (w:World) (h1:SlI w gv c.g):
  Calls prog 212 #[.agg #[.int .i64 c.k,.int .i64 c.a,.int .i64 c.b,.int .i64 c.n,.int .i64 c.m,gv,.bool c.nt]] w (RetB w (.bool (MK c))):=by
 refine Eg func212 ?_;refine Wr 1 fun b1 hb1=>?_;refine Nf ?_
 iterate 26 refine Aa ?_
 exact out1 rfl rfl (Af (by unfold MK;simp only[Bool.and_assoc]))
theorem ZI (c:Clue) (gv:Value) (w:World) (h1:SlI w gv c.g):
  Calls prog 188 #[.agg #[.int .i64 c.k,.int .i64 c.a,.int .i64 c.b,.int .i64 c.n,.int .i64 c.m,gv,.bool c.nt]] w (RetB w (.bool (MK c))):=by
 refine Eg func188 ?_;refine Wr 1 fun b1 hb1=>?_;refine Nf ?_
 iterate 26 refine Aa ?_
 exact out1 rfl rfl (Af (by unfold MK;simp only[Bool.and_assoc]))
theorem D3 {t:ByteArray} {x:ByteArray} (hx:x∈wordL) (h:seq t x=true):kwB t=true:=by
 unfold kwB;rw[show(wordL.any fun y=>seq y t)=true from List.any_eq_true.2 ⟨x,hx,by rw[CY];exact h⟩];rfl
theorem NJ (tx:ByteArray) (w:World) (hm:(tx.size:Int)<=9223372036854775806):
  Calls prog 80 #[.string tx] w (RetB w (.bool (Au tx))):=by
 refine En func80 ?_;refine Nz 1 ?_;refine Nv 1 ?_;refine Nu ?_;refine CS.cut (σ:=Bool) [6,7,8,9,10,11,12,13,14,15,16] (fun s=>[(5,.bool s)]) (fun s=>[]) (fun s=>s=kwB tx) (fun _ _=>rfl) ?_ ?_
 ·refine Nf ?_;refine Wk 1 (Ah rfl rfl) ?_;refine Nf ?_;refine Cm ?_ ?_<;>intro hc1
  ·exact QS.head (seq tx ⟨#[]⟩) rfl rfl (show seq tx ⟨#[]⟩=kwB tx by unfold kwB;rw[hc1];simp)
  refine Wk 1 (Ah rfl rfl) ?_;refine Nf ?_;refine Cm ?_ ?_<;>intro hc2
  ·exact QS.head (seq tx ⟨#[97,116]⟩) rfl rfl (hc2.trans (D3 (x:=⟨#[97,116]⟩) (by simp[wordL]) hc2).symm)
  refine Wk 1 (Ah rfl rfl) ?_;refine Nf ?_;refine Cm ?_ ?_<;>intro hc3
  ·exact QS.head (seq tx ⟨#[115,116,97,116,101,115]⟩) rfl rfl (hc3.trans (D3 (x:=⟨#[115,116,97,116,101,115]⟩) (by simp[wordL]) hc3).symm)
  refine Wk 1 (Ah rfl rfl) ?_;refine Nf ?_;refine Cm ?_ ?_<;>intro hc4
  ·exact QS.head (seq tx ⟨#[115,116,97,114,116]⟩) rfl rfl (hc4.trans (D3 (x:=⟨#[115,116,97,114,116]⟩) (by simp[wordL]) hc4).symm)
  refine Wk 1 (Ah rfl rfl) ?_;refine Nf ?_;refine Cm ?_ ?_<;>intro hc5
  ·exact QS.head (seq tx ⟨#[103,111,110,101]⟩) rfl rfl (hc5.trans (D3 (x:=⟨#[103,111,110,101]⟩) (by simp[wordL]) hc5).symm)
  refine Wk 1 (Ah rfl rfl) ?_;refine Nf ?_;refine Cm ?_ ?_<;>intro hc6
  ·exact QS.head (seq tx ⟨#[105,102]⟩) rfl rfl (hc6.trans (D3 (x:=⟨#[105,102]⟩) (by simp[wordL]) hc6).symm)
  refine Wk 1 (Ah rfl rfl) ?_;refine Nf ?_;refine Cm ?_ ?_<;>intro hc7
  ·exact QS.head (seq tx ⟨#[108,111,99,107]⟩) rfl rfl (hc7.trans (D3 (x:=⟨#[108,111,99,107]⟩) (by simp[wordL]) hc7).symm)
  refine Wk 1 (Ah rfl rfl) ?_;refine Nf ?_;refine Cm ?_ ?_<;>intro hc8
  ·exact QS.head (seq tx ⟨#[119,105,116,104]⟩) rfl rfl (hc8.trans (D3 (x:=⟨#[119,105,116,104]⟩) (by simp[wordL]) hc8).symm)
  refine Wk 1 (Ah rfl rfl) ?_;refine Nf ?_;refine Cm ?_ ?_<;>intro hc9
  ·exact QS.head (seq tx ⟨#[115,101,116,115]⟩) rfl rfl (hc9.trans (D3 (x:=⟨#[115,101,116,115]⟩) (by simp[wordL]) hc9).symm)
  refine Wk 1 (Ah rfl rfl) ?_;refine Nf ?_;refine Cm ?_ ?_<;>intro hc10
  ·exact QS.head (seq tx ⟨#[115,112,101,110,100,115]⟩) rfl rfl (hc10.trans (D3 (x:=⟨#[115,112,101,110,100,115]⟩) (by simp[wordL]) hc10).symm)
  refine Wk 1 (Ah rfl rfl) ?_;refine Nf ?_;exact QS.head (seq tx ⟨#[98,114,105,110,103,115]⟩) rfl rfl (show seq tx ⟨#[98,114,105,110,103,115]⟩=kwB tx by unfold kwB;simp only[wordL,List.any_cons,List.any_nil,CY _ tx,hc1,hc2,hc3,hc4,hc5,hc6,hc7,hc8,hc9,hc10,Bool.false_or,Bool.or_false])
 intro s t hs;refine CS.cond rfl (fun hc11=>?_) (fun hc11=>?_)<;>(try simp only[bq]at hc11)
 ·refine Nf ?_;exact out1 rfl rfl (Af (by rw[Gz,<-hs,hc11];simp))
 refine Nf ?_;refine Wk 1 (Al underlying9 rfl) ?_;refine Nf ?_;refine CS.loopM (σ:=Int) (rsL [2,3,20,32]) (fun s=>[(19,.int .i64 s)]) (fun _=>_) (fun s=>0<=s/\s<=tx.size/\∀j:Int,0<=j->j<s->97<=byt tx j/\byt tx j<=122) (fun s=>(tx.size-s).toNat) 0 (fun _ _=>rfl) rfl rfl ⟨by omega,by omega,fun j _ _=>by omega⟩ ?_;intro q t hs;obtain⟨hs1,hs2,hs3⟩:=hs;refine Nf ?_;refine Cm ?_ ?_<;>intro hc12
 ·refine Wk 2 (An underlying9 rfl rfl (by omega) (by omega)) ?_
  iterate 2 refine Aa ?_
  refine Wf 0 rfl rfl (fun hg=>An underlying9 (eg_ hg rfl) (eg_ hg rfl) (by(try simp only[bq]at hg);omega) (by(try simp only[bq]at hg);omega)) ?_
  iterate 2 refine Aa ?_
  refine Cm ?_ ?_<;>intro hc13
  ·exact out1 rfl rfl (Af (by rw[Gz,JW hs1 (by omega) (by omega)];rfl))
  refine Aa ?_
  exact QS.head (q+1) rfl rfl ⟨⟨by omega,by omega,fun j h0 h1=>by
     rcases(show j<q\/j=q by omega)with h|h
     ·exact hs3 j h0 h
     rw[h];omega⟩,by omega⟩
 exact out1 rfl rfl (Af (by rw[Gz,<-hs,hc11,HH fun j h0 h1=>hs3 j h0 (by omega)];rfl))
theorem RY (r:Room) (w:World) (hr:RoomOk w r) (x:Lit) (b:Nat) (e:TypeId) (hb:BlkAt w b (rcl r) e):
  Calls prog 191 #[.agg #[.int .i64 x.t,.int .i64 x.s,.bool x.nt],.pointer (some ⟨b,0,none⟩)] w (RetB w (.bool (!putB r.ths.l x.t x.s))):=by
 have kpl:=hr.pls;have lpl:=hr.pls.le;have kth:=hr.ths;have lth:=hr.ths.le;have kpr:=hr.prs;have lpr:=hr.prs.le;have kwy:=hr.wys;have lwy:=hr.wys.le;have kac:=hr.acs;have lac:=hr.acs.le;have kau:=hr.aus;have lau:=hr.aus.le;have kgl:=hr.gl;have lgl:=hr.gl.le;refine Eg func191 ?_;refine Wr 1 fun b2 hb2=>?_;refine Nf ?_;refine Dg mixed ?_
 iterate 4 refine Ad ?_
 refine Dk 2 (Cb rfl rfl Hm (fun u hu=>BF _ _ _ u)) ?_
 iterate 9 refine Ad ?_
 refine Df 0 rfl rfl (fun hg=>JQ (eg_ hg rfl) rfl) ?_;refine Df 0 rfl rfl (fun hg=>Cb rfl (ec_ (eg_ hg rfl) (ec_ rfl (ec_ (eg_ hg rfl) en_))) Hm (fun u hu=>BF _ _ _ u)) ?_
 iterate 2 refine Ad ?_
 exact out1 rfl rfl (Af (by unfold putB;simp only[Bool.not_and]))
theorem WA (r:Room) (w:World) (hr:RoomOk w r) (c:Sl Lit) (hk:SlT cLit w c):
  Calls prog 91 #[.agg (rcl r).toArray,c.v] w (RetB w (.bool (FD r.ths.l c.l))):=by
 have lcs:=hk.le;refine Eg func91 ?_;refine Wr 1 fun b2 hb2=>?_;refine Nf ?_
 iterate 2 refine Aa ?_
 refine Wt 0 rfl rfl (fun hg=>Ax rfl) ?_;refine Wt 0 rfl rfl (fun hg=>Cb rfl (ec_ (eg_ hg rfl) (ec_ (eg_ hg rfl) en_)) SQ (fun u hu=>EK c u (hk.st hu) _ [.pointer (some ⟨b2,0,none⟩)] (fun x=>!putB r.ths.l x.t x.s) Jcq (fun u2 h2 i h0 h1=>RY r u2 ((hr.st hu).ext h2) _ _ _ ((AN hu (j:=0) rfl).ext h2)))) ?_
 iterate 2 refine Aa ?_
 exact out1 rfl rfl (Af (by unfold FD;rw[Bool.and_comm];congr 1;simp[List.all_eq_not_any_not]))
theorem RT (s0:Sl NoteD) (w:World) (hk:SlT cNote w s0) (g:Nat) (lb:List Value) (p:NoteD->Bool) (hg:Ent prog g)
  (hp:∀u,Below w.heap.size w u->∀i:Int,0<=i->i<s0.l.length->Calls prog g ([.agg #[.string (nth s0.l i).nm,.int .i64 (nth s0.l i).pl,.int .i64 (nth s0.l i).lk,(nth s0.l i).wh.v,.int .i64 (nth s0.l i).cl.k,.int .i64 (nth s0.l i).cl.a,.int .i64 (nth s0.l i).cl.b,.int .i64 (nth s0.l i).cl.n,.int .i64 (nth s0.l i).cl.m,(nth s0.l i).gv,.bool (nth s0.l i).cl.nt]]++lb:List Value).toArray u (RetB u (.bool (p (nth s0.l i))))):
  Calls prog 270 #[s0.v,.func (.func g) #[] lb.toArray] w (RetB w (.int .i64 (idxF p s0.l))):=by
 have hl1:=hk.le;refine Eg func270 ?_;refine Aa ?_;refine CS.loopM (σ:=Int) (rsL [4,5,9,18]) (fun s=>[(8,.int .i64 s)]) (fun _=>_) (fun s=>0<=s/\s<=s0.l.length/\∀j:Int,0<=j->j<s->p (nth s0.l j)=false) (fun s=>(s0.l.length-s).toNat) 0 (fun _ _=>rfl) rfl rfl ⟨by omega,by omega,fun j h1 h2=>by omega⟩ ?_;intro s t hs;obtain⟨hs1,hs2,hs3⟩:=hs;refine Nf ?_;refine Cm ?_ ?_<;>intro hc1
 ·iterate 2 refine Aa ?_
  refine Wk 0 (Cb rfl rfl hg (fun u hu=>hp u hu.below s (by omega) (by omega))) ?_;refine Nf ?_;refine Cm ?_ ?_<;>intro hc2
  ·exact out1 rfl rfl (Af (by rw[AM hs1 (by omega) hs3 hc2]))
  refine Aa ?_;exact QS.head (s+1) rfl rfl ⟨⟨by omega,by omega,fun j h1 h2=>if hj:j=s then by rw[hj];exact hc2 else hs3 j h1 (by omega)⟩,by omega⟩
 exact out1 rfl rfl (Af (by rw[A2 fun j h1 h2=>hs3 j h1 (by omega)]))
theorem Mi (s0:Sl NoteD) (w:World) (hk:SlT cNote w s0) (g:Nat) (lb:List Value) (p:NoteD->Bool) (hg:Ent prog g)
  (hp:∀u,Below w.heap.size w u->∀i:Int,0<=i->i<s0.l.length->Calls prog g ([.agg #[.string (nth s0.l i).nm,.int .i64 (nth s0.l i).pl,.int .i64 (nth s0.l i).lk,(nth s0.l i).wh.v,.int .i64 (nth s0.l i).cl.k,.int .i64 (nth s0.l i).cl.a,.int .i64 (nth s0.l i).cl.b,.int .i64 (nth s0.l i).cl.n,.int .i64 (nth s0.l i).cl.m,(nth s0.l i).gv,.bool (nth s0.l i).cl.nt]]++lb:List Value).toArray u (RetB u (.bool (p (nth s0.l i))))):
  Calls prog 186 #[s0.v,.func (.func g) #[] lb.toArray] w (RetB w (.bool (s0.l.any p))):=by
 refine Eg func186 ?_;refine Wk 2 (Cb rfl rfl Jct (fun u hu=>RT s0 u (hk.st hu) g lb p hg (fun u2 h2=>hp u2 (AQ hu.below h2)))) ?_;refine Nf ?_;exact out1 rfl rfl (Af (by rw[BU]))
theorem Uu (x y:NoteD) (w:World) (b:Nat) (e:TypeId) (hb:BlkAt w b [.string y.nm,.int .i64 y.pl,.int .i64 y.lk,y.wh.v,.int .i64 y.cl.k,.int .i64 y.cl.a,.int .i64 y.cl.b,.int .i64 y.cl.n,.int .i64 y.cl.m,y.gv,.bool y.cl.nt] e):
  Calls prog 187 #[.agg #[.string x.nm,.int .i64 x.pl,.int .i64 x.lk,x.wh.v,.int .i64 x.cl.k,.int .i64 x.cl.a,.int .i64 x.cl.b,.int .i64 x.cl.n,.int .i64 x.cl.m,x.gv,.bool x.cl.nt],.pointer (some ⟨b,0,none⟩)] w (RetB w (.bool (seq x.nm y.nm))):=by
 refine Eg func187 ?_;refine Wr 1 fun b2 hb2=>?_;refine Nf ?_
 iterate 2 refine Aa ?_
 refine Wk 1 (Ah rfl rfl) ?_;refine Nf ?_;exact out1 rfl rfl retB
theorem SM (G:Game) (w:World) (hk:SlT cNote w G.nts) (i:Int) (h0:0<=i) (h1:i<G.nts.l.length) (b:Nat) (e:TypeId) (hb:BlkAt w b [.string (nth G.nts.l i).nm,.int .i64 (nth G.nts.l i).pl,.int .i64 (nth G.nts.l i).lk,(nth G.nts.l i).wh.v,.int .i64 (nth G.nts.l i).cl.k,.int .i64 (nth G.nts.l i).cl.a,.int .i64 (nth G.nts.l i).cl.b,.int .i64 (nth G.nts.l i).cl.n,.int .i64 (nth G.nts.l i).cl.m,(nth G.nts.l i).gv,.bool (nth G.nts.l i).cl.nt] e):
  Calls prog 186 #[(G.nts.cut 11 0 i.toNat).v,.func (.func 187) #[] #[.pointer (some ⟨b,0,none⟩)]] w (RetB w (.bool (!newB NoteD.nm G.nts.l i))):=by
 have q:=Mi (G.nts.cut 11 0 i.toNat) w (hk.cut (by omega) (by omega)) _ [.pointer (some ⟨b,0,none⟩)] (fun x=>seq x.nm (nth G.nts.l i).nm) Jbq (fun u2 h2 j a0 a1=>Uu _ (nth G.nts.l i) u2 b e (hb.ext h2));have e1:(!newB NoteD.nm G.nts.l i)=((G.nts.cut 11 0 i.toNat).l.any fun x=>seq x.nm (nth G.nts.l i).nm):=by unfold newB;rw[Bool.not_not];rfl
 rw[e1];exact q
theorem ZT (G:Game) (w:World) (hG:GameOk w G) (hn:NmG G) (hl:G.cds.l.length=G.lks.l.length) (hC:∀j:Int,0<=j->j<G.lks.l.length->Ep (nth G.lks.l j).w (nth G.lks.l j).s (nth G.cds.l j).l=0) (i:Int) (h0:0<=i) (h1:i<G.nts.l.length):
  Calls prog 90 #[.agg (gcl G).toArray,.int .i64 i,.agg #[.string (nth G.nts.l i).nm,.int .i64 (nth G.nts.l i).pl,.int .i64 (nth G.nts.l i).lk,(nth G.nts.l i).wh.v,.int .i64 (nth G.nts.l i).cl.k,.int .i64 (nth G.nts.l i).cl.a,.int .i64 (nth G.nts.l i).cl.b,.int .i64 (nth G.nts.l i).cl.n,.int .i64 (nth G.nts.l i).cl.m,(nth G.nts.l i).gv,.bool (nth G.nts.l i).cl.nt]] w (RetB w (.bool (ntG G i))):=by
 have klk:=hG.lks;have llk:=hG.lks.le;have kcd:=hG.cds;have lcd:=hG.cds.le;have knt:=hG.nts;have lnt:=hG.nts.le;have kpl:=hG.rm.pls;have lpl:=hG.rm.pls.le;have kth:=hG.rm.ths;have lth:=hG.rm.ths.le;have kac:=hG.rm.acs;have lac:=hG.rm.acs.le;have hnt:cNote.ok w (nth G.nts.l i):=knt.at h0 h1;have hnm:=(hn.nt _ (Ai h0 h1)).1;refine Eg func90 ?_;refine Wr 0 fun b3 hb3=>?_;refine Wr 1 fun b5 hb5=>?_;refine Nf ?_;refine Aa ?_;refine Wk 0 (Cl sl35 rfl rfl (by first|assumption|exact SlL.sp (by assumption)|exact ClS.sp (by assumption)|exact SlT.sp (by assumption)) (by omega) (by omega)) ?_;refine Wk 0 (Ax rfl) ?_;refine Wk 1 (Cb rfl rfl Je4 (fun u hu=>SM G u (knt.st hu) i h0 h1 b5 _ (AN hu (j:=0) rfl))) ?_;refine Nf ?_;refine Aa ?_;refine Wk 2 (Cb rfl rfl Yr (fun u hu=>NJ _ u (by omega))) ?_
 iterate 2 refine Aa ?_
 refine Wf 0 rfl rfl (fun hg=>Al underlying9 (eg_ hg rfl)) ?_
 iterate 11 refine Aa ?_
 refine Wf 0 rfl rfl (fun hg=>Cb rfl (ec_ (eg_ hg rfl) (ec_ rfl (ec_ (eg_ hg rfl) en_))) Hm (fun u hu=>BF _ _ _ u)) ?_
 iterate 8 refine Aa ?_
 refine Wf 0 rfl rfl (fun hg=>Cb rfl (ec_ (eg_ hg rfl) (ec_ rfl (ec_ (eg_ hg rfl) en_))) Hm (fun u hu=>BF _ _ _ u)) ?_
 iterate 2 refine Aa ?_
 refine Cm ?_ ?_<;>intro hc1
 ·exact out1 rfl rfl (Af (by rw[show ntG G i=false by(unfold ntG AY placeB;grind)]))
 have e1:ntG G i=P8 G (nth G.nts.l i):=by(unfold ntG AY placeB;grind)
 refine Aa ?_;refine Cm ?_ ?_<;>intro hc2
 ·refine Aa ?_;refine Wk 1 (Cb rfl rfl Jbv (fun u hu=>ZI _ _ u (hnt.2.st hu))) ?_;refine Nf ?_;exact out1 rfl rfl (Af (by rw[e1,Jj (by omega)]))
 have hcode:=hC (nth G.nts.l i).lk (by omega) (by omega);have hcd:SlI w (nth G.cds.l (nth G.nts.l i).lk).v (nth G.cds.l (nth G.nts.l i).lk).l:=(kcd.at (i:=(nth G.nts.l i).lk) (by omega) (by omega):SlT cInt w _).ints;refine Dg mixed ?_
 iterate 9 refine Ad ?_
 refine Dk 5 (Cb rfl rfl Jeh (fun u hu=>Jam _ _ _ _ _ _ u (hnt.2.st hu) (hcd.st hu))) ?_;refine Nf ?_
 iterate 2 refine Aa ?_
 exact out1 rfl rfl (Af (by rw[e1,GR (by omega),MV hcode];by_cases hz:DP (nth G.lks.l (nth G.nts.l i).lk).w (nth G.lks.l (nth G.nts.l i).lk).s (nth G.nts.l i).cl=0<;>simp[hz]))
theorem Zz (G:Game) (w:World) (hG:GameOk w G) (hn:NmG G) (hl:G.cds.l.length=G.lks.l.length) (hC:∀j:Int,0<=j->j<G.lks.l.length->Ep (nth G.lks.l j).w (nth G.lks.l j).s (nth G.cds.l j).l=0) (i:Int) (h0:0<=i) (h1:i<G.nts.l.length):
  Calls prog 99 #[.agg (gcl G).toArray,.int .i64 i] w (RetB w (.bool (ntG G i))):=by
 have klk:=hG.lks;have llk:=hG.lks.le;have kcd:=hG.cds;have lcd:=hG.cds.le;have knt:=hG.nts;have lnt:=hG.nts.le;have kpl:=hG.rm.pls;have lpl:=hG.rm.pls.le;have kth:=hG.rm.ths;have lth:=hG.rm.ths.le;have kac:=hG.rm.acs;have lac:=hG.rm.acs.le;have hnt:cNote.ok w (nth G.nts.l i):=knt.at h0 h1;have hnm:=(hn.nt _ (Ai h0 h1)).1;refine Eg func99 ?_;refine Wr 1 fun b2 hb2=>?_;refine Nf ?_
 iterate 3 refine Aa ?_
 refine Wq 0 zv91 fun b5 hb5=>?_;refine Wv 0 0 ?_;refine Nf ?_;refine CS.loopM (σ:=Int) (rsL [4,4,12,25]) (fun s=>[(6,.int .i64 s)]) (fun _=>_) (fun s=>0<=s/\s<=i/\∀j:Int,0<=j->j<s->seq (nth G.nts.l j).nm (nth G.nts.l i).nm=false) (fun s=>(i-s).toNat) 0 (fun _ _=>rfl) rfl rfl ⟨by omega,by omega,fun j _ _=>by omega⟩ ?_;intro a t hs;obtain⟨ha1,ha2,ha3⟩:=hs;refine Nf ?_;refine Cm ?_ ?_<;>intro hc1
 ·refine Dg mixed ?_
  iterate 4 refine Ad ?_
  refine Dk 0 (Ah rfl rfl) ?_;refine Nf ?_;refine Cm ?_ ?_<;>intro hc2
  ·exact out1 rfl rfl (Af (by rw[show ntG G i=false by unfold ntG newB;rw[Dx ha1 hc1 (by omega) hc2];rfl]))
  refine Aa ?_
  exact QS.head (a+1) rfl rfl ⟨⟨by omega,by omega,fun j h0 h1=>by
     rcases(show j<a\/j=a by omega)with h|h
     ·exact ha3 j h0 h
     rw[h];exact hc2⟩,by omega⟩
 refine Aa ?_;refine Wk 2 (Cb rfl rfl LF (fun u hu=>HU _ u (by omega))) ?_
 iterate 7 refine Aa ?_
 refine Wf 0 rfl rfl (fun hg=>Cb rfl (ec_ (eg_ hg rfl) (ec_ rfl (ec_ (eg_ hg rfl) en_))) Uf (fun u hu=>MN _ _ _ u)) ?_
 iterate 8 refine Aa ?_
 refine Wf 0 rfl rfl (fun hg=>Cb rfl (ec_ (eg_ hg rfl) (ec_ rfl (ec_ (eg_ hg rfl) en_))) Uf (fun u hu=>MN _ _ _ u)) ?_
 iterate 2 refine Aa ?_
 refine Cm ?_ ?_<;>intro hc3
 ·exact out1 rfl rfl (Af (by rw[show ntG G i=false by(unfold ntG placeB;grind)]))
 have hnb:newB NoteD.nm G.nts.l i=true:=by unfold newB;rw[D8 fun j a b=>ha3 j a (by omega)];rfl
 have e1:ntG G i=P8 G (nth G.nts.l i):=by(unfold ntG placeB;grind)
 refine Aa ?_;refine Cm ?_ ?_<;>intro hc4
 ·refine Aa ?_;refine Wk 1 (Cb rfl rfl Jb4 (fun u hu=>YV _ _ u (hnt.2.st hu))) ?_;refine Nf ?_;exact out1 rfl rfl (Af (by rw[e1,Jj hc4]))
 have hcode:=hC (nth G.nts.l i).lk (by omega) (by omega);have hcd:SlI w (nth G.cds.l (nth G.nts.l i).lk).v (nth G.cds.l (nth G.nts.l i).lk).l:=(kcd.at (i:=(nth G.nts.l i).lk) (by omega) (by omega):SlT cInt w _).ints;refine Dg mixed ?_
 iterate 5 refine Ad ?_
 refine Dk 2 (Cb rfl rfl Jcr (fun u hu=>LR _ _ _ _ u (hnt.2.st hu))) ?_
 iterate 8 refine Ad ?_
 refine Dt 0 rfl rfl (fun hg=>Cb rfl (ec_ (eg_ hg rfl) (ec_ (eg_ hg rfl) en_)) Jfl (fun u hu=>Jfb _ _ _ _ _ _ u (Rh (of_decide_eq_true hg) hcode) (hnt.2.st hu) (hcd.st hu))) ?_;refine Ad ?_;exact out1 rfl rfl (Af (by rw[e1,GR hc4]))
theorem Je (G:Game) (w:World) (hG:GameOk w G) (g:Sl ByteArray) (hW:GOk w g) (hn:NmG G):
  Calls prog 32 #[.agg (gcl G).toArray] w (RetB w (.int .i64 (Bo G.p))):=by
 have klk:=hG.lks;have llk:=hG.lks.le;have kcd:=hG.cds;have lcd:=hG.cds.le;have knt:=hG.nts;have lnt:=hG.nts.le;have kpl:=hG.rm.pls;have lpl:=hG.rm.pls.le;have kth:=hG.rm.ths;have lth:=hG.rm.ths.le;have kac:=hG.rm.acs;have lac:=hG.rm.acs.le;refine Eg func32 ?_;refine Wr 1 fun b1 hb1=>?_;refine Nf ?_;refine Aa ?_;refine Wk 1 (Cb rfl rfl U2 (fun u hu=>IX G.rm u (hG.rm.st hu) g (hW.st hu) hn.rm)) ?_;refine Nf ?_;refine Cm ?_ ?_<;>intro hc1
 ·exact out1 rfl rfl (Af (by rw[EU,Bu rfl hc1]))
 have e1:Bo G.p=gck1 G.p:=by rw[EU,Bx hc1]
 iterate 7 refine Aa ?_
 refine Cm ?_ ?_<;>intro hc2
 ·exact out1 rfl rfl (Af (by rw[e1,LP,if_pos (by simp only[Bool.or_eq_true,decide_eq_true_eq];omega)]))
 have e2:Bo G.p=gck2 G.p:=by rw[e1,LP,if_neg (by simp only[Bool.or_eq_true,decide_eq_true_eq];omega)]
 iterate 2 refine Aa ?_
 refine CS.loopM (σ:=Int) (rsL [2,2,5,6,33,41]) (fun s=>[(32,.int .i64 s)]) (fun _=>_) (fun s=>0<=s/\s<=G.lks.l.length/\∀j:Int,0<=j->j<s->lkO G.p j=0) (fun s=>(G.lks.l.length-s).toNat) 0 (fun _ _=>rfl) rfl rfl ⟨by omega,by omega,fun j _ _=>by omega⟩ ?_;intro a t hs;obtain⟨ha1,ha2,ha3⟩:=hs;refine Nf ?_;refine Cm ?_ ?_<;>intro hc3
 ·iterate 2 refine Aa ?_
  refine Wq 0 zv85 fun b5 hb5=>?_;refine Wv 0 0 ?_;refine Nf ?_;refine Aa ?_;refine Wk 1 (Cb rfl rfl Uk (fun u hu=>H5 _ _ u)) ?_;refine Nf ?_;refine Cm ?_ ?_<;>intro hc4
  ·exact out1 rfl rfl (Af (by rw[e2,Lu,Bu (Av (f:=lkO G.p) ha1 (by omega) ha3 hc4) hc4];rfl))
  refine Aa ?_;refine QS.sel [1] rfl ?_
  exact QS.head (a+1) rfl rfl ⟨⟨by omega,by omega,fun j h0 h1=>by
     rcases(show j<a\/j=a by omega)with h|h
     ·exact ha3 j h0 h
     rw[h];exact hc4⟩,by omega⟩
 have e3:Bo G.p=gck3 G.p:=by rw[e2,Lu,Bx (Ay fun j a b=>ha3 j a (by omega))]
 iterate 4 refine Aa ?_
 refine Cm ?_ ?_<;>intro hc5
 ·exact out1 rfl rfl (Af (by rw[e3,Lb,if_neg (by omega)]))
 have hl:G.cds.l.length=G.lks.l.length:=by omega
 have e4:Bo G.p=or0 (A7 (cdO G.p) G.lks.l.length) (gck4 G.p):=by rw[e3,Lb,if_pos hl]
 iterate 2 refine Aa ?_
 refine CS.loopM (σ:=Int) (rsL [2,2,7,8,53,65]) (fun s=>[(52,.int .i64 s)]) (fun _=>_) (fun s=>0<=s/\s<=G.lks.l.length/\∀j:Int,0<=j->j<s->cdO G.p j=0) (fun s=>(G.lks.l.length-s).toNat) 0 (fun _ _=>rfl) rfl rfl ⟨by omega,by omega,fun j _ _=>by omega⟩ ?_;intro b t hs;obtain⟨hb1,hb2,hb3⟩:=hs;refine Nf ?_;refine Cm ?_ ?_<;>intro hc6
 ·have hcd:SlI w (nth G.cds.l b).v (nth G.cds.l b).l:=(kcd.at hb1 (by omega):SlT cInt w _).ints
  iterate 2 refine Aa ?_
  refine Wq 1 zv85 fun b8 hb8=>?_;refine Wv 0 0 ?_;refine Nf ?_;refine Dg mixed ?_
  iterate 4 refine Ad ?_
  refine Dk 1 (Cb rfl rfl Jdi (fun u hu=>H2 _ _ _ _ u (hcd.st hu))) ?_;refine Nf ?_;refine Cm ?_ ?_<;>intro hc7
  ·exact out1 rfl rfl (Af (by
      have hE:cdO G.p b=12:=by rw[NG,if_neg hc7]
      rw[e4,Bu ((Av (f:=cdO G.p) hb1 (by omega) hb3 (by rw[hE];decide)).trans hE) (by decide)]))
  refine Aa ?_;refine QS.sel [1] rfl ?_
  exact QS.head (b+1) rfl rfl ⟨⟨by omega,by omega,fun j h0 h1=>by
     rcases(show j<b\/j=b by omega)with h|h
     ·exact hb3 j h0 h
     rw[h];exact(by rw[NG,if_pos hc7])⟩,by omega⟩
 have e5:Bo G.p=gck4 G.p:=by rw[e4,Bx (Ay fun j a b=>hb3 j a (by omega))]
 have hC:∀j:Int,0<=j->j<G.lks.l.length->Ep (nth G.lks.l j).w (nth G.lks.l j).s (nth G.cds.l j).l=0:=fun j a b=>by
    have q:=hb3 j a (by omega);rw[NG]at q;split at q
    ·assumption
    cases q
 iterate 2 refine Aa ?_
 refine CS.loopM (σ:=Int) (rsL [2,2,10,10,71,80]) (fun s=>[(70,.int .i64 s)]) (fun _=>_) (fun s=>0<=s/\s<=G.rm.acs.l.length/\∀j:Int,0<=j->j<s->alO G.p j=0) (fun s=>(G.rm.acs.l.length-s).toNat) 0 (fun _ _=>rfl) rfl rfl ⟨by omega,by omega,fun j _ _=>by omega⟩ ?_;intro k t hs;obtain⟨hk1,hk2,hk3⟩:=hs;refine Nf ?_;refine Cm ?_ ?_<;>intro hc8
 ·have hak:cAct.ok w (nth G.rm.acs.l k):=kac.at hk1 (by omega)
  iterate 2 refine Aa ?_
  refine Wq 0 E3 fun b10 hb10=>?_;refine Wv 0 0 ?_;refine Nf ?_
  iterate 3 refine Aa ?_
  refine Cm ?_ ?_<;>intro hc9
  ·exact out1 rfl rfl (Af (by
      have hE:alO G.p k=26:=by rw[Tw,if_neg (by omega)]
      rw[e5,Ms,Bu ((Av (f:=alO G.p) hk1 (by omega) hk3 (by rw[hE];decide)).trans hE) (by decide)]))
  refine Aa ?_;refine QS.sel [1] rfl ?_
  exact QS.head (k+1) rfl rfl ⟨⟨by omega,by omega,fun j h0 h1=>by
     rcases(show j<k\/j=k by omega)with h|h
     ·exact hk3 j h0 h
     rw[h];exact(by rw[Tw,if_pos (by omega)])⟩,by omega⟩
 have e6:Bo G.p=gck5 G.p:=by rw[e5,Ms,Bx (Ay fun j a b=>hk3 j a (by omega))]
 iterate 2 refine Aa ?_
 refine CS.loopM (σ:=Int) (rsL [2,2,11,12,85,100]) (fun s=>[(84,.int .i64 s)]) (fun _=>_) (fun s=>0<=s/\s<=G.nts.l.length/\∀j:Int,0<=j->j<s->ntO G.p j=0) (fun s=>(G.nts.l.length-s).toNat) 0 (fun _ _=>rfl) rfl rfl ⟨by omega,by omega,fun j _ _=>by omega⟩ ?_;intro m t hs;obtain⟨hm1,hm2,hm3⟩:=hs;refine Nf ?_;refine Cm ?_ ?_<;>intro hc10
 ·have hnt:cNote.ok w (nth G.nts.l m):=knt.at hm1 (by omega);have hwh:SlT cLit w (nth G.nts.l m).wh:=hnt.1
  iterate 2 refine Aa ?_
  refine Wq 1 zv91 fun b12 hb12=>?_;refine Wv 0 0 ?_;refine Nf ?_
  iterate 2 refine Aa ?_
  refine Wk 1 (Cb rfl rfl Jgy (fun u hu=>ZT G u (hG.st hu) hn hl hC _ hm1 (by omega))) ?_;refine Nf ?_;refine Cm ?_ ?_<;>intro hc11
  ·exact out1 rfl rfl (Af (by
      have hE:ntO G.p m=40:=by rw[NK,if_neg (by rw[hc11];decide),Bu rfl (by decide)]
      rw[e6,Is,Bu ((Av (f:=ntO G.p) hm1 (by omega) hm3 (by rw[hE];decide)).trans hE) (by decide)]))
  iterate 2 refine Aa ?_
  refine Wk 1 (Cb rfl rfl Jhp (fun u hu=>WA G.rm u (hG.rm.st hu) _ (hwh.st hu))) ?_;refine Nf ?_;refine Cm ?_ ?_<;>intro hc12
  ·exact out1 rfl rfl (Af (by
      have hE:ntO G.p m=25:=by rw[NK,if_pos hc11,Bx rfl,whO,if_neg (by rw[hc12];decide)]
      rw[e6,Is,Bu ((Av (f:=ntO G.p) hm1 (by omega) hm3 (by rw[hE];decide)).trans hE) (by decide)]))
  refine Aa ?_;refine QS.sel [1] rfl ?_
  exact QS.head (m+1) rfl rfl ⟨⟨by omega,by omega,fun j h0 h1=>by
     rcases(show j<m\/j=m by omega)with h|h
     ·exact hm3 j h0 h
     rw[h];exact(by rw[NK,if_pos hc11,Bx rfl,whO,if_pos hc12])⟩,by omega⟩
 have e7:Bo G.p=gck6 G.p:=by rw[e6,Is,Bx (Ay fun j a b=>hm3 j a (by omega))]
 refine Aa ?_;refine Wk 1 (Cb rfl rfl Hm (fun u hu=>BF _ _ _ u)) ?_;refine Nf ?_;refine Cm ?_ ?_<;>intro hc13
 ·exact out1 rfl rfl (Af (by rw[e7,L9,if_neg (by simp only[Bool.and_eq_true,decide_eq_true_eq];omega)]))
 exact out1 rfl rfl (Af (by rw[e7,L9,if_pos (by simp only[Bool.and_eq_true,decide_eq_true_eq];omega)]))
theorem QK (G:Game) (w:World) (hG:GameOk w G) (hn:NmG G):
  Calls prog 36 #[.agg (gcl G).toArray] w (RetB w (.int .i64 (Bo G.p))):=by
 have klk:=hG.lks;have llk:=hG.lks.le;have kcd:=hG.cds;have lcd:=hG.cds.le;have knt:=hG.nts;have lnt:=hG.nts.le;have kpl:=hG.rm.pls;have lpl:=hG.rm.pls.le;have kth:=hG.rm.ths;have lth:=hG.rm.ths.le;have kac:=hG.rm.acs;have lac:=hG.rm.acs.le;refine Eg func36 ?_;refine Wr 1 fun b1 hb1=>?_;refine Nf ?_;refine Aa ?_;refine Wk 1 (Cb rfl rfl Jb9 (fun u hu=>K9 G.rm u (hG.rm.st hu) hn.rm)) ?_;refine Nf ?_;refine Cm ?_ ?_<;>intro hc1
 ·exact out1 rfl rfl (Af (by rw[EU,Bu rfl hc1]))
 have e1:Bo G.p=gck1 G.p:=by rw[EU,Bx hc1]
 iterate 7 refine Aa ?_
 refine Cm ?_ ?_<;>intro hc2
 ·exact out1 rfl rfl (Af (by rw[e1,LP,if_pos (by simp only[Bool.or_eq_true,decide_eq_true_eq];omega)]))
 have e2:Bo G.p=gck2 G.p:=by rw[e1,LP,if_neg (by simp only[Bool.or_eq_true,decide_eq_true_eq];omega)]
 refine CS.loopM (σ:=Int) (rsL [2,2,5,5,25,40]) (fun s=>[(4,.int .i64 s)]) (fun _=>_) (fun s=>0<=s/\s<=G.lks.l.length/\∀j:Int,0<=j->j<s->lkO G.p j=0) (fun s=>(G.lks.l.length-s).toNat) 0 (fun _ _=>rfl) rfl rfl ⟨by omega,by omega,fun j _ _=>by omega⟩ ?_;intro a t hs;obtain⟨ha1,ha2,ha3⟩:=hs;refine Nf ?_
 iterate 2 refine Aa ?_
 refine Cm ?_ ?_<;>intro hc3
 ·iterate 3 refine Aa ?_
  refine Wk 1 (Cb rfl rfl WM (fun u hu=>HB _ _ u)) ?_;refine Nf ?_;refine Cm ?_ ?_<;>intro hc4
  ·exact out1 rfl rfl (Af (by rw[e2,Lu,Bu (Av (f:=lkO G.p) ha1 (by omega) ha3 hc4) hc4];rfl))
  refine Aa ?_
  exact QS.head (a+1) rfl rfl ⟨⟨by omega,by omega,fun j h0 h1=>by
     rcases(show j<a\/j=a by omega)with h|h
     ·exact ha3 j h0 h
     rw[h];exact hc4⟩,by omega⟩
 have e3:Bo G.p=gck3 G.p:=by rw[e2,Lu,Bx (Ay fun j a b=>ha3 j a (by omega))]
 iterate 4 refine Aa ?_
 refine Cm ?_ ?_<;>intro hc5
 ·exact out1 rfl rfl (Af (by rw[e3,Lb,if_neg (by omega)]))
 have hl:G.cds.l.length=G.lks.l.length:=by omega
 have e4:Bo G.p=or0 (A7 (cdO G.p) G.lks.l.length) (gck4 G.p):=by rw[e3,Lb,if_pos hl]
 refine CS.loopM (σ:=Int) (rsL [2,2,48,66]) (fun s=>[(6,.int .i64 s)]) (fun _=>_) (fun s=>0<=s/\s<=G.cds.l.length/\∀j:Int,0<=j->j<s->cdO G.p j=0) (fun s=>(G.cds.l.length-s).toNat) 0 (fun _ _=>rfl) rfl rfl ⟨by omega,by omega,fun j _ _=>by omega⟩ ?_;intro b t hs;obtain⟨hb1,hb2,hb3⟩:=hs;refine Nf ?_
 iterate 2 refine Aa ?_
 refine Cm ?_ ?_<;>intro hc6
 ·have hcd:SlI w (nth G.cds.l b).v (nth G.cds.l b).l:=(kcd.at hb1 (by omega):SlT cInt w _).ints;refine Dg mixed ?_
  iterate 6 refine Ad ?_
  refine Dk 1 (Cb rfl rfl Jhj (fun u hu=>L6 _ _ _ _ u (hcd.st hu))) ?_;refine Nf ?_;refine Cm ?_ ?_<;>intro hc7
  ·exact out1 rfl rfl (Af (by
      have hE:cdO G.p b=12:=by rw[NG,if_neg hc7]
      rw[e4,Bu ((Av (f:=cdO G.p) hb1 (by omega) hb3 (by rw[hE];decide)).trans hE) (by decide)]))
  refine Aa ?_
  exact QS.head (b+1) rfl rfl ⟨⟨by omega,by omega,fun j h0 h1=>by
     rcases(show j<b\/j=b by omega)with h|h
     ·exact hb3 j h0 h
     rw[h];exact(by rw[NG,if_pos hc7])⟩,by omega⟩
 have e5:Bo G.p=gck4 G.p:=by rw[e4,Bx (Ay fun j a b=>hb3 j a (by omega))]
 have hC:∀j:Int,0<=j->j<G.lks.l.length->Ep (nth G.lks.l j).w (nth G.lks.l j).s (nth G.cds.l j).l=0:=fun j a b=>by
    have q:=hb3 j a (by omega);rw[NG]at q;split at q
    ·assumption
    cases q
 refine CS.loopM (σ:=Int) (rsL [2,2,67,85]) (fun s=>[(7,.int .i64 s)]) (fun _=>_) (fun s=>0<=s/\s<=G.rm.acs.l.length/\∀j:Int,0<=j->j<s->alO G.p j=0) (fun s=>(G.rm.acs.l.length-s).toNat) 0 (fun _ _=>rfl) rfl rfl ⟨by omega,by omega,fun j _ _=>by omega⟩ ?_;intro k t hs;obtain⟨hk1,hk2,hk3⟩:=hs;refine Nf ?_
 iterate 2 refine Aa ?_
 refine Cm ?_ ?_<;>intro hc8
 ·have hak:cAct.ok w (nth G.rm.acs.l k):=kac.at hk1 (by omega);refine Dg mixed ?_
  iterate 5 refine Ad ?_
  refine Cm ?_ ?_<;>intro hc9
  ·exact out1 rfl rfl (Af (by
      have hE:alO G.p k=26:=by rw[Tw,if_neg (by omega)]
      rw[e5,Ms,Bu ((Av (f:=alO G.p) hk1 (by omega) hk3 (by rw[hE];decide)).trans hE) (by decide)]))
  refine Aa ?_
  exact QS.head (k+1) rfl rfl ⟨⟨by omega,by omega,fun j h0 h1=>by
     rcases(show j<k\/j=k by omega)with h|h
     ·exact hk3 j h0 h
     rw[h];exact(by rw[Tw,if_pos (by omega)])⟩,by omega⟩
 have e6:Bo G.p=gck5 G.p:=by rw[e5,Ms,Bx (Ay fun j a b=>hk3 j a (by omega))]
 refine CS.loopM (σ:=Int) (rsL [2,2,86,106]) (fun s=>[(8,.int .i64 s)]) (fun _=>_) (fun s=>0<=s/\s<=G.nts.l.length/\∀j:Int,0<=j->j<s->ntO G.p j=0) (fun s=>(G.nts.l.length-s).toNat) 0 (fun _ _=>rfl) rfl rfl ⟨by omega,by omega,fun j _ _=>by omega⟩ ?_;intro m t hs;obtain⟨hm1,hm2,hm3⟩:=hs;refine Nf ?_
 iterate 2 refine Aa ?_
 refine Cm ?_ ?_<;>intro hc10
 ·have hnt:cNote.ok w (nth G.nts.l m):=knt.at hm1 (by omega);have hwh:SlT cLit w (nth G.nts.l m).wh:=hnt.1;refine Aa ?_;refine Wk 1 (Cb rfl rfl Jig (fun u hu=>Zz G u (hG.st hu) hn hl hC _ hm1 (by omega))) ?_;refine Nf ?_;refine Cm ?_ ?_<;>intro hc11
  ·exact out1 rfl rfl (Af (by
      have hE:ntO G.p m=40:=by rw[NK,if_neg (by rw[hc11];decide),Bu rfl (by decide)]
      rw[e6,Is,Bu ((Av (f:=ntO G.p) hm1 (by omega) hm3 (by rw[hE];decide)).trans hE) (by decide)]))
  refine Dg mixed ?_
  iterate 4 refine Ad ?_
  refine Dk 1 (Cb rfl rfl JJ (fun u hu=>ER G.rm u (hG.rm.st hu) _ (hwh.st hu))) ?_;refine Nf ?_;refine Cm ?_ ?_<;>intro hc12
  ·exact out1 rfl rfl (Af (by
      have hE:ntO G.p m=25:=by rw[NK,if_pos hc11,Bx rfl,whO,if_neg (by rw[hc12];decide)]
      rw[e6,Is,Bu ((Av (f:=ntO G.p) hm1 (by omega) hm3 (by rw[hE];decide)).trans hE) (by decide)]))
  refine Aa ?_
  exact QS.head (m+1) rfl rfl ⟨⟨by omega,by omega,fun j h0 h1=>by
     rcases(show j<m\/j=m by omega)with h|h
     ·exact hm3 j h0 h
     rw[h];exact(by rw[NK,if_pos hc11,Bx rfl,whO,if_pos hc12])⟩,by omega⟩
 have e7:Bo G.p=gck6 G.p:=by rw[e6,Is,Bx (Ay fun j a b=>hm3 j a (by omega))]
 refine Aa ?_;refine Wk 1 (Cb rfl rfl Uf (fun u hu=>MN _ _ _ u)) ?_;refine Nf ?_;refine Cm ?_ ?_<;>intro hc13
 ·exact out1 rfl rfl (Af (by rw[e7,L9,if_neg (by simp only[Bool.and_eq_true,decide_eq_true_eq];omega)]))
 exact out1 rfl rfl (Af (by rw[e7,L9,if_pos (by simp only[Bool.and_eq_true,decide_eq_true_eq];omega)]))
theorem Mn (G:Game) (w:World) (hG:GameOk w G) (g:Sl ByteArray) (hW:GOk w g) (hn:NearG G):Calls prog 32 #[.agg (gcl G).toArray] w (RetB w (.int .i64 (Bo G.p))):=Je G w hG g hW hn.nm
end Go.Proofs.YtllebkdchemabaaGreatDoor
