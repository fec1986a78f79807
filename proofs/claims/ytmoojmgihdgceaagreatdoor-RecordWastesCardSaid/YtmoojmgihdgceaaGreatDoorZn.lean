/- Merged texts of this proof (walks and plain laws), printed by a program of the prover. -/
import Derived.Test.YtmoojmgihdgceaaGreatDoorZb
import Derived.Test.YtmoojmgihdgceaaGreatDoorZd
import Derived.Test.YtmoojmgihdgceaaGreatDoorZi
import Derived.Test.YtmoojmgihdgceaaGreatDoorZk
import Derived.Test.YtmoojmgihdgceaaGreatDoorZg
set_option maxHeartbeats 8000000
namespace Go.Proofs.YtmoojmgihdgceaaGreatDoor
open Go.RowKit Go.Proofs Tryz
set_option maxRecDepth 100000
set_option linter.unusedVariables false
set_option linter.unusedSimpArgs false
theorem Jqp (n lo hi:Int) (w:World):
  Calls prog 50 #[.int .i64 n,.int .i64 lo,.int .i64 hi] w (RetB w (.bool (decide (lo≤n)&&decide (n≤hi)))):=by
 refine En func50 ?_;refine Nz 1 ?_;refine Nx 4 ?_;refine Wj 0 ?_;refine Wj 0 ?_;refine Wj 0 ?_;refine Wk 1 Pa ?_;exact Wd (Qc (Cr (out1 rfl rfl (Jab (by simp)))))
theorem Jdc (n lo hi:Int) (w:World):
  Calls prog 142 #[.int .i64 n,.int .i64 lo,.int .i64 hi] w (RetB w (.bool (decide (lo≤n)&&decide (n≤hi)))):=by
 refine En func142 ?_;refine Nz 1 ?_;refine Nx 4 ?_;refine Wj 0 ?_;refine Wj 0 ?_;refine Wj 0 ?_;refine Wk 1 Pa ?_;exact Wd (Qc (Cr (out1 rfl rfl (Jab (by simp)))))
theorem J8c (c:Clue) (gv:Value) (w:World) (h1:SlI w gv c.g):
  Calls prog 81 #[.agg #[.int .i64 c.k,.int .i64 c.a,.int .i64 c.b,.int .i64 c.n,.int .i64 c.m,gv,.bool c.nt]] w (RetB w (.bool (Jqb c))):=by
 refine En func81 ?_;refine Nz 0 ?_;refine Wr 1 fun b1 hb1=>?_;refine Nx 1 ?_;refine Wk 2 (Ba 0) ?_;refine Wj 0 ?_;refine Wj 0 ?_;refine Wj 0 ?_;refine Wk 1 Pa ?_;refine Wj 0 ?_;refine Wj 0 ?_;refine Wj 0 ?_;refine Wk 1 Pa ?_;refine Wj 0 ?_;refine Wj 0 ?_;refine Wj 0 ?_;refine Wk 1 Pa ?_;refine Wj 0 ?_;refine Wj 0 ?_;refine Wj 0 ?_;refine Wk 1 Pa ?_;refine Wj 0 ?_;refine Wj 0 ?_;refine Wj 0 ?_;refine Wj 0 ?_;refine Wk 1 Pa ?_;refine Wj 0 ?_;refine Wj 0 ?_;refine Wj 0 ?_;refine Wk 1 Pa ?_;exact Wd (Qc (Cr (out1 rfl rfl (Jab (by unfold Jqb;simp only[Bool.and_assoc])))))
theorem J6w (c:Clue) (gv:Value) (w:World) (h1:SlI w gv c.g):
  Calls prog 186 #[.agg #[.int .i64 c.k,.int .i64 c.a,.int .i64 c.b,.int .i64 c.n,.int .i64 c.m,gv,.bool c.nt]] w (RetB w (.bool (Jqb c))):=by
 refine En func186 ?_;refine Nz 0 ?_;refine Wr 1 fun b1 hb1=>?_;refine Nx 1 ?_;refine Wk 2 (Ba 0) ?_;refine Wj 0 ?_;refine Wj 0 ?_;refine Wj 0 ?_;refine Wk 1 Pa ?_;refine Wj 0 ?_;refine Wj 0 ?_;refine Wj 0 ?_;refine Wk 1 Pa ?_;refine Wj 0 ?_;refine Wj 0 ?_;refine Wj 0 ?_;refine Wk 1 Pa ?_;refine Wj 0 ?_;refine Wj 0 ?_;refine Wj 0 ?_;refine Wk 1 Pa ?_;refine Wj 0 ?_;refine Wj 0 ?_;refine Wj 0 ?_;refine Wj 0 ?_;refine Wk 1 Pa ?_;refine Wj 0 ?_;refine Wj 0 ?_;refine Wj 0 ?_;refine Wk 1 Pa ?_;exact Wd (Qc (Cr (out1 rfl rfl (Jab (by unfold Jqb;simp only[Bool.and_assoc])))))
theorem Je7 {t:ByteArray} {x:ByteArray} (hx:x∈wordL) (h:seq t x=true):kwB t=true:=by
 unfold kwB;rw[show(wordL.any fun y=>seq y t)=true from List.any_eq_true.2 ⟨x,hx,by rw[Jmk];exact h⟩];rfl
theorem J76 (tx:ByteArray) (w:World) (hm:(tx.size:Int)≤9223372036854775806):
  Calls prog 185 #[.string tx] w (RetB w (.bool (Jcj tx))):=by
 refine En func185 ?_;refine Nz 1 ?_;refine Nv 1 ?_;refine Nu ?_;refine CS.cut (σ:=Bool) [6,7,8,9,10,11,12,13,14,15,16] (fun s=>[(5,.bool s)]) (fun s=>[]) (fun s=>s=kwB tx) (fun _ _=>rfl) ?_ ?_
 ·refine Nz 0 ?_;refine Wk 1 (Ja5 rfl rfl) ?_;refine Wp ?_ ?_<;>intro hc1
  ·exact Ck (QS.head (seq tx ⟨#[]⟩) rfl rfl (show seq tx ⟨#[]⟩=kwB tx by unfold kwB;rw[hc1];simp))
  refine Nz 0 ?_;refine Wk 1 (Ja5 rfl rfl) ?_;refine Wp ?_ ?_<;>intro hc2
  ·exact Ck (QS.head (seq tx ⟨#[97,116]⟩) rfl rfl (hc2.trans (Je7 (x:=⟨#[97,116]⟩) (by simp[wordL]) hc2).symm))
  refine Nz 0 ?_;refine Wk 1 (Ja5 rfl rfl) ?_;refine Wp ?_ ?_<;>intro hc3
  ·exact Ck (QS.head (seq tx ⟨#[115,116,97,116,101,115]⟩) rfl rfl (hc3.trans (Je7 (x:=⟨#[115,116,97,116,101,115]⟩) (by simp[wordL]) hc3).symm))
  refine Nz 0 ?_;refine Wk 1 (Ja5 rfl rfl) ?_;refine Wp ?_ ?_<;>intro hc4
  ·exact Ck (QS.head (seq tx ⟨#[115,116,97,114,116]⟩) rfl rfl (hc4.trans (Je7 (x:=⟨#[115,116,97,114,116]⟩) (by simp[wordL]) hc4).symm))
  refine Nz 0 ?_;refine Wk 1 (Ja5 rfl rfl) ?_;refine Wp ?_ ?_<;>intro hc5
  ·exact Ck (QS.head (seq tx ⟨#[103,111,110,101]⟩) rfl rfl (hc5.trans (Je7 (x:=⟨#[103,111,110,101]⟩) (by simp[wordL]) hc5).symm))
  refine Nz 0 ?_;refine Wk 1 (Ja5 rfl rfl) ?_;refine Wp ?_ ?_<;>intro hc6
  ·exact Ck (QS.head (seq tx ⟨#[105,102]⟩) rfl rfl (hc6.trans (Je7 (x:=⟨#[105,102]⟩) (by simp[wordL]) hc6).symm))
  refine Nz 0 ?_;refine Wk 1 (Ja5 rfl rfl) ?_;refine Wp ?_ ?_<;>intro hc7
  ·exact Ck (QS.head (seq tx ⟨#[108,111,99,107]⟩) rfl rfl (hc7.trans (Je7 (x:=⟨#[108,111,99,107]⟩) (by simp[wordL]) hc7).symm))
  refine Nz 0 ?_;refine Wk 1 (Ja5 rfl rfl) ?_;refine Wp ?_ ?_<;>intro hc8
  ·exact Ck (QS.head (seq tx ⟨#[119,105,116,104]⟩) rfl rfl (hc8.trans (Je7 (x:=⟨#[119,105,116,104]⟩) (by simp[wordL]) hc8).symm))
  refine Nz 0 ?_;refine Wk 1 (Ja5 rfl rfl) ?_;refine Wp ?_ ?_<;>intro hc9
  ·exact Ck (QS.head (seq tx ⟨#[115,101,116,115]⟩) rfl rfl (hc9.trans (Je7 (x:=⟨#[115,101,116,115]⟩) (by simp[wordL]) hc9).symm))
  refine Nz 0 ?_;refine Wk 1 (Ja5 rfl rfl) ?_;refine Wp ?_ ?_<;>intro hc10
  ·exact Ck (QS.head (seq tx ⟨#[115,112,101,110,100,115]⟩) rfl rfl (hc10.trans (Je7 (x:=⟨#[115,112,101,110,100,115]⟩) (by simp[wordL]) hc10).symm))
  refine Ny 0 ?_;refine Wk 1 (Ja5 rfl rfl) ?_;exact Wd (QS.head (seq tx ⟨#[98,114,105,110,103,115]⟩) rfl rfl (show seq tx ⟨#[98,114,105,110,103,115]⟩=kwB tx by unfold kwB;simp only[wordL,List.any_cons,List.any_nil,Jmk _ tx,hc1,hc2,hc3,hc4,hc5,hc6,hc7,hc8,hc9,hc10,Bool.false_or,Bool.or_false]))
 intro s t hs;refine CS.cond rfl (fun hc11=>?_) (fun hc11=>?_)<;>(try simp only[bq]at hc11)
 ·refine Nz 1 ?_;exact Wd (Qc (Cr (Qs (Qr (out1 rfl rfl (Jab (by rw[Jiq,←hs,hc11];simp)))))))
 refine Ck (Qb (Qc (Cs (Nz 1 ?_))));refine Wk 1 (Jbf underlying9 rfl) ?_;refine Nu ?_;refine CS.loopM (σ:=Int) (rsL [2,3,20,32]) (fun s=>[(19,.int .i64 s)]) (fun _=>_) (fun s=>0≤s∧s≤tx.size∧∀j:Int,0≤j→j<s→97≤byt tx j∧byt tx j≤122) (fun s=>(tx.size-s).toNat) 0 (fun _ _=>rfl) rfl rfl ⟨by omega,by omega,fun j _ _=>by omega⟩ ?_;intro q t hs;obtain⟨hs1,hs2,hs3⟩:=hs;refine Nz 1 ?_;refine Wd (Qc (Cs (Cn ?_ ?_)))<;>intro hc12
 ·refine Ck (Qc (Cs (Ce (Nz 2 ?_))));refine Nx 2 ?_;refine Wk 2 (Jc6 underlying9 rfl rfl (by omega) (by omega)) ?_;refine We 0 ?_;refine We 0 ?_;refine Wf 0 rfl rfl (fun hg=>Jc6 underlying9 (eg_ hg rfl) (eg_ hg rfl) (by(try simp only[bq]at hg);omega) (by(try simp only[bq]at hg);omega)) ?_;refine We 0 ?_;refine Wk 0 Po ?_;refine Wp ?_ ?_<;>intro hc13
  ·refine Nz 1 ?_;exact Wd (Qc (Cr (Qs (Qr (Qr (Qs (Qr (out1 rfl rfl (Jab (by rw[Jiq,Jrm hs1 (by omega) (by omega)];rfl))))))))))
  refine Ck (Qb (Qc (Ny 0 ?_)));refine Wk 1 Za ?_;refine Wd ?_
  exact QS.head (q+1) rfl rfl ⟨⟨by omega,by omega,fun j h0 h1=>by
     rcases(show j<q∨j=q by omega)with h|h
     ·exact hs3 j h0 h
     rw[h];omega⟩,by omega⟩
 refine Cv (Qe (Qe (Qx (Qc (Nz 1 ?_)))));exact Wd (Qc (Cr (out1 rfl rfl (Jab (by rw[Jiq,←hs,hc11,Jme fun j h0 h1=>hs3 j h0 (by omega)];rfl)))))
theorem Jyb (r:Room) (w:World) (hr:RoomOk w r) (x:Lit) (b:Nat) (e:TypeId) (hb:BlkAt w b (rcl r) e):
  Calls prog 188 #[.agg #[.int .i64 x.t,.int .i64 x.s,.bool x.nt],.pointer (some ⟨b,0,none⟩)] w (RetB w (.bool (!putB r.ths.l x.t x.s))):=by
 have kpl:=hr.pls;have lpl:=hr.pls.le;have kth:=hr.ths;have lth:=hr.ths.le;have kpr:=hr.prs;have lpr:=hr.prs.le;have kwy:=hr.wys;have lwy:=hr.wys.le;have kac:=hr.acs;have lac:=hr.acs.le;have kau:=hr.aus;have lau:=hr.aus.le;have kgl:=hr.gl;have lgl:=hr.gl.le;refine En func188 ?_;refine Nz 0 ?_;refine Wr 1 fun b2 hb2=>?_;refine Wd (Qc (Cs (Dr mixed 1 ?_)));refine Dk 1 (Ba 0) ?_;refine Dk 0 Ga ?_;refine Dk 0 Nc ?_;refine Dk 0 Zb ?_;refine Dk 2 (Cb rfl rfl Jh6 (fun u hu=>Jdc _ _ _ u)) ?_;refine De 0 ?_;refine De 0 ?_;refine De 0 ?_;refine De 0 ?_;refine De 0 ?_;refine De 0 ?_;refine De 0 ?_;refine De 0 ?_;refine Df 0 rfl rfl (fun hg=>Uc 4 2) ?_;refine Df 0 rfl rfl (fun hg=>Jnq (eg_ hg rfl) rfl) ?_;refine Df 0 rfl rfl (fun hg=>Cb rfl (ec_ (eg_ hg rfl) (ec_ rfl (ec_ (eg_ hg rfl) en_))) Jh6 (fun u hu=>Jdc _ _ _ u)) ?_;refine De 0 ?_;refine Dk 1 Po ?_;exact Dd (Qc (Cr (out1 rfl rfl (Jab (by unfold putB;simp only[Bool.not_and])))))
theorem J3q (r:Room) (w:World) (hr:RoomOk w r) (c:Sl Lit) (hk:SlT cLit w c):
  Calls prog 141 #[.agg (rcl r).toArray,c.v] w (RetB w (.bool (Jfe r.ths.l c.l))):=by
 have lcs:=hk.le;refine En func141 ?_;refine Nz 0 ?_;refine Wr 1 fun b2 hb2=>?_;refine Nx 1 ?_;refine Wk 2 Nc ?_;refine Wj 0 ?_;refine Wt 0 rfl rfl (fun hg=>Jal rfl) ?_;refine Wt 0 rfl rfl (fun hg=>Cb rfl (ec_ (eg_ hg rfl) (ec_ (eg_ hg rfl) en_)) Jv9 (fun u hu=>Jf4 c u (hk.st hu) _ [.pointer (some ⟨b2,0,none⟩)] (fun x=>!putB r.ths.l x.t x.s) Kal (fun u2 h2 i h0 h1=>Jyb r u2 ((hr.st hu).ext h2) _ _ _ ((Jaw hu (j:=0) rfl).ext h2)))) ?_;refine Wj 0 ?_;refine Wk 1 Pa ?_;exact Wd (Qc (Cr (out1 rfl rfl (Jab (by unfold Jfe;rw[Bool.and_comm];congr 1;simp[List.all_eq_not_any_not])))))
theorem Jxa (s0:Sl NoteD) (w:World) (hk:SlT cNote w s0) (g:Nat) (lb:List Value) (p:NoteD→Bool) (hg:Ent prog g)
  (hp:∀u,Below w.heap.size w u→∀i:Int,0≤i→i<s0.l.length→Calls prog g ([.agg #[.string (nth s0.l i).nm,.int .i64 (nth s0.l i).pl,.int .i64 (nth s0.l i).lk,(nth s0.l i).wh.v,.int .i64 (nth s0.l i).cl.k,.int .i64 (nth s0.l i).cl.a,.int .i64 (nth s0.l i).cl.b,.int .i64 (nth s0.l i).cl.n,.int .i64 (nth s0.l i).cl.m,(nth s0.l i).gv,.bool (nth s0.l i).cl.nt]]++lb:List Value).toArray u (RetB u (.bool (p (nth s0.l i))))):
  Calls prog 224 #[s0.v,.func (.func g) #[] lb.toArray] w (RetB w (.int .i64 (idxF p s0.l))):=by
 have hl1:=hk.le;refine En func224 ?_;refine Nz 1 ?_;refine Nv 1 ?_;refine Wk 1 Nc ?_;refine Nu ?_;refine CS.loopM (σ:=Int) (rsL [4,5,9,18]) (fun s=>[(8,.int .i64 s)]) (fun _=>_) (fun s=>0≤s∧s≤s0.l.length∧∀j:Int,0≤j→j<s→p (nth s0.l j)=false) (fun s=>(s0.l.length-s).toNat) 0 (fun _ _=>rfl) rfl rfl ⟨by omega,by omega,fun j h1 h2=>by omega⟩ ?_;intro s t hs;obtain⟨hs1,hs2,hs3⟩:=hs;refine Nz 1 ?_;refine Wd (Qc (Cs (Cn ?_ ?_)))<;>intro hc1
 ·refine Ck (Qc (Cs (Ce (Nz 2 ?_))));refine Nx 3 ?_;refine Wk 0 Xc ?_;refine Wk 0 Ua ?_;refine Wk 0 (Cb rfl rfl hg (fun u hu=>hp u hu.below s (by omega) (by omega))) ?_;refine Wp ?_ ?_<;>intro hc2
  ·refine Nz 2 ?_;exact Wd (Qc (Cr (Qs (Qr (Qr (Qs (Qr (out1 rfl rfl (Jab (by rw[Jbc hs1 (by omega) hs3 hc2]))))))))))
  refine Ck (Qb (Qc (Ny 0 ?_)));refine Wk 1 Za ?_;exact Wd (QS.head (s+1) rfl rfl ⟨⟨by omega,by omega,fun j h1 h2=>if hj:j=s then by rw[hj];exact hc2 else hs3 j h1 (by omega)⟩,by omega⟩)
 refine Cv (Qe (Qe (Qx (Qc (Nz 1 ?_)))));exact Wd (Qc (Cr (out1 rfl rfl (Jab (by rw[Jbr fun j h1 h2=>hs3 j h1 (by omega)])))))
theorem Jpi (s0:Sl NoteD) (w:World) (hk:SlT cNote w s0) (g:Nat) (lb:List Value) (p:NoteD→Bool) (hg:Ent prog g)
  (hp:∀u,Below w.heap.size w u→∀i:Int,0≤i→i<s0.l.length→Calls prog g ([.agg #[.string (nth s0.l i).nm,.int .i64 (nth s0.l i).pl,.int .i64 (nth s0.l i).lk,(nth s0.l i).wh.v,.int .i64 (nth s0.l i).cl.k,.int .i64 (nth s0.l i).cl.a,.int .i64 (nth s0.l i).cl.b,.int .i64 (nth s0.l i).cl.n,.int .i64 (nth s0.l i).cl.m,(nth s0.l i).gv,.bool (nth s0.l i).cl.nt]]++lb:List Value).toArray u (RetB u (.bool (p (nth s0.l i))))):
  Calls prog 183 #[s0.v,.func (.func g) #[] lb.toArray] w (RetB w (.bool (s0.l.any p))):=by
 refine En func183 ?_;refine Nz 1 ?_;refine Nx 2 ?_;refine Wk 2 (Cb rfl rfl Kan (fun u hu=>Jxa s0 u (hk.st hu) g lb p hg (fun u2 h2=>hp u2 (Ja9 hu.below h2)))) ?_;exact Wd (Qc (Cr (out1 rfl rfl (Jab (by rw[Jcr])))))
theorem Jwr (x y:NoteD) (w:World) (b:Nat) (e:TypeId) (hb:BlkAt w b [.string y.nm,.int .i64 y.pl,.int .i64 y.lk,y.wh.v,.int .i64 y.cl.k,.int .i64 y.cl.a,.int .i64 y.cl.b,.int .i64 y.cl.n,.int .i64 y.cl.m,y.gv,.bool y.cl.nt] e):
  Calls prog 184 #[.agg #[.string x.nm,.int .i64 x.pl,.int .i64 x.lk,x.wh.v,.int .i64 x.cl.k,.int .i64 x.cl.a,.int .i64 x.cl.b,.int .i64 x.cl.n,.int .i64 x.cl.m,x.gv,.bool x.cl.nt],.pointer (some ⟨b,0,none⟩)] w (RetB w (.bool (seq x.nm y.nm))):=by
 refine En func184 ?_;refine Nz 0 ?_;refine Wr 1 fun b2 hb2=>?_;refine Nx 1 ?_;refine Wk 1 (Ba 0) ?_;refine Wk 0 Ga ?_;refine Wk 1 (Ja5 rfl rfl) ?_;exact Wd (Qc (Cr (out1 rfl rfl retB)))
theorem Jyd (G:Game) (w:World) (hk:SlT cNote w G.nts) (i:Int) (h0:0≤i) (h1:i<G.nts.l.length) (b:Nat) (e:TypeId) (hb:BlkAt w b [.string (nth G.nts.l i).nm,.int .i64 (nth G.nts.l i).pl,.int .i64 (nth G.nts.l i).lk,(nth G.nts.l i).wh.v,.int .i64 (nth G.nts.l i).cl.k,.int .i64 (nth G.nts.l i).cl.a,.int .i64 (nth G.nts.l i).cl.b,.int .i64 (nth G.nts.l i).cl.n,.int .i64 (nth G.nts.l i).cl.m,(nth G.nts.l i).gv,.bool (nth G.nts.l i).cl.nt] e):
  Calls prog 183 #[(G.nts.cut 11 0 i.toNat).v,.func (.func 184) #[] #[.pointer (some ⟨b,0,none⟩)]] w (RetB w (.bool (!newB NoteD.nm G.nts.l i))):=by
 have q:=Jpi (G.nts.cut 11 0 i.toNat) w (hk.cut (by omega) (by omega)) _ [.pointer (some ⟨b,0,none⟩)] (fun x=>seq x.nm (nth G.nts.l i).nm) Kdw (fun u2 h2 j a0 a1=>Jwr _ (nth G.nts.l i) u2 b e (hb.ext h2));have e1:(!newB NoteD.nm G.nts.l i)=((G.nts.cut 11 0 i.toNat).l.any fun x=>seq x.nm (nth G.nts.l i).nm):=by unfold newB;rw[Bool.not_not];rfl
 rw[e1];exact q
theorem J7i (G:Game) (w:World) (hG:GameOk w G) (hn:NearG G) (hl:G.cds.l.length=G.lks.l.length) (hC:∀j:Int,0≤j→j<G.lks.l.length→Jfr (nth G.lks.l j).w (nth G.lks.l j).s (nth G.cds.l j).l=0) (i:Int) (h0:0≤i) (h1:i<G.nts.l.length):
  Calls prog 140 #[.agg (gcl G).toArray,.int .i64 i,.agg #[.string (nth G.nts.l i).nm,.int .i64 (nth G.nts.l i).pl,.int .i64 (nth G.nts.l i).lk,(nth G.nts.l i).wh.v,.int .i64 (nth G.nts.l i).cl.k,.int .i64 (nth G.nts.l i).cl.a,.int .i64 (nth G.nts.l i).cl.b,.int .i64 (nth G.nts.l i).cl.n,.int .i64 (nth G.nts.l i).cl.m,(nth G.nts.l i).gv,.bool (nth G.nts.l i).cl.nt]] w (RetB w (.bool (ntG G i))):=by
 have klk:=hG.lks;have llk:=hG.lks.le;have kcd:=hG.cds;have lcd:=hG.cds.le;have knt:=hG.nts;have lnt:=hG.nts.le;have kpl:=hG.rm.pls;have lpl:=hG.rm.pls.le;have kth:=hG.rm.ths;have lth:=hG.rm.ths.le;have kac:=hG.rm.acs;have lac:=hG.rm.acs.le;have hnt:cNote.ok w (nth G.nts.l i):=knt.at h0 h1;have hnm:=(hn.nt _ (Jac h0 h1)).1;refine En func140 ?_;refine Nz 0 ?_;refine Wr 0 fun b3 hb3=>?_;refine Wr 1 fun b5 hb5=>?_;refine Nx 1 ?_;refine Wk 1 (Ba 1) ?_;refine Wk 0 (Je9 sl34 rfl rfl (by first|assumption|exact SlL.sp (by assumption)|exact ClS.sp (by assumption)|exact SlT.sp (by assumption)) (by omega) (by omega)) ?_;refine Wk 0 (Jal rfl) ?_;refine Wk 1 (Cb rfl rfl Kaa (fun u hu=>Jyd G u (knt.st hu) i h0 h1 b5 _ (Jaw hu (j:=0) rfl))) ?_;refine Nv 1 ?_;refine Wk 0 (Ba 0) ?_;refine Wk 2 (Cb rfl rfl Kbp (fun u hu=>J76 _ u (by omega))) ?_;refine We 0 ?_;refine We 0 ?_;refine Wf 0 rfl rfl (fun hg=>Jbf underlying9 (eg_ hg rfl)) ?_;refine We 0 ?_;refine Wk 1 Po ?_;refine We 0 ?_;refine Wk 1 Po ?_;refine We 0 ?_;refine We 0 ?_;refine We 0 ?_;refine We 0 ?_;refine We 0 ?_;refine We 0 ?_;refine We 0 ?_;refine Wf 0 rfl rfl (fun hg=>Cb rfl (ec_ (eg_ hg rfl) (ec_ rfl (ec_ (eg_ hg rfl) en_))) Jh6 (fun u hu=>Jdc _ _ _ u)) ?_;refine We 0 ?_;refine Wk 1 Po ?_;refine We 0 ?_;refine We 0 ?_;refine We 0 ?_;refine We 0 ?_;refine We 0 ?_;refine We 0 ?_;refine Wf 0 rfl rfl (fun hg=>Cb rfl (ec_ (eg_ hg rfl) (ec_ rfl (ec_ (eg_ hg rfl) en_))) Jh6 (fun u hu=>Jdc _ _ _ u)) ?_;refine We 0 ?_;refine Wk 0 Po ?_;refine Wp ?_ ?_<;>intro hc1
 ·refine Nz 1 ?_;exact Wd (Qc (Cr (Qr (out1 rfl rfl (Jab (by rw[show ntG G i=false by(unfold ntG Ja7 placeB;grind)]))))))
 have e1:ntG G i=Juz G (nth G.nts.l i):=by(unfold ntG Ja7 placeB;grind)
 refine Ck (Qc (Cs (Nz 1 ?_)));refine Wk 1 (Ba 0) ?_;refine Wp ?_ ?_<;>intro hc2
 ·refine Nz 1 ?_;refine Wk 0 (Bc 0) ?_;refine Wk 1 (Cb rfl rfl Kel (fun u hu=>J6w _ _ u (hnt.2.st hu))) ?_;exact Wd (Qc (Cr (Qr (out1 rfl rfl (Jab (by rw[e1,Jlw (by omega)]))))))
 have hcode:=hC (nth G.nts.l i).lk (by omega) (by omega);have hcd:SlI w (nth G.cds.l (nth G.nts.l i).lk).v (nth G.cds.l (nth G.nts.l i).lk).l:=(kcd.at (i:=(nth G.nts.l i).lk) (by omega) (by omega):SlT cInt w _).ints;refine Ck (Qc (Cs (Dr mixed 1 ?_)));refine Dk 1 (Ba 1) ?_;refine Dk 0 (Ba 0) ?_;refine Dk 0 Xc ?_;refine Dk 1 Ua ?_;refine Dk 1 (Bc 0) ?_;refine Dk 1 (Ba 1) ?_;refine Dk 0 (Ba 0) ?_;refine Dk 0 Xc ?_;refine Dk 0 Ub ?_;refine Dk 5 (Cb rfl rfl Kdt (fun u hu=>J8a _ _ _ _ _ _ u (hnt.2.st hu) (hcd.st hu))) ?_;refine Dd (Qc (Nz 3 ?_));refine Wj 0 ?_;refine Wk 1 Pa ?_;exact Wd (Qc (Cr (out1 rfl rfl (Jab (by rw[e1,Jic (by omega),Jq3 hcode];by_cases hz:Je1 (nth G.lks.l (nth G.nts.l i).lk).w (nth G.lks.l (nth G.nts.l i).lk).s (nth G.nts.l i).cl=0<;>simp[hz])))))
theorem J9s (G:Game) (w:World) (hG:GameOk w G) (hn:NearG G) (hl:G.cds.l.length=G.lks.l.length) (hC:∀j:Int,0≤j→j<G.lks.l.length→Jfr (nth G.lks.l j).w (nth G.lks.l j).s (nth G.cds.l j).l=0) (i:Int) (h0:0≤i) (h1:i<G.nts.l.length):
  Calls prog 48 #[.agg (gcl G).toArray,.int .i64 i] w (RetB w (.bool (ntG G i))):=by
 have klk:=hG.lks;have llk:=hG.lks.le;have kcd:=hG.cds;have lcd:=hG.cds.le;have knt:=hG.nts;have lnt:=hG.nts.le;have kpl:=hG.rm.pls;have lpl:=hG.rm.pls.le;have kth:=hG.rm.ths;have lth:=hG.rm.ths.le;have kac:=hG.rm.acs;have lac:=hG.rm.acs.le;have hnt:cNote.ok w (nth G.nts.l i):=knt.at h0 h1;have hnm:=(hn.nt _ (Jac h0 h1)).1;refine En func48 ?_;refine Nz 0 ?_;refine Wr 1 fun b2 hb2=>?_;refine Nx 1 ?_;refine Wk 1 (Ba 0) ?_;refine Wk 0 Xc ?_;refine Wk 0 Ua ?_;refine Wq 0 zv80 fun b5 hb5=>?_;refine Wv 0 0 ?_;refine Nv 1 ?_;refine Nu ?_;refine CS.loopM (σ:=Int) (rsL [4,4,12,25]) (fun s=>[(6,.int .i64 s)]) (fun _=>_) (fun s=>0≤s∧s≤i∧∀j:Int,0≤j→j<s→seq (nth G.nts.l j).nm (nth G.nts.l i).nm=false) (fun s=>(i-s).toNat) 0 (fun _ _=>rfl) rfl rfl ⟨by omega,by omega,fun j _ _=>by omega⟩ ?_;intro a t hs;obtain⟨ha1,ha2,ha3⟩:=hs;refine Cs (Nz 3 ?_);refine Wp ?_ ?_<;>intro hc1
 ·refine Ck (Qc (Cs (Ce (Cs (Dr mixed 1 ?_)))));refine Dk 1 (Ba 1) ?_;refine Dk 1 Xc ?_;refine Dk 1 (Uc 11 0) ?_;refine Dk 0 (Ba 0) ?_;refine Dk 0 (Ja5 rfl rfl) ?_;refine Dd (Qc (Cn ?_ ?_))<;>intro hc2
  ·refine Nz 1 ?_;exact Wd (Qc (Cr (Qs (Qr (Qr (Qs (Qr (out1 rfl rfl (Jab (by rw[show ntG G i=false by unfold ntG newB;rw[Jee ha1 hc1 (by omega) hc2];rfl]))))))))))
  refine Ck (Qb (Qc (Ny 1 ?_)));refine Wk 1 Za ?_;refine Wd ?_
  exact QS.head (a+1) rfl rfl ⟨⟨by omega,by omega,fun j h0 h1=>by
     rcases(show j<a∨j=a by omega)with h|h
     ·exact ha3 j h0 h
     rw[h];exact hc2⟩,by omega⟩
 refine Cv (Qe (Qe (Qx (Qc (Cs (Nz 1 ?_))))));refine Wk 0 (Ba 0) ?_;refine Wk 2 (Cb rfl rfl Jwj (fun u hu=>Jjk _ u (by omega))) ?_;refine We 0 ?_;refine We 0 ?_;refine We 0 ?_;refine We 0 ?_;refine We 0 ?_;refine We 0 ?_;refine We 0 ?_;refine Wf 0 rfl rfl (fun hg=>Cb rfl (ec_ (eg_ hg rfl) (ec_ rfl (ec_ (eg_ hg rfl) en_))) J75 (fun u hu=>Jqp _ _ _ u)) ?_;refine We 0 ?_;refine Wk 1 Po ?_;refine We 0 ?_;refine We 0 ?_;refine We 0 ?_;refine We 0 ?_;refine We 0 ?_;refine We 0 ?_;refine Wf 0 rfl rfl (fun hg=>Cb rfl (ec_ (eg_ hg rfl) (ec_ rfl (ec_ (eg_ hg rfl) en_))) J75 (fun u hu=>Jqp _ _ _ u)) ?_;refine We 0 ?_;refine Wk 0 Po ?_;refine Wp ?_ ?_<;>intro hc3
 ·refine Nz 1 ?_;exact Wd (Qc (Cr (Qr (out1 rfl rfl (Jab (by rw[show ntG G i=false by(unfold ntG placeB;grind)]))))))
 have hnb:newB NoteD.nm G.nts.l i=true:=by unfold newB;rw[Jfc fun j a b=>ha3 j a (by omega)];rfl
 have e1:ntG G i=Juz G (nth G.nts.l i):=by(unfold ntG placeB;grind)
 refine Ck (Qc (Cs (Nz 1 ?_)));refine Wk 1 (Ba 0) ?_;refine Wp ?_ ?_<;>intro hc4
 ·refine Nz 1 ?_;refine Wk 0 (Bc 0) ?_;refine Wk 1 (Cb rfl rfl Kga (fun u hu=>J8c _ _ u (hnt.2.st hu))) ?_;exact Wd (Qc (Cr (Qr (out1 rfl rfl (Jab (by rw[e1,Jlw hc4]))))))
 have hcode:=hC (nth G.nts.l i).lk (by omega) (by omega);have hcd:SlI w (nth G.cds.l (nth G.nts.l i).lk).v (nth G.cds.l (nth G.nts.l i).lk).l:=(kcd.at (i:=(nth G.nts.l i).lk) (by omega) (by omega):SlT cInt w _).ints;refine Ck (Qc (Cs (Dr mixed 1 ?_)));refine Dk 1 (Ba 1) ?_;refine Dk 0 (Ba 0) ?_;refine Dk 0 Xc ?_;refine Dk 1 Ua ?_;refine Dk 0 (Bc 0) ?_;refine Dk 2 (Cb rfl rfl Kfp (fun u hu=>Jny _ _ _ _ u (hnt.2.st hu))) ?_;refine Dj 0 ?_;refine Dt 0 rfl rfl (fun hg=>Bc 0) ?_;refine Dj 0 ?_;refine Dj 0 ?_;refine Dj 0 ?_;refine Dj 0 ?_;refine Dj 0 ?_;refine Dt 0 rfl rfl (fun hg=>Ub) ?_;refine Dt 0 rfl rfl (fun hg=>Cb rfl (ec_ (eg_ hg rfl) (ec_ (eg_ hg rfl) en_)) Kak (fun u hu=>J6j _ _ _ _ _ _ u (Jz3 (of_decide_eq_true hg) hcode) (hnt.2.st hu) (hcd.st hu))) ?_;refine Dk 1 Pa ?_;exact Dd (Qc (Cr (out1 rfl rfl (Jab (by rw[e1,Jic hc4])))))
theorem Joh (G:Game) (w:World) (hG:GameOk w G) (g:Sl ByteArray) (hW:GOk w g) (hn:NearG G):
  Calls prog 100 #[.agg (gcl G).toArray] w (RetB w (.int .i64 (Jbn G.p))):=by
 have klk:=hG.lks;have llk:=hG.lks.le;have kcd:=hG.cds;have lcd:=hG.cds.le;have knt:=hG.nts;have lnt:=hG.nts.le;have kpl:=hG.rm.pls;have lpl:=hG.rm.pls.le;have kth:=hG.rm.ths;have lth:=hG.rm.ths.le;have kac:=hG.rm.acs;have lac:=hG.rm.acs.le;refine En func100 ?_;refine Nz 0 ?_;refine Wr 1 fun b1 hb1=>?_;refine Nv 1 ?_;refine Wk 0 (Bc 0) ?_;refine Wk 1 (Cb rfl rfl Jy8 (fun u hu=>Jml G.rm u (hG.rm.st hu) g (hW.st hu) hn.rm)) ?_;refine Nx 2 ?_;refine Wp ?_ ?_<;>intro hc1
 ·refine Nz 2 ?_;exact Wd (Qc (Cr (Qr (out1 rfl rfl (Jab (by rw[Jgj,Jbz rfl hc1]))))))
 have e1:Jbn G.p=gck1 G.p:=by rw[Jgj,Jbs hc1]
 refine Ck (Qc (Cs (Nz 1 ?_)));refine Wk 0 (Ba 0) ?_;refine Wk 2 Nc ?_;refine We 0 ?_;refine We 0 ?_;refine We 0 ?_;refine We 0 ?_;refine Wk 0 Po ?_;refine Wp ?_ ?_<;>intro hc2
 ·refine Nz 1 ?_;exact Wd (Qc (Cr (Qr (out1 rfl rfl (Jab (by rw[e1,Jom,if_pos (by simp only[Bool.or_eq_true,decide_eq_true_eq];omega)]))))))
 have e2:Jbn G.p=gck2 G.p:=by rw[e1,Jom,if_neg (by simp only[Bool.or_eq_true,decide_eq_true_eq];omega)]
 refine Ck (Qc (Cs (Nz 1 ?_)));refine Wk 0 (Ba 0) ?_;refine Wk 1 Nc ?_;refine Nu ?_;refine CS.loopM (σ:=Int) (rsL [2,2,5,6,33,41]) (fun s=>[(32,.int .i64 s)]) (fun _=>_) (fun s=>0≤s∧s≤G.lks.l.length∧∀j:Int,0≤j→j<s→lkO G.p j=0) (fun s=>(G.lks.l.length-s).toNat) 0 (fun _ _=>rfl) rfl rfl ⟨by omega,by omega,fun j _ _=>by omega⟩ ?_;intro a t hs;obtain⟨ha1,ha2,ha3⟩:=hs;refine Nz 1 ?_;refine Wd (Qc (Cs (Cn ?_ ?_)))<;>intro hc3
 ·refine Ck (Qc (Cs (Ce (Nz 0 ?_))));refine Wk 0 Xc ?_;refine Wk 0 Ua ?_;refine Wq 0 zv74 fun b5 hb5=>?_;refine Wv 0 0 ?_;refine Nx 0 ?_;refine Wk 0 (Bb 0) ?_;refine Wk 1 (Cb rfl rfl J4h (fun u hu=>Jnt _ _ u)) ?_;refine Nx 2 ?_;refine Wp ?_ ?_<;>intro hc4
  ·refine Nz 2 ?_;exact Wd (Qc (Cr (Qs (Qr (Qr (Qs (Qr (out1 rfl rfl (Jab (by rw[e2,Jpg,Jbz (Jao (f:=lkO G.p) ha1 (by omega) ha3 hc4) hc4];rfl))))))))))
  refine Ck (Qb (Qc (Ny 0 ?_)));refine Wk 1 Za ?_;refine Wd ?_;refine QS.sel [1] rfl ?_
  exact QS.head (a+1) rfl rfl ⟨⟨by omega,by omega,fun j h0 h1=>by
     rcases(show j<a∨j=a by omega)with h|h
     ·exact ha3 j h0 h
     rw[h];exact hc4⟩,by omega⟩
 have e3:Jbn G.p=gck3 G.p:=by rw[e2,Jpg,Jbs (Jap fun j a b=>ha3 j a (by omega))]
 refine Cv (Qe (Qe (Qx (Qc (Cs (Nz 1 ?_))))));refine Wk 0 (Ba 0) ?_;refine Wk 1 Nc ?_;refine Wk 0 (Ba 0) ?_;refine Wk 1 Nc ?_;refine Wp ?_ ?_<;>intro hc5
 ·refine Nz 1 ?_;exact Wd (Qc (Cr (Qr (out1 rfl rfl (Jab (by rw[e3,Jpo,if_neg (by omega)]))))))
 have hl:G.cds.l.length=G.lks.l.length:=by omega
 have e4:Jbn G.p=or0 (Ja8 (cdO G.p) G.lks.l.length) (gck4 G.p):=by rw[e3,Jpo,if_pos hl]
 refine Ck (Qc (Cs (Nz 1 ?_)));refine Wk 0 (Ba 0) ?_;refine Wk 1 Nc ?_;refine Nu ?_;refine CS.loopM (σ:=Int) (rsL [2,2,7,8,53,65]) (fun s=>[(52,.int .i64 s)]) (fun _=>_) (fun s=>0≤s∧s≤G.lks.l.length∧∀j:Int,0≤j→j<s→cdO G.p j=0) (fun s=>(G.lks.l.length-s).toNat) 0 (fun _ _=>rfl) rfl rfl ⟨by omega,by omega,fun j _ _=>by omega⟩ ?_;intro b t hs;obtain⟨hb1,hb2,hb3⟩:=hs;refine Nz 1 ?_;refine Wd (Qc (Cs (Cn ?_ ?_)))<;>intro hc6
 ·have hcd:SlI w (nth G.cds.l b).v (nth G.cds.l b).l:=(kcd.at hb1 (by omega):SlT cInt w _).ints;refine Ck (Qc (Cs (Ce (Nz 1 ?_))));refine Wk 0 Xc ?_;refine Wk 0 Ua ?_;refine Wq 1 zv74 fun b8 hb8=>?_;refine Wv 0 0 ?_;refine Wd (Qc (Cs (Dr mixed 0 ?_)));refine Dk 1 (Bb 0) ?_;refine Dk 1 (Ba 1) ?_;refine Dk 0 Xc ?_;refine Dk 0 Ub ?_;refine Dk 1 (Cb rfl rfl J5q (fun u hu=>Jj9 _ _ _ _ u (hcd.st hu))) ?_;refine Dd (Qc (Cn ?_ ?_))<;>intro hc7
  ·refine Nz 1 ?_;refine Wd (Qc (Cr (Qs (Qr (Qr (Qs (Qr ?_)))))))
   exact out1 rfl rfl (Jab (by
      have hE:cdO G.p b=12:=by rw[Jqv,if_neg hc7]
      rw[e4,Jbz ((Jao (f:=cdO G.p) hb1 (by omega) hb3 (by rw[hE];decide)).trans hE) (by decide)]))
  refine Ck (Qb (Qc (Ny 0 ?_)));refine Wk 1 Za ?_;refine Wd ?_;refine QS.sel [1] rfl ?_
  exact QS.head (b+1) rfl rfl ⟨⟨by omega,by omega,fun j h0 h1=>by
     rcases(show j<b∨j=b by omega)with h|h
     ·exact hb3 j h0 h
     rw[h];exact(by rw[Jqv,if_pos hc7])⟩,by omega⟩
 have e5:Jbn G.p=gck4 G.p:=by rw[e4,Jbs (Jap fun j a b=>hb3 j a (by omega))]
 have hC:∀j:Int,0≤j→j<G.lks.l.length→Jfr (nth G.lks.l j).w (nth G.lks.l j).s (nth G.cds.l j).l=0:=fun j a b=>by
    have q:=hb3 j a (by omega);rw[Jqv]at q;split at q
    ·assumption
    cases q
 refine Cv (Qe (Qe (Qx (Qc (Cs (Nz 2 ?_))))));refine Wk 0 (Ba 0) ?_;refine Wk 1 Nc ?_;refine Nu ?_;refine CS.loopM (σ:=Int) (rsL [2,2,10,10,71,80]) (fun s=>[(70,.int .i64 s)]) (fun _=>_) (fun s=>0≤s∧s≤G.rm.acs.l.length∧∀j:Int,0≤j→j<s→alO G.p j=0) (fun s=>(G.rm.acs.l.length-s).toNat) 0 (fun _ _=>rfl) rfl rfl ⟨by omega,by omega,fun j _ _=>by omega⟩ ?_;intro k t hs;obtain⟨hk1,hk2,hk3⟩:=hs;refine Nz 1 ?_;refine Wd (Qc (Cs (Cn ?_ ?_)))<;>intro hc8
 ·have hak:cAct.ok w (nth G.rm.acs.l k):=kac.at hk1 (by omega);refine Ck (Qc (Cs (Ce (Nz 0 ?_))));refine Wk 0 Xc ?_;refine Wk 0 Ua ?_;refine Wq 0 Jhh fun b10 hb10=>?_;refine Wv 0 0 ?_;refine Nx 1 ?_;refine Wk 1 (Ba 0) ?_;refine Wk 0 (Ba 1) ?_;refine Wk 1 Nc ?_;refine Wp ?_ ?_<;>intro hc9
  ·refine Nz 1 ?_;refine Wd (Qc (Cr (Qs (Qr (Qr (Qs (Qr ?_)))))))
   exact out1 rfl rfl (Jab (by
      have hE:alO G.p k=26:=by rw[Jy3,if_neg (by omega)]
      rw[e5,Jop,Jbz ((Jao (f:=alO G.p) hk1 (by omega) hk3 (by rw[hE];decide)).trans hE) (by decide)]))
  refine Ck (Qb (Qc (Ny 0 ?_)));refine Wk 1 Za ?_;refine Wd ?_;refine QS.sel [1] rfl ?_
  exact QS.head (k+1) rfl rfl ⟨⟨by omega,by omega,fun j h0 h1=>by
     rcases(show j<k∨j=k by omega)with h|h
     ·exact hk3 j h0 h
     rw[h];exact(by rw[Jy3,if_pos (by omega)])⟩,by omega⟩
 have e6:Jbn G.p=gck5 G.p:=by rw[e5,Jop,Jbs (Jap fun j a b=>hk3 j a (by omega))]
 refine Cv (Qe (Qe (Qx (Qc (Cs (Nz 1 ?_))))));refine Wk 0 (Ba 0) ?_;refine Wk 1 Nc ?_;refine Nu ?_;refine CS.loopM (σ:=Int) (rsL [2,2,11,12,85,100]) (fun s=>[(84,.int .i64 s)]) (fun _=>_) (fun s=>0≤s∧s≤G.nts.l.length∧∀j:Int,0≤j→j<s→ntO G.p j=0) (fun s=>(G.nts.l.length-s).toNat) 0 (fun _ _=>rfl) rfl rfl ⟨by omega,by omega,fun j _ _=>by omega⟩ ?_;intro m t hs;obtain⟨hm1,hm2,hm3⟩:=hs;refine Nz 1 ?_;refine Wd (Qc (Cs (Cn ?_ ?_)))<;>intro hc10
 ·have hnt:cNote.ok w (nth G.nts.l m):=knt.at hm1 (by omega);have hwh:SlT cLit w (nth G.nts.l m).wh:=hnt.1;refine Ck (Qc (Cs (Ce (Nz 1 ?_))));refine Wk 0 Xc ?_;refine Wk 0 Ua ?_;refine Wq 1 zv80 fun b12 hb12=>?_;refine Wv 0 0 ?_;refine Nv 0 ?_;refine Wk 1 (Bb 1) ?_;refine Wk 0 (Bb 0) ?_;refine Wk 1 (Cb rfl rfl Kd4 (fun u hu=>J7i G u (hG.st hu) hn hl hC _ hm1 (by omega))) ?_;refine Wp ?_ ?_<;>intro hc11
  ·refine Nz 1 ?_;refine Wd (Qc (Cr (Qr (Qs (Qr (Qr (Qs (Qr ?_))))))))
   exact out1 rfl rfl (Jab (by
      have hE:ntO G.p m=40:=by rw[Jqq,if_neg (by rw[hc11];decide),Jbz rfl (by decide)]
      rw[e6,Jke,Jbz ((Jao (f:=ntO G.p) hm1 (by omega) hm3 (by rw[hE];decide)).trans hE) (by decide)]))
  refine Ck (Qc (Nz 1 ?_));refine Wk 1 (Bc 1) ?_;refine Wk 0 (Ba 0) ?_;refine Wk 1 (Cb rfl rfl Kcp (fun u hu=>J3q G.rm u (hG.rm.st hu) _ (hwh.st hu))) ?_;refine Wp ?_ ?_<;>intro hc12
  ·refine Nz 1 ?_;refine Wd (Qc (Cr (Qs (Qr (Qr (Qs (Qr ?_)))))))
   exact out1 rfl rfl (Jab (by
      have hE:ntO G.p m=25:=by rw[Jqq,if_pos hc11,Jbs rfl,whO,if_neg (by rw[hc12];decide)]
      rw[e6,Jke,Jbz ((Jao (f:=ntO G.p) hm1 (by omega) hm3 (by rw[hE];decide)).trans hE) (by decide)]))
  refine Ck (Qb (Qc (Ny 0 ?_)));refine Wk 1 Za ?_;refine Wd ?_;refine QS.sel [1] rfl ?_
  exact QS.head (m+1) rfl rfl ⟨⟨by omega,by omega,fun j h0 h1=>by
     rcases(show j<m∨j=m by omega)with h|h
     ·exact hm3 j h0 h
     rw[h];exact(by rw[Jqq,if_pos hc11,Jbs rfl,whO,if_pos hc12])⟩,by omega⟩
 have e7:Jbn G.p=gck6 G.p:=by rw[e6,Jke,Jbs (Jap fun j a b=>hm3 j a (by omega))]
 refine Cv (Qe (Qe (Qx (Qc (Cs (Nz 1 ?_))))));refine Wk 0 (Ba 0) ?_;refine Wk 1 (Cb rfl rfl Jh6 (fun u hu=>Jdc _ _ _ u)) ?_;refine Wp ?_ ?_<;>intro hc13
 ·refine Nz 1 ?_;exact Wd (Qc (Cr (Qr (out1 rfl rfl (Jab (by rw[e7,Jog,if_neg (by simp only[Bool.and_eq_true,decide_eq_true_eq];omega)]))))))
 refine Ck (Qc (Nz 1 ?_));exact Wd (Qc (Cr (out1 rfl rfl (Jab (by rw[e7,Jog,if_pos (by simp only[Bool.and_eq_true,decide_eq_true_eq];omega)])))))
theorem Jk9 (G:Game) (w:World) (hG:GameOk w G) (hn:NearG G):
  Calls prog 18 #[.agg (gcl G).toArray] w (RetB w (.int .i64 (Jbn G.p))):=by
 have klk:=hG.lks;have llk:=hG.lks.le;have kcd:=hG.cds;have lcd:=hG.cds.le;have knt:=hG.nts;have lnt:=hG.nts.le;have kpl:=hG.rm.pls;have lpl:=hG.rm.pls.le;have kth:=hG.rm.ths;have lth:=hG.rm.ths.le;have kac:=hG.rm.acs;have lac:=hG.rm.acs.le;refine En func18 ?_;refine Nz 0 ?_;refine Wr 1 fun b1 hb1=>?_;refine Nx 1 ?_;refine Wk 0 (Bc 0) ?_;refine Wk 1 (Cb rfl rfl J8y (fun u hu=>Jmj G.rm u (hG.rm.st hu) hn.rm)) ?_;refine Nv 2 ?_;refine Wp ?_ ?_<;>intro hc1
 ·refine Nz 2 ?_;exact Wd (Qc (Cr (Qr (out1 rfl rfl (Jab (by rw[Jgj,Jbz rfl hc1]))))))
 have e1:Jbn G.p=gck1 G.p:=by rw[Jgj,Jbs hc1]
 refine Ck (Qc (Cs (Nz 1 ?_)));refine Wk 0 (Ba 0) ?_;refine Wk 2 Nc ?_;refine We 0 ?_;refine We 0 ?_;refine We 0 ?_;refine We 0 ?_;refine Wk 0 Po ?_;refine Wp ?_ ?_<;>intro hc2
 ·refine Nz 1 ?_;exact Wd (Qc (Cr (Qr (out1 rfl rfl (Jab (by rw[e1,Jom,if_pos (by simp only[Bool.or_eq_true,decide_eq_true_eq];omega)]))))))
 have e2:Jbn G.p=gck2 G.p:=by rw[e1,Jom,if_neg (by simp only[Bool.or_eq_true,decide_eq_true_eq];omega)]
 refine Ck (Qc (Cs (Nz 1 ?_)));refine Nu ?_;refine CS.loopM (σ:=Int) (rsL [2,2,5,5,25,40]) (fun s=>[(4,.int .i64 s)]) (fun _=>_) (fun s=>0≤s∧s≤G.lks.l.length∧∀j:Int,0≤j→j<s→lkO G.p j=0) (fun s=>(G.lks.l.length-s).toNat) 0 (fun _ _=>rfl) rfl rfl ⟨by omega,by omega,fun j _ _=>by omega⟩ ?_;intro a t hs;obtain⟨ha1,ha2,ha3⟩:=hs;refine Cs (Nz 2 ?_);refine Wk 0 (Ba 0) ?_;refine Wk 1 Nc ?_;refine Wp ?_ ?_<;>intro hc3
 ·refine Ck (Qc (Cs (Ce (Nz 1 ?_))));refine Wk 1 (Ba 0) ?_;refine Wk 0 Xc ?_;refine Wk 0 Ua ?_;refine Wk 1 (Cb rfl rfl J4d (fun u hu=>Jji _ _ u)) ?_;refine Nx 2 ?_;refine Wp ?_ ?_<;>intro hc4
  ·refine Nz 2 ?_;exact Wd (Qc (Cr (Qs (Qr (Qr (Qs (Qr (out1 rfl rfl (Jab (by rw[e2,Jpg,Jbz (Jao (f:=lkO G.p) ha1 (by omega) ha3 hc4) hc4];rfl))))))))))
  refine Ck (Qb (Qc (Ny 1 ?_)));refine Wk 1 Za ?_;refine Wd ?_
  exact QS.head (a+1) rfl rfl ⟨⟨by omega,by omega,fun j h0 h1=>by
     rcases(show j<a∨j=a by omega)with h|h
     ·exact ha3 j h0 h
     rw[h];exact hc4⟩,by omega⟩
 have e3:Jbn G.p=gck3 G.p:=by rw[e2,Jpg,Jbs (Jap fun j a b=>ha3 j a (by omega))]
 refine Cv (Qe (Qe (Qx (Qc (Cs (Nz 1 ?_))))));refine Wk 0 (Ba 0) ?_;refine Wk 1 Nc ?_;refine Wk 0 (Ba 0) ?_;refine Wk 1 Nc ?_;refine Wp ?_ ?_<;>intro hc5
 ·refine Nz 1 ?_;exact Wd (Qc (Cr (Qr (out1 rfl rfl (Jab (by rw[e3,Jpo,if_neg (by omega)]))))))
 have hl:G.cds.l.length=G.lks.l.length:=by omega
 have e4:Jbn G.p=or0 (Ja8 (cdO G.p) G.lks.l.length) (gck4 G.p):=by rw[e3,Jpo,if_pos hl]
 refine Ck (Qc (Cs (Nz 1 ?_)));refine Nu ?_;refine CS.loopM (σ:=Int) (rsL [2,2,48,66]) (fun s=>[(6,.int .i64 s)]) (fun _=>_) (fun s=>0≤s∧s≤G.cds.l.length∧∀j:Int,0≤j→j<s→cdO G.p j=0) (fun s=>(G.cds.l.length-s).toNat) 0 (fun _ _=>rfl) rfl rfl ⟨by omega,by omega,fun j _ _=>by omega⟩ ?_;intro b t hs;obtain⟨hb1,hb2,hb3⟩:=hs;refine Cs (Nz 2 ?_);refine Wk 0 (Ba 0) ?_;refine Wk 1 Nc ?_;refine Wp ?_ ?_<;>intro hc6
 ·have hcd:SlI w (nth G.cds.l b).v (nth G.cds.l b).l:=(kcd.at hb1 (by omega):SlT cInt w _).ints;refine Ck (Qc (Cs (Ce (Cs (Dr mixed 1 ?_)))));refine Dk 1 (Ba 0) ?_;refine Dk 0 Xc ?_;refine Dk 1 Ua ?_;refine Dk 1 (Ba 0) ?_;refine Dk 0 Xc ?_;refine Dk 0 Ub ?_;refine Dk 1 (Cb rfl rfl Kes (fun u hu=>Jpj _ _ _ _ u (hcd.st hu))) ?_;refine Dd (Qc (Cn ?_ ?_))<;>intro hc7
  ·refine Nz 1 ?_;refine Wd (Qc (Cr (Qs (Qr (Qr (Qs (Qr ?_)))))))
   exact out1 rfl rfl (Jab (by
      have hE:cdO G.p b=12:=by rw[Jqv,if_neg hc7]
      rw[e4,Jbz ((Jao (f:=cdO G.p) hb1 (by omega) hb3 (by rw[hE];decide)).trans hE) (by decide)]))
  refine Ck (Qb (Qc (Ny 1 ?_)));refine Wk 1 Za ?_;refine Wd ?_
  exact QS.head (b+1) rfl rfl ⟨⟨by omega,by omega,fun j h0 h1=>by
     rcases(show j<b∨j=b by omega)with h|h
     ·exact hb3 j h0 h
     rw[h];exact(by rw[Jqv,if_pos hc7])⟩,by omega⟩
 have e5:Jbn G.p=gck4 G.p:=by rw[e4,Jbs (Jap fun j a b=>hb3 j a (by omega))]
 have hC:∀j:Int,0≤j→j<G.lks.l.length→Jfr (nth G.lks.l j).w (nth G.lks.l j).s (nth G.cds.l j).l=0:=fun j a b=>by
    have q:=hb3 j a (by omega);rw[Jqv]at q;split at q
    ·assumption
    cases q
 refine Cv (Qe (Qe (Qx (Qc (Cs (Nz 1 ?_))))));refine Nu ?_;refine CS.loopM (σ:=Int) (rsL [2,2,67,85]) (fun s=>[(7,.int .i64 s)]) (fun _=>_) (fun s=>0≤s∧s≤G.rm.acs.l.length∧∀j:Int,0≤j→j<s→alO G.p j=0) (fun s=>(G.rm.acs.l.length-s).toNat) 0 (fun _ _=>rfl) rfl rfl ⟨by omega,by omega,fun j _ _=>by omega⟩ ?_;intro k t hs;obtain⟨hk1,hk2,hk3⟩:=hs;refine Cs (Nz 3 ?_);refine Wk 0 (Ba 0) ?_;refine Wk 1 Nc ?_;refine Wp ?_ ?_<;>intro hc8
 ·have hak:cAct.ok w (nth G.rm.acs.l k):=kac.at hk1 (by omega);refine Ck (Qc (Cs (Ce (Cs (Dr mixed 2 ?_)))));refine Dk 1 (Ba 0) ?_;refine Dk 1 Xc ?_;refine Dk 1 (Uc 8 2) ?_;refine Dk 0 (Ba 0) ?_;refine Dk 1 Nc ?_;refine Dd (Qc (Cn ?_ ?_))<;>intro hc9
  ·refine Nz 1 ?_;refine Wd (Qc (Cr (Qs (Qr (Qr (Qs (Qr ?_)))))))
   exact out1 rfl rfl (Jab (by
      have hE:alO G.p k=26:=by rw[Jy3,if_neg (by omega)]
      rw[e5,Jop,Jbz ((Jao (f:=alO G.p) hk1 (by omega) hk3 (by rw[hE];decide)).trans hE) (by decide)]))
  refine Ck (Qb (Qc (Ny 1 ?_)));refine Wk 1 Za ?_;refine Wd ?_
  exact QS.head (k+1) rfl rfl ⟨⟨by omega,by omega,fun j h0 h1=>by
     rcases(show j<k∨j=k by omega)with h|h
     ·exact hk3 j h0 h
     rw[h];exact(by rw[Jy3,if_pos (by omega)])⟩,by omega⟩
 have e6:Jbn G.p=gck5 G.p:=by rw[e5,Jop,Jbs (Jap fun j a b=>hk3 j a (by omega))]
 refine Cv (Qe (Qe (Qx (Qc (Cs (Nz 1 ?_))))));refine Nu ?_;refine CS.loopM (σ:=Int) (rsL [2,2,86,106]) (fun s=>[(8,.int .i64 s)]) (fun _=>_) (fun s=>0≤s∧s≤G.nts.l.length∧∀j:Int,0≤j→j<s→ntO G.p j=0) (fun s=>(G.nts.l.length-s).toNat) 0 (fun _ _=>rfl) rfl rfl ⟨by omega,by omega,fun j _ _=>by omega⟩ ?_;intro m t hs;obtain⟨hm1,hm2,hm3⟩:=hs;refine Cs (Nz 2 ?_);refine Wk 0 (Ba 0) ?_;refine Wk 1 Nc ?_;refine Wp ?_ ?_<;>intro hc10
 ·have hnt:cNote.ok w (nth G.nts.l m):=knt.at hm1 (by omega);have hwh:SlT cLit w (nth G.nts.l m).wh:=hnt.1;refine Ck (Qc (Cs (Ce (Cs (Nz 0 ?_)))));refine Wk 1 (Bb 0) ?_;refine Wk 1 (Cb rfl rfl Kfm (fun u hu=>J9s G u (hG.st hu) hn hl hC _ hm1 (by omega))) ?_;refine Wp ?_ ?_<;>intro hc11
  ·refine Nz 1 ?_;refine Wd (Qc (Cr (Qr (Qs (Qr (Qr (Qs (Qr ?_))))))))
   exact out1 rfl rfl (Jab (by
      have hE:ntO G.p m=40:=by rw[Jqq,if_neg (by rw[hc11];decide),Jbz rfl (by decide)]
      rw[e6,Jke,Jbz ((Jao (f:=ntO G.p) hm1 (by omega) hm3 (by rw[hE];decide)).trans hE) (by decide)]))
  refine Ck (Qc (Cs (Dr mixed 1 ?_)));refine Dk 1 (Bc 0) ?_;refine Dk 1 (Ba 0) ?_;refine Dk 1 Xc ?_;refine Dk 0 (Uc 11 3) ?_;refine Dk 1 (Cb rfl rfl Jvn (fun u hu=>Jgs G.rm u (hG.rm.st hu) _ (hwh.st hu))) ?_;refine Dd (Qc (Cn ?_ ?_))<;>intro hc12
  ·refine Nz 1 ?_;refine Wd (Qc (Cr (Qs (Qr (Qr (Qs (Qr ?_)))))))
   exact out1 rfl rfl (Jab (by
      have hE:ntO G.p m=25:=by rw[Jqq,if_pos hc11,Jbs rfl,whO,if_neg (by rw[hc12];decide)]
      rw[e6,Jke,Jbz ((Jao (f:=ntO G.p) hm1 (by omega) hm3 (by rw[hE];decide)).trans hE) (by decide)]))
  refine Ck (Qb (Qc (Ny 1 ?_)));refine Wk 1 Za ?_;refine Wd ?_
  exact QS.head (m+1) rfl rfl ⟨⟨by omega,by omega,fun j h0 h1=>by
     rcases(show j<m∨j=m by omega)with h|h
     ·exact hm3 j h0 h
     rw[h];exact(by rw[Jqq,if_pos hc11,Jbs rfl,whO,if_pos hc12])⟩,by omega⟩
 have e7:Jbn G.p=gck6 G.p:=by rw[e6,Jke,Jbs (Jap fun j a b=>hm3 j a (by omega))]
 refine Cv (Qe (Qe (Qx (Qc (Cs (Nz 1 ?_))))));refine Wk 0 (Ba 0) ?_;refine Wk 1 (Cb rfl rfl J75 (fun u hu=>Jqp _ _ _ u)) ?_;refine Wp ?_ ?_<;>intro hc13
 ·refine Nz 1 ?_;exact Wd (Qc (Cr (Qr (out1 rfl rfl (Jab (by rw[e7,Jog,if_neg (by simp only[Bool.and_eq_true,decide_eq_true_eq];omega)]))))))
 refine Ck (Qc (Nz 1 ?_));exact Wd (Qc (Cr (out1 rfl rfl (Jab (by rw[e7,Jog,if_pos (by simp only[Bool.and_eq_true,decide_eq_true_eq];omega)])))))
theorem Jsq (G:Game) (w:World) (hG:GameOk w G) (g:Sl ByteArray) (hW:GOk w g) (hn:NearG G) (p:Pos) (hp:PosOk w p):
  Calls prog 147 #[.agg (gcl G).toArray,.agg #[p.st.ths.v,p.st.prs.v,p.st.pls.v,p.rd.v]] w (RetB w (.int .i64 (posG G.p p.x))):=by
 have knt:=hG.nts;have krd:=hp.rd;refine En func147 ?_;refine Nz 0 ?_;refine Wr 0 fun b2 hb2=>?_;refine Wr 1 fun b3 hb3=>?_;refine Nv 0 ?_;refine Wk 0 (Bb 1) ?_;refine Wk 1 (Cb rfl rfl J5j (fun u hu=>Joh G u (hG.st hu) g (hW.st hu) hn)) ?_;refine Nx 2 ?_;refine Wp ?_ ?_<;>intro hc1
 ·refine Nz 2 ?_;exact Wd (Qc (Cr (Qr (out1 rfl rfl (Jab (by rw[Jgw,Jbz rfl hc1]))))))
 refine Ck (Qc (Cs (Nz 1 ?_)));refine Wk 1 (Bc 1) ?_;refine Wk 0 (Bc 0) ?_;refine Wk 1 (Cb rfl rfl Joa (fun u hu=>Jdd G.rm u (hG.rm.st hu) g (hW.st hu) hn.rm p.st (hp.st.st hu))) ?_;refine Nx 2 ?_;refine Wp ?_ ?_<;>intro hc2
 ·refine Nz 2 ?_;exact Wd (Qc (Cr (Qr (out1 rfl rfl (Jab (by rw[Jgw,Jbs hc1,Jbz rfl hc2]))))))
 refine Ck (Qc (Cs (Nz 1 ?_)));refine Wk 0 (Ba 0) ?_;refine Wk 1 Nc ?_;refine Wk 0 (Ba 1) ?_;refine Wk 1 Nc ?_;refine Wp ?_ ?_<;>intro hc3
 ·refine Nz 1 ?_;exact Wd (Qc (Cr (Qr (out1 rfl rfl (Jab (by rw[Jgw,Jbs hc1,Jbs hc2,if_neg (by omega)]))))))
 refine Ck (Qc (Nz 1 ?_));exact Wd (Qc (Cr (out1 rfl rfl (Jab (by rw[Jgw,Jbs hc1,Jbs hc2,if_pos (by omega)])))))
theorem Kdc (G:Game) (w:World) (hG:GameOk w G) (hn:NearG G) (p:Pos) (hp:PosOk w p):
  Calls prog 193 #[.agg (gcl G).toArray,.agg #[p.st.ths.v,p.st.prs.v,p.st.pls.v,p.rd.v]] w (RetB w (.int .i64 (posG G.p p.x))):=by
 have knt:=hG.nts;have krd:=hp.rd;refine En func193 ?_;refine Nz 0 ?_;refine Wr 0 fun b2 hb2=>?_;refine Wr 1 fun b3 hb3=>?_;refine Nx 0 ?_;refine Wk 0 (Bb 1) ?_;refine Wk 1 (Cb rfl rfl J8v (fun u hu=>Jk9 G u (hG.st hu) hn)) ?_;refine Nv 2 ?_;refine Wp ?_ ?_<;>intro hc1
 ·refine Nz 2 ?_;exact Wd (Qc (Cr (Qr (out1 rfl rfl (Jab (by rw[Jgw,Jbz rfl hc1]))))))
 refine Ck (Qc (Nz 1 ?_));refine Wk 1 (Bc 1) ?_;refine Wk 0 (Bc 0) ?_;refine Wk 1 (Cb rfl rfl J6c (fun u hu=>Jhz G.rm u (hG.rm.st hu) hn.rm p.st (hp.st.st hu))) ?_;refine Nv 2 ?_;refine Wp ?_ ?_<;>intro hc2
 ·refine Nz 2 ?_;exact Wd (Qc (Cr (Qr (out1 rfl rfl (Jab (by rw[Jgw,Jbs hc1,Jbz rfl hc2]))))))
 refine Ck (Qc (Cs (Nz 1 ?_)));refine Wk 0 (Ba 0) ?_;refine Wk 1 Nc ?_;refine Wk 0 (Ba 1) ?_;refine Wk 1 Nc ?_;refine Wp ?_ ?_<;>intro hc3
 ·refine Nz 1 ?_;exact Wd (Qc (Cr (Qr (out1 rfl rfl (Jab (by rw[Jgw,Jbs hc1,Jbs hc2,if_neg (by omega)]))))))
 refine Ck (Qc (Nz 1 ?_));exact Wd (Qc (Cr (out1 rfl rfl (Jab (by rw[Jgw,Jbs hc1,Jbs hc2,if_pos (by omega)])))))
theorem Ju9 (p:Pos) (w:World) (hp:PosOk w p) (hm:(p.st.ths.l.length≤1000000∧p.st.prs.l.length≤1000000∧p.st.pls.l.length≤1000000)∧p.rd.l.length≤1000000):
  Calls prog 118 #[.agg #[p.st.ths.v,p.st.prs.v,p.st.pls.v,p.rd.v]] w (fun e w'=>∃x:Stt×Value,((x.1.x=p.st.x∧∃u0,SttOk u0 x.1)∧x.2.oneCell'=true)∧RetF w (.agg #[x.1.ths.v,x.1.prs.v,x.1.pls.v,x.2]) (star [roS fun u=>SttOk u x.1,oT cBool 4 x.2 p.rd.l]) e w'):=by
 have krd:=hp.rd;have lrd:=hm.2;refine En func118 ?_;refine Nz 0 ?_;refine Wr 0 fun b1 hb1=>?_;refine Wq 0 zv98 fun b2 hb2=>?_;refine Wd (Qc (Cs ?_));refine CS.drawnTill 6 (k:=9) mixed rfl rfl ?_;refine Tr 9 [0] ?_;refine Tk 9 1 [4] rfl (Bc 1) ?_;refine Tk 9 5 [] rfl (Ba 1) ?_;refine AT.two (i:=2) (j:=3) (by kernel_rfl) rfl rfl (by exact fun _ _ h=>h) rfl rfl ?_ ?_
 ·refine Wc rfl rfl Jss (fun u hu=>Ji3 p.st u (hp.st.st hu) hm.1) (fun _=>rfl) ?_;rintro y ⟨hyx,uy,hyok⟩;obtain⟨hya,hyb,hyc⟩:=hyok.ones;refine Wd (Qt ?_);refine To 3 rfl ?_;refine WS.build0 sl96 zv4 (fun _=>rfl) ?_;intro v6;refine Wd (Qt ?_);refine To 6 rfl ?_;refine WS.append0 (j:=0) (news:=Jas cBool p.rd.l) (m:=p.rd.l.length) sl96 zv4 rfl (by decide) rfl rfl rfl (fun u hu=>(krd.st hu).sp) krd.one (by omega) (by omega) (fun _=>rfl) (fun _=>rfl) ?_;intro v9;refine WS.oc (j:=0) rfl (fun hv9=>?_);refine Wd (Qt ?_);refine To 7 rfl ?_;refine Wk 0 (Jaq Jeb zv98 rfl (.agg (.one hv9 .nil)) rfl) ?_;refine Wd (Qt ?_);refine To 8 rfl ?_;refine Wv 0 2 ?_;refine Wd (Qt ?_);refine Te ?_;exact Qc (Cr (outR (resc rfl (Jam (j:=2) rfl rfl tk98)) (fun u hu=>⟨(y,v9),⟨⟨hyx,uy,hyok⟩,hv9⟩,Jjt (hu.sel [1,0] rfl) (List.Perm.refl _)⟩)))
 refine WS.build0 sl96 zv4 (fun _=>rfl) ?_;intro v6;refine Wd (Qt ?_);refine To 2 rfl ?_;refine Wc rfl rfl Jss (fun u hu=>Ji3 p.st u (hp.st.st hu) hm.1) (fun _=>rfl) ?_;rintro y ⟨hyx,uy,hyok⟩;obtain⟨hya,hyb,hyc⟩:=hyok.ones;refine Wd (Qt ?_);refine To 6 rfl ?_;refine WS.append0 (j:=1) (news:=Jas cBool p.rd.l) (m:=p.rd.l.length) sl96 zv4 rfl (by decide) rfl rfl rfl (fun u hu=>(krd.st hu).sp) krd.one (by omega) (by omega) (fun _=>rfl) (fun _=>rfl) ?_;intro v9;refine WS.oc (j:=1) rfl (fun hv9=>?_);refine Wd (Qt ?_);refine To 7 rfl ?_;refine Wk 0 (Jaq Jeb zv98 rfl (.agg (.one hv9 .nil)) rfl) ?_;refine Wd (Qt ?_);refine To 8 rfl ?_;refine Wv 0 2 ?_;refine Wd (Qt ?_);refine Te ?_;exact Qc (Cr (outR (resc rfl (Jam (j:=2) rfl rfl tk98)) (fun u hu=>⟨(y,v9),⟨⟨hyx,uy,hyok⟩,hv9⟩,Jjt (hu.sel [0,0] rfl) (List.Perm.refl _)⟩)))
theorem Jei (s0:Sl Bool) (w:World) (hk:SlT cBool w s0) (hm:s0.l.length≤1000000):
  Calls prog 146 #[s0.v] w (fun e w'=>∃v':Value,v'.oneCell'=true∧RetF w v' (oT cBool 4 v' s0.l) e w'):=by
 obtain⟨v,l⟩:=s0;obtain⟨⟨hl,p,cap,hv,hcap,hq⟩,he⟩:=hk;simp only at hv hl hcap hq hm⊢;subst hv;have hk:SlT cBool w ⟨.slice p l.length cap,l⟩:=⟨⟨hl,p,cap,rfl,hcap,hq⟩,he⟩;clear hl hcap hq he;refine En func146 ?_;refine Nz 1 ?_;refine Nv 1 ?_;refine Wk 0 (Jpf sl96 rfl rfl) ?_;refine Wp ?_ ?_<;>intro hc1
 ·have hx0:l=[]:=by
   have:p=none:=by simpa using hc1
   subst this;exact List.eq_nil_of_length_eq_zero (SlC.nil hk.sp)
  subst hx0;refine Nz 1 ?_;exact Wd (Qc (Cr (Qr (out1 rfl rfl (fun u hu=>⟨_,rfl,retF (j:=0) rfl u hu.osl0⟩)))))
 refine Ck (Qc (Nz 0 ?_));refine WS.build0 sl96 zv4 (fun _=>rfl) ?_;intro v5;refine Wz 1 ?_;refine WS.append0 (j:=0) (news:=Jas cBool l) (m:=l.length) sl96 zv4 rfl (by decide) rfl rfl rfl (fun u hu=>(hk.st hu).sp) hk.one (by omega) (by omega) (fun _=>rfl) (fun _=>rfl) ?_;intro v7;refine WS.oc (j:=0) rfl (fun hv7=>?_);refine Wz 1 ?_;exact Wd (Qc (Cr (out1 rfl rfl (fun u hu=>⟨v7,hv7,retF (j:=0) rfl u hu⟩))))
theorem J9t (G:Game) (w:World) (hG:GameOk w G) (p:Pos) (hp:PosOk w p) (hl:p.rd.l.length=G.nts.l.length) (hnn:G.nts.l.length≤1000) (lk:Int):
  Calls prog 157 #[.agg (gcl G).toArray,.agg #[p.st.ths.v,p.st.prs.v,p.st.pls.v,p.rd.v],.int .i64 lk] w (fun e w'=>∃x:Value,(∃u0,SlI u0 x (cluN G.p p.rd.l lk))∧RetF w x (roI x (cluN G.p p.rd.l lk)) e w'):=by
 have knt:=hG.nts;have krd:=hp.rd;refine En func157 ?_;refine Nz 0 ?_;refine Wr 0 fun b3 hb3=>?_;refine Wr 1 fun b4 hb4=>?_;refine Nx 1 ?_;refine Nv 1 ?_;refine Nu ?_;refine CS.weak (fun _ hu=>hu.osl0 (e:=3) (size:=1)) ?_;refine CS.loopM (σ:=Int×Value) (rsL [9,34]) (fun s=>[(8,.int .i64 s.1),(7,s.2)]) (fun s=>[oints 3 s.2 (filI s.1 (fun i=>nth p.rd.l i&&decide ((nth G.nts.l i).lk=lk))),blk b4 [p.st.ths.v,p.st.prs.v,p.st.pls.v,p.rd.v] 98,blk b3 (gcl G) 36]) (fun s=>0≤s.1∧s.1≤G.nts.l.length) (fun s=>(G.nts.l.length-s.1).toNat) (0,.slice none 0 0) (fun _ _=>rfl) rfl rfl ⟨by simp,by(simp;done)⟩ ?_;intro a t hs;obtain⟨ha1,ha2⟩:=hs;have hfl:=fun p=>Jgq (n:=a.1) (p:=p) ha1;refine Cs (Nz 2 ?_);refine Wk 0 (Ba 2) ?_;refine Wk 1 Nc ?_;refine Wp ?_ ?_<;>intro hc1
 ·have hfa:=hfl (fun i=>nth p.rd.l i&&decide ((nth G.nts.l i).lk=lk));refine Ck (Qc (Cs (Ce (Nz 1 ?_))));refine Wk 1 (Ba 1) ?_;refine Wk 0 Xc ?_;refine Wk 1 Ub ?_;refine Wj 0 ?_;refine Wj 0 ?_;refine Wj 0 ?_;refine Wj 0 ?_;refine Wj 0 ?_;refine Wt 0 rfl rfl (fun hg=>Uc 11 2) ?_;refine Wj 0 ?_;refine Wj 0 ?_;refine Wk 0 Pa ?_;refine Wp ?_ ?_<;>intro hc2
  ·refine Ny 2 ?_;refine WS.buildI1 sl37 zv3 rfl (fun _=>rfl) ?_;intro v33;refine WS.appendI (j:=1) sl37 zv3 rfl rfl rfl (fun u hu=>Jaf hu (j:=0) rfl) (by(simp;omega)) (by(simp;omega)) (fun _=>rfl) (fun _=>rfl) ?_;intro v34;refine WS.oc (j:=1) rfl (fun hv34=>?_);refine Wz 1 ?_;refine Wd (Qb (Qc (Ny 1 ?_)));refine Wk 1 Za ?_;refine Wd ?_;refine QS.sel [1,1,1] rfl ?_;exact QS.head ((a.1+1,v34)) rfl (by simp only[Jh7 (p:=(fun i=>nth p.rd.l i&&decide ((nth G.nts.l i).lk=lk))) ha1 (by simp only[Bool.and_eq_true,decide_eq_true_eq];exact hc2)]) ⟨⟨by simp;omega,by simp;omega⟩,by simp;omega⟩
  refine Ck (Qb (Qc (Ny 1 ?_)));refine Wk 1 Za ?_;exact Wd (QS.head ((a.1+1,a.2)) rfl (by simp only[←Jjz (p:=(fun i=>nth p.rd.l i&&decide ((nth G.nts.l i).lk=lk))) ha1 (by simp only[Bool.and_eq_false_iff,decide_eq_false_iff_not];exact hc2)]) ⟨⟨by simp;omega,by simp;omega⟩,by simp;omega⟩)
 have hae:a.1=G.nts.l.length:=by omega
 refine Cv (Qe (Qe (Qx (Qc (Nz 2 ?_)))));exact Wd (Qc (Cr (out1 rfl rfl (Kfl (j:=0) rfl (by rw[J09,←hae]) rfl))))
theorem J8h (G:Game) (w:World) (hG:GameOk w G) (ns:List Int) (nv:Value) (h2:SlI w nv ns) (hn:∀k∈ns,0≤k∧k<G.nts.l.length) (hm:ns.length≤1000):
  Calls prog 196 #[.agg (gcl G).toArray,nv] w (fun e w'=>∃v':Value,v'.oneCell'=true∧RetF w v' (osl 76 7 v' (clsG G ns).length (Jck (clsG G ns) (gvsG G ns))) e w'):=by
 have knt:=hG.nts;refine En func196 ?_;refine Nz 0 ?_;refine Wr 1 fun b2 hb2=>?_;refine Nx 1 ?_;refine Nv 1 ?_;refine Nu ?_;refine CS.weak (fun _ hu=>hu.osl0 (e:=76) (size:=7)) ?_;refine CS.loopM (σ:=Int×Value) (rsL [7,24]) (fun s=>[(5,s.2),(6,.int .i64 s.1)]) (fun s=>[osl 76 7 s.2 (clsG G (ns.take s.1.toNat)).length (Jck (clsG G (ns.take s.1.toNat)) (gvsG G (ns.take s.1.toNat))),blk b2 (gcl G) 36]) (fun s=>0≤s.1∧s.1≤ns.length) (fun s=>(ns.length-s.1).toNat) (0,.slice none 0 0) (fun _ _=>rfl) rfl rfl ⟨by simp,by simp⟩ ?_;intro s t hs;obtain⟨hs1,hs2⟩:=hs;have htl:=List.length_take_le s.1.toNat ns;have hcl:(clsG G (ns.take s.1.toNat)).length=(ns.take s.1.toNat).length:=by simp[clsG]
 refine Cs (Nz 2 ?_);refine Wk 1 Na ?_;refine Wp ?_ ?_<;>intro hc1
 ·have hs3:s.1<ns.length:=by omega
  have hat:=hn _ (Jac hs1 hs3);have hnt:cNote.ok w (nth G.nts.l (nth ns s.1)):=knt.at hat.1 hat.2;have hg1:=hnt.2.one1;refine Ck (Qc (Cs (Ce ?_)));refine CS.drawnTill 11 (k:=13) mixed rfl rfl ?_;refine Tr 13 [0,1] ?_;refine Tk 13 2 [3,4] rfl (Ba 1) ?_;refine Tk 13 5 [] rfl Xa ?_;refine Tk 13 6 [] rfl Ia ?_;refine Tk 13 7 [8] rfl Xc ?_;refine Tk 13 9 [] rfl (Jsn 11 4 7 rfl knt rfl ⟨by omega,by omega⟩ rfl rfl tk76) ?_;refine To 10 rfl ?_;refine WS.buildC1 sl77 zv76 (c:=(nth G.nts.l (nth ns s.1)).cl) (gv:=(nth G.nts.l (nth ns s.1)).gv) rfl (fun _=>rfl) ?_;intro v23;refine Wd (Qt ?_);refine To 11 rfl ?_;refine WS.appendCl (j:=1) (jz:=0) sl77 zv76 rfl rfl rfl (by simp[clsG,gvsG]) rfl rfl hg1 (by omega) (by omega) (fun _=>rfl) (fun _=>rfl) ?_;intro v24 hv24;refine Wd (Qt ?_);refine To 12 rfl ?_;refine Wz 1 ?_;refine Wd (Qt ?_);refine Te ?_;refine Qb (Qc (Ny 1 ?_));refine Wk 1 Za ?_;refine Wd ?_;refine QS.sel [1,1] rfl ?_;exact QS.head ((s.1+1,v24)) rfl (by simp only[clsG,gvsG,Je5 (fun i=>(nth G.nts.l i).cl) hs1 hs3,Je5 (fun i=>(nth G.nts.l i).gv) hs1 hs3]) ⟨⟨by simp;omega,by simp;omega⟩,by simp;omega⟩
 refine Cv (Qe (Qe (Qx (Qc (Nz 2 ?_)))));refine Wd (Qc (Cr ?_));refine QS.oc (j:=0) rfl (fun hv5=>?_);have hta:ns.take s.1.toNat=ns:=List.take_of_length_le (by omega);rw[hta];exact out1 rfl rfl (fun u hu=>⟨_,hv5,retF (j:=0) rfl u hu⟩)
theorem Jp8 (G:Game) (w:World) (hG:GameOk w G) (hV:GoodG G) (lk:Int) (h0:0≤lk) (h1:lk<G.lks.l.length) (ns:List Int) (nv:Value) (h2:SlI w nv ns) (hns:Jjs G lk ns) (hl:ns.length≤20):
  Calls prog 156 #[.agg (gcl G).toArray,.int .i64 lk,nv] w (RetB w (.int .i64 (Jwk G.p lk ns))):=by
 have klk:=hG.lks;have hE:=Jos hV h0 h1 hns hl;refine En func156 ?_;refine Nz 0 ?_;refine Wr 1 fun b3 hb3=>?_;refine Wd (Qc (Cs ?_));refine CS.drawnAll (k:=14) mixed rfl rfl ?_;refine Ar [0] ?_;refine Ak 1 [2] rfl (Ba 0) ?_;refine Ak 3 [] rfl Xc ?_;refine Ak 4 [] rfl Ua ?_;refine Ak 5 [6] rfl (Bb 0) ?_;refine Ao 7 rfl ?_;refine Wc rfl rfl J96 (fun u hu=>J8h G u (hG.st hu) ns nv (h2.st hu) (fun k hk↦(hns k hk).1) (by omega)) (fun _=>rfl) ?_;rintro v17 hv17;refine Wd (Qa ?_);refine Ao 8 rfl ?_;refine Wk 0 (Cb rfl rfl Kdv (fun u hu=>J1y _ _ _ _ _ u (J47 (hG.st hu) hns (Jbq hu (j:=0) rfl)))) ?_;refine Wd (Qa ?_);refine Ar [9,10,11,12,13] ?_;refine Ae ?_;refine Qc (Nz 2 ?_);exact Wd (Qc (Cr (out1 rfl rfl (Jab (by rw[Jyv,hE];rfl)))))
theorem J87 (G:Game) (w:World) (hG:GameOk w G) (hV:GoodG G) (p:Pos) (hp:PosOk w p) (hl:p.rd.l.length=G.nts.l.length) (lk:Int) (h0:0≤lk) (h1:lk<G.lks.l.length):
  Calls prog 120 #[.agg (gcl G).toArray,.agg #[p.st.ths.v,p.st.prs.v,p.st.pls.v,p.rd.v],.int .i64 lk] w (RetB w (.bool (Jey G.p p.rd.l lk))):=by
 have hnn:=hV.nn;refine En func120 ?_;refine Nz 0 ?_;refine Wr 0 fun b3 hb3=>?_;refine Wr 1 fun b4 hb4=>?_;refine Wd (Qc (Cs ?_));refine CS.drawnAll (k:=11) mixed rfl rfl ?_;refine Ak 0 [1] rfl (Bb 1) ?_;refine Ak 2 [] rfl (Bb 1) ?_;refine Ak 3 [4,7] rfl (Bb 0) ?_;refine Ak 8 [] rfl (Ba 1) ?_;refine Ao 5 rfl ?_;refine Wc rfl rfl Kcv (fun u hu=>J9t G u (hG.st hu) p (hp.toSt hu) hl (by omega) _) (fun _=>rfl) ?_;rintro vc ⟨uc,hvc⟩;refine Wd (Qa ?_);refine Ao 6 rfl ?_;refine Wk 0 (Cb rfl rfl J91 (fun u hu=>Jp8 G u (hG.st hu) hV _ h0 h1 _ _ (hu.ro (j:=0) rfl) J90 (Nat.le_trans (J8e hV _ _) (by decide)))) ?_;refine Wd (Qa ?_);refine Ar [9,10] ?_;refine Ae ?_;exact Qc (Cr (out1 rfl rfl (Jab rfl)))
theorem Jw4 (G:Game) (w:World) (hG:GameOk w G) (hV:GoodG G) (p:Pos) (hp:PosOk w p) (hI:StIn G.rm p.st.x) (hl:p.rd.l.length=G.nts.l.length):
  Calls prog 85 #[.agg (gcl G).toArray,.agg #[p.st.ths.v,p.st.prs.v,p.st.pls.v,p.rd.v]] w (RetP w (p.st.x,Jcw G.p p.st.x p.rd.l) fun v=>v):=by
 have knt:=hG.nts;have hnn:=hV.nn;have hsm:=hI.small hV.ready;have hpl:=hI.ll;refine En func85 ?_;refine Nz 0 ?_;refine Wr 0 fun b2 hb2=>?_;refine Wr 0 fun b3 hb3=>?_;refine Wq 0 zv98 fun b4 hb4=>?_;refine Nx 0 ?_;refine Wk 0 (Bb 1) ?_;refine Wc rfl rfl Kbm (fun u hu=>Ju9 p u (hp.toSt hu) ⟨hsm,by omega⟩) (fun _=>rfl) ?_;rintro⟨y,rv⟩ ⟨⟨hyx,uy,hyok⟩,hrv⟩;obtain⟨hya,hyb,hyc⟩:=hyok.ones;have hyl:y.pls.l=p.st.pls.l:=congrArg (fun q:P3=>q.2.2) hyx;have hyt:y.ths.l=p.st.ths.l:=congrArg (fun q:P3=>q.1) hyx;have ypl:=hyok.pls.ints;have hyn:y.pls.l.length≤1000000:=by rw[hyl];exact hsm.2.2
 refine WS.unpack ?_;refine Wq 0 zv98 fun b5 hb5=>?_;refine Wv 0 0 ?_;refine Nv 1 ?_;refine Nu ?_;refine CS.sel [0,1,0,0,0,0] rfl ?_;refine CS.loopM (σ:=Int×List Bool) (rsL [7,8,11,50]) (fun s=>[(6,.int .i64 s.1)]) (fun s=>[blk b5 [y.ths.v,y.prs.v,y.pls.v,rv] 98,oT cBool 4 rv s.2,roS fun u=>SttOk u y,blk b4 [.slice none 0 0,.slice none 0 0,.slice none 0 0,.slice none 0 0] 98,blk b3 [p.st.ths.v,p.st.prs.v,p.st.pls.v,p.rd.v] 98,blk b2 (gcl G) 36]) (fun s=>0≤s.1∧s.1≤G.nts.l.length∧ReadTo G.p p.st.x p.rd.l s.1 s.2) (fun s=>(G.nts.l.length-s.1).toNat) (0,p.rd.l) (fun _ _=>rfl) rfl rfl ⟨by simp,by simp,ReadTo.zero⟩ ?_;intro a t hs;obtain⟨ha1,ha2,ha3⟩:=hs;have hln:=ha3.len;refine Cs (Nz 2 ?_);refine Wk 0 (Ba 5) ?_;refine Wk 1 Nc ?_;refine Wp ?_ ?_<;>intro hc1
 ·have hnt:cNote.ok w (nth G.nts.l a.1):=knt.at ha1 (by omega);have hwh:SlT cLit w (nth G.nts.l a.1).wh:=hnt.1;have hco:Jfp p.st.ths.l.length (nth G.nts.l a.1).wh.l:=by rw[show p.st.ths.l.length=G.rm.ths.l.length from hI.lt];exact hV.cond ha1 (by omega)
  refine Ck (Qc (Cs (Ce (Nz 1 ?_))));refine Wk 1 (Ba 5) ?_;refine Wk 0 Xc ?_;refine Wk 0 Ua ?_;refine Wq 0 zv80 fun b7 hb7=>?_;refine Wv 0 0 ?_;refine Nx 1 ?_;refine Nu ?_;refine CS.loopM (σ:=Int×List Bool) (rsL [23,50]) (fun s=>[(8,.int .i64 s.1)]) (fun s=>blk b7 [.string (nth G.nts.l a.1).nm,.int .i64 (nth G.nts.l a.1).pl,.int .i64 (nth G.nts.l a.1).lk,(nth G.nts.l a.1).wh.v,.int .i64 (nth G.nts.l a.1).cl.k,.int .i64 (nth G.nts.l a.1).cl.a,.int .i64 (nth G.nts.l a.1).cl.b,.int .i64 (nth G.nts.l a.1).cl.n,.int .i64 (nth G.nts.l a.1).cl.m,(nth G.nts.l a.1).gv,.bool (nth G.nts.l a.1).cl.nt] 80::[blk b5 [y.ths.v,y.prs.v,y.pls.v,rv] 98,oT cBool 4 rv s.2,roS fun u=>SttOk u y,blk b4 [.slice none 0 0,.slice none 0 0,.slice none 0 0,.slice none 0 0] 98,blk b3 [p.st.ths.v,p.st.prs.v,p.st.pls.v,p.rd.v] 98,blk b2 (gcl G) 36]) (fun s=>0≤s.1∧s.1≤y.pls.l.length∧s.2=if Jiw p.st.x (nth G.nts.l a.1).p s.1=true then a.2.set a.1.toNat true else a.2) (fun s=>(y.pls.l.length-s.1).toNat) (0,a.2) (fun _ _=>rfl) rfl rfl ⟨by simp,by simp,by rw[Jqz];rfl⟩ ?_;intro d t hs;obtain⟨hd1,hd2,hd3⟩:=hs;have hdl:d.2.length=a.2.length:=by rw[hd3];split<;>simp
  have hsn:=fun h:d.1<p.st.x.2.2.length=>Jre (x:=p.st.x) (n:=(nth G.nts.l a.1).p) hd1 h;refine Cs (Nz 3 ?_);refine Wk 0 (Ba 1) ?_;refine Wk 1 (Jbt sl37 rfl ypl) ?_;refine Wp ?_ ?_<;>intro hc2
  ·refine Ck (Qc (Cs (Ce (Cs (Dr mixed 2 ?_)))));refine Dk 1 (Ba 1) ?_;refine Dk 0 (Jm0 sl37 rfl rfl ypl (by omega) (by omega)) ?_;refine Dk 1 (J8n (j:=3) rfl (fun u (h:SttOk u y)=>h.pls.ints) rfl (by omega) tk3) ?_;refine Dk 2 (Ba 0) ?_;refine Dj 0 ?_;refine Dt 0 rfl rfl (fun hg=>Bc 1) ?_;refine Dj 0 ?_;refine Dj 0 ?_;refine Dt 0 rfl rfl (fun hg=>Cb rfl (ec_ (eg_ hg rfl) (ec_ (eg_ hg rfl) en_)) Jln (fun u hu=>Jes y u (hu.ro (j:=3) rfl) (nth G.nts.l a.1).wh (hwh.st hu) (by rw[hyt];exact hco))) ?_;refine Dk 0 Pa ?_;refine Dd (Qc (Cn ?_ ?_))<;>intro hc3
   ·refine Ny 1 ?_;refine Wk 1 (Ba 1) ?_;refine Wk 0 (Jba (j:=2) sl96 rfl rfl rfl rfl (by omega) (by omega)) ?_;refine WS.storeTc (C:=cBool) 1 0 true (j:=2) rfl rfl rfl ⟨by omega,by omega⟩ (by decide) rfl rfl tk4 rfl rfl ?_;refine Wd (Qb (Qc (Ny 1 ?_)));refine Wk 1 Za ?_;refine Wd ?_
    exact QS.head ((d.1+1,d.2.set a.1.toNat true)) rfl rfl ⟨⟨by simp;omega,by simp;omega,by
        simp only;rw[hsn (by show d.1<(p.st.pls.l.length:Int);rw[←hyl];omega),show(decide (nth p.st.x.2.2 d.1=(nth G.nts.l a.1).p.pl)&&Jb3 p.st.x.1 (nth G.nts.l a.1).p.wh)=true by(simp only[Bool.and_eq_true,decide_eq_true_eq,Stt.x,←hyl,←hyt];exact hc3),Bool.or_true,if_pos rfl,hd3];split
        ·rw[List.set_set]
        rfl⟩,by simp;omega⟩
   refine Ck (Qb (Qc (Ny 1 ?_)));refine Wk 1 Za ?_;refine Wd ?_
   exact QS.head ((d.1+1,d.2)) rfl rfl ⟨⟨by simp;omega,by simp;omega,by
       simp only
       rw[hsn (by show d.1<(p.st.pls.l.length:Int);rw[←hyl];omega),show(decide (nth p.st.x.2.2 d.1=(nth G.nts.l a.1).p.pl)&&Jb3 p.st.x.1 (nth G.nts.l a.1).p.wh)=false by(simp only[Bool.and_eq_false_iff,decide_eq_false_iff_not,Stt.x,←hyl,←hyt];exact hc3),Bool.or_false,hd3]⟩,by simp;omega⟩
  refine Cv (Qe (Qe (Qx (Qb (Qc (Ny 1 ?_))))));refine Wk 1 Za ?_;refine Wd ?_;refine QS.sel [1,1,1,1,1,1] rfl ?_;exact QS.head ((a.1+1,d.2)) rfl rfl ⟨⟨by simp;omega,by simp;omega,ha3.next ha1 (by omega) (by rw[hd3,Game.p_nts,Jvy (by show p.st.pls.l.length≤d.1;rw[←hyl];omega)])⟩,by simp;omega⟩
 refine Cv (Qe (Qe (Qx (Qc (Nz 0 ?_)))));refine Wk 0 (Bb 0) ?_;refine Wv 0 3 ?_;exact Wd (Qc (Cr (outR (resc rfl (Jam (j:=3) rfl rfl tk98)) (fun u hu=>Kd1 (f:=fun v=>v) (is:=[2,1]) rfl (by rw[hyx,ha3.done (by omega)]) hu))))
theorem Jqa (G:Game) (w:World) (hG:GameOk w G) (hn:NearG G) (p:Pos) (hp:PosOk w p) (hP:GoodP G p) (m:Move) (hL:legalB G.rm p.st.x m=true):
  Calls prog 88 #[.agg (gcl G).toArray,.agg #[p.st.ths.v,p.st.prs.v,p.st.pls.v,p.rd.v],.agg #[.int .i64 m.p,.int .i64 m.k,.int .i64 m.n]] w (RetB w (.bool (Jav G.p p.x m))):=by
 have hR:=hP.ready;have hI:=hP.inn;have hdo:=Jt2 hR hI hL;have kac:=hG.rm.acs;have lac:=hG.rm.acs.le;have hxx:p.x.1=p.st.x:=rfl;refine En func88 ?_;refine Nz 0 ?_;refine Wr 0 fun b3 hb3=>?_;refine Wr 0 fun b4 hb4=>?_;refine Wr 1 fun b5 hb5=>?_;refine Nx 1 ?_;refine Wk 1 (Bc 2) ?_;refine Wk 0 (Bc 1) ?_;refine Wk 0 (Bb 0) ?_;refine Wc rfl rfl J9x (fun u hu=>Jok G.rm u (hG.rm.st hu) p.st (hp.st.st hu) hR hI m hL) (fun _=>rfl) ?_;rintro y ⟨hyx,uy,hyok⟩;obtain⟨hya,hyb,hyc⟩:=hyok.ones;refine Wz 3 ?_;refine Wq 0 zv95 fun b7 hb7=>?_;refine Wv 1 0 ?_;refine Nv 2 ?_;refine Wp ?_ ?_<;>intro hc1
 ·refine Nz 1 ?_;exact Wd (Qc (Cr (Qr (out1 rfl rfl (Jab (by rw[Jav,hxx,Jfd,if_pos hL,hc1];rfl))))))
 refine Ck (Qc (Cs (Dr mixed 1 ?_)));refine Dk 2 (Ba 2) ?_;refine De 0 ?_;refine De 0 ?_;refine De 0 ?_;refine De 0 ?_;refine De 0 ?_;refine De 0 ?_;refine De 0 ?_;refine Df 0 rfl rfl (fun hg=>Uc 8 2) ?_;refine De 0 ?_;refine Dk 1 Po ?_;refine De 0 ?_;refine De 0 ?_;refine De 0 ?_;refine De 0 ?_;refine De 0 ?_;refine De 0 ?_;refine De 0 ?_;refine De 0 ?_;refine De 0 ?_;refine Df 0 rfl rfl (fun hg=>Uc 8 2) ?_;refine Df 0 rfl rfl (fun hg=>Cb rfl (ec_ (eg_ hg rfl) (ec_ (eg_ hg rfl) (ec_ (eg_ hg rfl) en_))) Kaz (fun u hu=>J87 G u (hG.st hu) hP.toGoodG p (hp.toSt hu) hP.ln (nth G.rm.acs.l m.n).lk (by(try simp only[bq]at hg);omega) (hP.alk (by(try simp only[bq]at hg);omega) (by(try simp only[bq]at hg);omega)))) ?_;refine Dk 1 Po ?_;exact Dd (Qc (Cr (out1 rfl rfl (Jab (by rw[Jav,hxx,Jfd,if_pos hL,hc1,mayB,Game.p_alk,←Bool.or_assoc];simp[Pos.x])))))
theorem Jt7 (G:Game) (w:World) (hG:GameOk w G) (hn:NearG G) (p:Pos) (hp:PosOk w p) (hP:GoodP G p):
  Calls prog 53 #[.agg (gcl G).toArray,.agg #[p.st.ths.v,p.st.prs.v,p.st.pls.v,p.rd.v]] w (RetM w (Jae G.p p.x) fun v=>v):=by
 have hR:=hP.ready;have hI:=hP.inn;have hll:=Jkf hR p.st.x;refine En func53 ?_;refine Nz 0 ?_;refine Wr 0 fun b2 hb2=>?_;refine Wr 1 fun b3 hb3=>?_;refine Nx 1 ?_;refine Nx 1 ?_;refine Wk 1 (Bc 1) ?_;refine Wk 0 (Bc 0) ?_;refine Wc rfl rfl Kfb (fun u hu=>Jnm G.rm u (hG.rm.st hu) p.st (hp.st.st hu) hR hI) (fun _=>rfl) ?_;rintro ml ⟨uml,hml⟩;refine Wz 1 ?_;refine Nv 1 ?_;refine Nu ?_;refine CS.weak (fun _ hu=>hu.osl0 (e:=49) (size:=3)) ?_;refine CS.loopM (σ:=Int×Value) (rsL [13,32]) (fun s=>[(7,.int .i64 s.1),(5,s.2)]) (fun s=>[oT cMove 49 s.2 (((Jax G.rm p.st.x).take s.1.toNat).filter (Jav G.p p.x)),roT cMove ⟨ml,Jax G.rm p.st.x⟩,blk b3 [p.st.ths.v,p.st.prs.v,p.st.pls.v,p.rd.v] 98,blk b2 (gcl G) 36]) (fun s=>0≤s.1∧s.1≤(Jax G.rm p.st.x).length) (fun s=>((Jax G.rm p.st.x).length-s.1).toNat) (0,.slice none 0 0) (fun _ _=>rfl) rfl rfl ⟨by simp,by simp⟩ ?_;intro a t hs;obtain⟨ha1,ha2⟩:=hs;refine Cs (Nz 2 ?_);refine Wk 1 (Nc (s:=⟨ml,Jax G.rm p.st.x⟩)) ?_;refine Wp ?_ ?_<;>intro hc1
 ·have hLm:=Jzp ha1 (show a.1<(Jax G.rm p.st.x).length by omega);have hfl:=Jsi (p:=Jav G.p p.x) (l:=Jax G.rm p.st.x) (n:=a.1.toNat);refine Ck (Qc (Cs (Ce (Cs (Dr mixed 0 ?_)))));refine Dk 0 (Bb 3) ?_;refine Dk 2 (Bb 2) ?_;refine Dk 0 (Xc (s:=⟨ml,Jax G.rm p.st.x⟩)) ?_;refine Dk 0 (Jd2 (jj:=1) (s:=⟨ml,Jax G.rm p.st.x⟩) rfl rfl rfl ⟨(by omega),(by omega)⟩ rfl tk49) ?_;refine Dk 0 (Cb rfl rfl Ke8 (fun u hu=>Jqa G u (hG.st hu) hn p (hp.toSt hu) hP _ hLm)) ?_;refine Dd (Qc (Cn ?_ ?_))<;>intro hc2
  ·refine Ny 3 ?_;refine Wk 0 (Xc (s:=⟨ml,Jax G.rm p.st.x⟩)) ?_;refine Wk 0 (Jd2 (jj:=1) (s:=⟨ml,Jax G.rm p.st.x⟩) rfl rfl rfl ⟨(by omega),(by omega)⟩ rfl tk49) ?_;refine WS.buildT1 cMove (a:=nth (Jax G.rm p.st.x) a.1) sl42 zv49 rfl (by decide) (fun _=>rfl) ?_;intro v31;refine WS.appendT1 (j:=1) (jz:=0) sl42 zv49 rfl (by decide) rfl rfl rfl rfl (w:=w) trivial (by omega) (by omega) (fun _=>rfl) (fun _=>rfl) ?_;intro v32 hv32;refine Wz 1 ?_;refine Wd (Qb (Qc (Ny 1 ?_)));refine Wk 1 Za ?_;refine Wd ?_;refine QS.sel [1,1,1,1] rfl ?_;exact QS.head ((a.1+1,v32)) rfl (by first|simp only[Jnu ha1 (show a.1<(Jax G.rm p.st.x).length by omega) hc2]|simp only[←Jrj ha1 (show a.1<(Jax G.rm p.st.x).length by omega) hc2]) ⟨⟨by simp;omega,by simp;omega⟩,by simp;omega⟩
  refine Ck (Qb (Qc (Ny 1 ?_)));refine Wk 1 Za ?_;exact Wd (QS.head ((a.1+1,a.2)) rfl (by first|simp only[Jnu ha1 (show a.1<(Jax G.rm p.st.x).length by omega) hc2]|simp only[←Jrj ha1 (show a.1<(Jax G.rm p.st.x).length by omega) hc2]) ⟨⟨by simp;omega,by simp;omega⟩,by simp;omega⟩)
 have hta:(Jax G.rm p.st.x).take a.1.toNat=Jax G.rm p.st.x:=List.take_of_length_le (by omega);refine Cv (Qe (Qe (Qx (Qc (Nz 2 ?_)))));refine Wd (Qc (Cr ?_))
 exact out1 rfl rfl (by
   rw[Jgk,show(Jax G.rm p.x.1).filter (Jav G.p p.x)=((Jax G.rm p.st.x).take a.1.toNat).filter (Jav G.p p.x) by rw[hta];rfl]
   exact fun u hu=>retM (f:=fun v=>v) (j:=0) rfl hu)
theorem Kde (G:Game) (w:World) (hG:GameOk w G) (hn:NearG G) (p:Pos) (hp:PosOk w p):
  Calls prog 151 #[.agg (gcl G).toArray,.agg #[p.st.ths.v,p.st.prs.v,p.st.pls.v,p.rd.v]] w (RetM w (CanV G.p p.x).2 fun v=>.tuple #[v,.int .i64 (CanV G.p p.x).1]):=by
 refine En func151 ?_;refine Nz 0 ?_;refine Wr 0 fun b2 hb2=>?_;refine Wr 2 fun b3 hb3=>?_;refine Nx 0 ?_;refine Wk 0 (Bb 1) ?_;refine Wk 0 (Bb 0) ?_;refine Wk 1 (Cb rfl rfl Kas (fun u hu=>Kdc G u (hG.st hu) hn p (hp.toSt hu))) ?_;refine Nv 2 ?_;refine Wp ?_ ?_<;>intro hc1
 ·have hv:CanV G.p p.x=(posG G.p p.x,[]):=if_neg hc1;refine Nz 3 ?_;refine Wd (Qc (Cr (Qr ?_)))
  exact out2 rfl rfl rfl (by
    rw[hv]
    exact fun u hu=>J84 (f:=fun v=>.tuple #[v,.int .i64 (posG G.p p.x)]) hu)
 have hv:CanV G.p p.x=(0,Jae G.p p.x):=if_pos hc1;have hP:=Jb6 hc1;refine Ck (Qc (Nz 0 ?_));refine Wk 0 (Bb 1) ?_;refine Wk 0 (Bb 0) ?_;refine Wc rfl rfl Kck (fun u hu=>Jt7 G u (hG.st hu) hn p (hp.toSt hu) hP) (fun _=>rfl) ?_;rintro y ⟨uy,hy⟩;refine Wz 2 ?_;refine Wd (Qc (Cr ?_))
 exact out2 rfl rfl rfl (by
   rw[hv]
   exact fun u hu=>Ke6 (f:=fun v=>.tuple #[v,.int .i64 0]) (j:=0) rfl hu)
theorem Jd5 {G:Game} {p:Pos} {m:Move} (h:Jav G.p p.x m=true):legalB G.rm p.st.x m=true:=by
 unfold Jav at h;rw[Jfd]at h
 by_cases hL:legalB G.rm p.x.1 m=true
 ·exact hL
 rw[if_neg hL]at h;simp at h
theorem J1h {G:Game} {p:Pos} {m:Move} (h:Jav G.p p.x m=true):(settleV G.rm (moveX G.rm p.st.x m)).isSome=true:=by
 have hL:legalB G.rm p.x.1 m=true:=Jd5 h;unfold Jav at h;rw[Jfd,if_pos hL,Bool.and_eq_true]at h;exact h.1
theorem Jzs {G:Game} {p:Pos} {m:Move} (hP:GoodP G p) (h:Jav G.p p.x m=true):StIn G.rm ((settleV G.rm (moveX G.rm p.st.x m)).getD no3):=by
 have h1:=J1h h;cases hs:settleV G.rm (moveX G.rm p.st.x m)with
 |none=>rw[hs]at h1;cases h1
 |some y=>exact Jgc hP.ready (Jol hP.ready hP.inn (Jd5 h)) hs
theorem Jxy {G:Game} {p:Pos} {m:Move} (h:Jav G.p p.x m=true):Ja6 G.p p.x m=((settleV G.rm (moveX G.rm p.st.x m)).getD no3,Jcw G.p ((settleV G.rm (moveX G.rm p.st.x m)).getD no3) p.rd.l):=by
 have hL:legalB G.rm p.x.1 m=true:=Jd5 h;unfold Ja6;rw[Jfd,if_pos hL]
 rfl
theorem Jnz {G:Game} {p:Pos} {m:Move} (hP:GoodP G p) (h:Jav G.p p.x m=true):m∈Jae G.p p.x:=by
 rw[Jgk,List.mem_filter];refine⟨?_,h⟩;have h1:=Jzy hP.ready hP.inn m;rw[Jd5 h,List.any_eq_true]at h1;obtain⟨y,hy,he⟩:=h1;rw[←of_decide_eq_true he];exact hy
theorem Jvt {G:Game} {p:Pos} {i:Int} (h0:0≤i) (h1:i<(Jae G.p p.x).length):Jav G.p p.x (nth (Jae G.p p.x) i)=true:=by
 have:=Jac h0 h1;rw[Jgk]at this;rw[Jgk];exact(List.mem_filter.1 this).2
theorem Jxo {G:Game} {p:Pos} {m:Move} (hP:GoodP G p) (h:∀j:Int,0≤j→j<(Jae G.p p.x).length→nth (Jae G.p p.x) j≠m):¬Jav G.p p.x m=true:=fun hc=>by
 obtain⟨i,hi,he⟩:=List.mem_iff_getElem.1 (Jnz hP hc);refine h (i:Int) (by omega) (by omega) ?_;rw[←he];simp[nth,List.getD,hi]
theorem Jhr {G:Game} {p:Pos} (hP:GoodP G p):(Jae G.p p.x).length≤384:=by
 have:=Jkf hP.ready p.st.x;have h2:=List.length_filter_le (Jav G.p p.x) (Jax G.rm p.st.x);rw[Jgk];exact Nat.le_trans h2 this
theorem Jqh (G:Game) (w:World) (hG:GameOk w G) (p:Pos) (hp:PosOk w p) (hP:GoodP G p) (m:Move) (hq:Jav G.p p.x m=true):
  Calls prog 54 #[.agg (gcl G).toArray,.agg #[p.st.ths.v,p.st.prs.v,p.st.pls.v,p.rd.v],.agg #[.int .i64 m.p,.int .i64 m.k,.int .i64 m.n]] w (RetP w (Ja6 G.p p.x m) fun v=>v):=by
 have hR:=hP.ready;have hI:=hP.inn;have hL:=Jd5 hq;have hIy:=Jzs hP hq;refine En func54 ?_;refine Nz 0 ?_;refine Wr 0 fun b3 hb3=>?_;refine Wr 0 fun b4 hb4=>?_;refine Wr 0 fun b5 hb5=>?_;refine Wq 0 zv98 fun b6 hb6=>?_;refine Nx 1 ?_;refine Wk 1 (Bc 3) ?_;refine Wk 0 (Bc 2) ?_;refine Wk 0 (Bb 1) ?_;refine Wc rfl rfl J9x (fun u hu=>Jok G.rm u (hG.rm.st hu) p.st (hp.st.st hu) hR hI m hL) (fun _=>rfl) ?_;rintro y ⟨hyx,uy,hyok⟩;obtain⟨hya,hyb,hyc⟩:=hyok.ones;refine Wz 3 ?_;refine Wq 0 zv95 fun b7 hb7=>?_;refine Wv 1 0 ?_;refine Nx 0 ?_;refine Wk 0 (Bb 5) ?_;refine Wk 1 (Bb 0) ?_;refine Wk 0 (Ba 4) ?_;refine Wk 0 (Jaq Jeb zv98 (pcs:=[(0,[y.ths.v,y.prs.v,y.pls.v]),(1,[p.rd.v])]) rfl (CellsOf.agg (CellsOf.one (Sl.one hp.rd) CellsOf.nil)) rfl) ?_;refine Wc rfl rfl Kcx (fun u hu=>Jw4 G u (hG.st hu) hP.toGoodG ⟨y,p.rd⟩ ⟨hu.ro (j:=1) rfl,hp.rd.st hu⟩ (by rw[show y.x=((settleV G.rm (moveX G.rm p.st.x m)).getD no3)from hyx];exact hIy) hP.ln) (fun _=>rfl) ?_;rintro z ⟨hzx,uz,hzok⟩;obtain⟨hza,hzb,hzc⟩:=hzok.st.ones;have hzd:=Sl.one hzok.rd;refine Wv 0 3 ?_;exact Wd (Qc (Cr (outR (resc rfl (Jam (j:=3) rfl rfl tk98)) (fun u hu=>Jvs (f:=fun v=>v) (j:=0) rfl (by rw[hzx,Jxy hq,←hyx]) hu))))
theorem Jw1 (G:Game) (w:World) (hG:GameOk w G) (hn:NearG G) (p:Pos) (hp:PosOk w p) (m:Move):
  Calls prog 109 #[.agg (gcl G).toArray,.agg #[p.st.ths.v,p.st.prs.v,p.st.pls.v,p.rd.v],.agg #[.int .i64 m.p,.int .i64 m.k,.int .i64 m.n]] w (RetP w (Jak G.p p.x m).2 fun v=>.tuple #[v,.int .i64 (Jak G.p p.x m).1]):=by
 refine En func109 ?_;refine Nz 0 ?_;refine Wr 0 fun b3 hb3=>?_;refine Wr 0 fun b4 hb4=>?_;refine Wr 0 fun b5 hb5=>?_;refine Wq 1 zv98 fun b6 hb6=>?_;refine Nx 0 ?_;refine Wk 0 (Bb 3) ?_;refine Wk 0 (Bb 2) ?_;refine Wc rfl rfl Kat (fun u hu=>Kde G u (hG.st hu) hn p (hp.toSt hu)) (fun _=>rfl) ?_;rintro ml ⟨uml,hml⟩;refine Wz 5 ?_;refine Nv 2 ?_;refine Wp ?_ ?_<;>intro hc1
 ·have hq:¬posG G.p p.x=0:=by rw[←J65];exact hc1
  refine Nz 0 ?_;refine Wk 1 (Db Jeb zv98) ?_;refine Wv 1 1 ?_;refine Wd (Qc (Cr (Qr ?_)))
  exact outR (Jb4 rfl (Jam (j:=1) rfl rfl tk98) rfl) (by
    have hv:Jak G.p p.x m=((CanV G.p p.x).1,noP):=by rw[J65];exact if_neg hq
    rw[hv]
    exact fun u hu=>Jpl (f:=fun v=>.tuple #[v,.int .i64 (CanV G.p p.x).1]) hu)
 have hq:posG G.p p.x=0:=by rw[←J65];exact hc1
 have hP:=Jb6 hq;have hcv:(CanV G.p p.x).2=Jae G.p p.x:=by rw[show CanV G.p p.x=(0,Jae G.p p.x)from if_pos hq]
 rw[hcv]at hml⊢;have hmn:=Jhr hP;refine Ck (Qc (Cs (Nz 1 ?_)));refine Nu ?_;refine CS.loopM (σ:=Int) (rsL [7,7,21,36]) (fun s=>[(10,.int .i64 s)]) (fun _=>_) (fun s=>0≤s∧s≤(Jae G.p p.x).length∧∀j:Int,0≤j→j<s→nth (Jae G.p p.x) j≠m) (fun s=>((Jae G.p p.x).length-s).toNat) 0 (fun _ _=>rfl) rfl rfl ⟨by omega,by omega,fun j a b↦by omega⟩ ?_;intro i t hs;obtain⟨hi1,hi2,hi3⟩:=hs;refine Cs (Nz 2 ?_);refine Wk 1 (Nc (s:=⟨ml,Jae G.p p.x⟩)) ?_;refine Wp ?_ ?_<;>intro hc2
 ·refine Ck (Qc (Cs (Ce (Cs (Dr mixed 2 ?_)))));refine Dk 0 (Xc (s:=⟨ml,Jae G.p p.x⟩)) ?_;refine Dk 0 (Jd2 (jj:=0) (s:=⟨ml,Jae G.p p.x⟩) rfl rfl rfl ⟨(by omega),(by omega)⟩ rfl tk49) ?_;refine Dk 0 (Bb 2) ?_;refine Dk 0 (Jj6 J0w rfl rfl (Jms _ _)) ?_;refine Dd (Qc (Cn ?_ ?_))<;>intro hc3
  ·have hpb:Jav G.p p.x m=true:=by rw[←hc3];exact Jvt hi1 (by omega)
   refine Nz 0 ?_;refine Wk 0 (Bb 4) ?_;refine Wk 0 (Bb 3) ?_;refine Wk 0 (Bb 2) ?_;refine Wc rfl rfl J66 (fun u hu=>Jqh G u (hG.st hu) p (hp.toSt hu) hP m hpb) (fun _=>rfl) ?_;rintro z ⟨hzx,uz,hzok⟩;obtain⟨hza,hzb,hzc⟩:=hzok.st.ones;have hzd:=Sl.one hzok.rd;refine Wv 1 2 ?_;refine Wd (Qc (Cr (Qs (Qr (Qr (Qs (Qr ?_)))))))
   exact outR (Jb4 rfl (Jam (j:=2) rfl rfl tk98) rfl) (by
     have hv:Jak G.p p.x m=(0,Ja6 G.p p.x m):=(if_pos hq).trans (if_pos hpb);rw[hv]
     exact fun u hu=>Jvs (f:=fun v=>.tuple #[v,.int .i64 0]) (j:=0) rfl hzx hu)
  refine Ck (Qb (Qc (Ny 1 ?_)));refine Wk 1 Za ?_;refine Wd ?_
  exact QS.head (i+1) rfl rfl ⟨⟨by omega,by omega,fun j a b↦by
      by_cases e:j=i
      ·rw[e];exact hc3
      exact hi3 j a (by omega)⟩,by omega⟩
 have hnp:=Jxo (m:=m) hP fun j h0 h1=>hi3 j h0 (by omega);refine Cv (Qe (Qe (Qx (Qc (Nz 0 ?_)))));refine Wk 0 (Db Jeb zv98) ?_;refine Wv 1 1 ?_;refine Wd (Qc (Cr ?_))
 exact outR (Jb4 rfl (Jam (j:=1) rfl rfl tk98) rfl) (by
   have hv:Jak G.p p.x m=(29,noP):=(if_pos hq).trans (if_neg hnp);rw[hv]
   exact fun u hu=>Jpl (f:=fun v=>.tuple #[v,.int .i64 29]) hu)
theorem GoodP.small {G:Game} {p:Pos} (h:GoodP G p):(p.st.ths.l.length≤1000000∧p.st.prs.l.length≤1000000∧p.st.pls.l.length≤1000000)∧p.rd.l.length≤1000000:=by
 have h1:=h.ln;have h2:=h.nn;exact⟨h.inn.small h.ready,by omega⟩
theorem J4j {G:GP} {x:PX} {m:Move} (h:(Jak G x m).1=0):posG G x=0:=by
 unfold Jak at h;split at h
 ·assumption
 exact h
theorem J30 {n:Nat}:(Jdx n).length=n:=by simp[Jdx]
theorem Jvd {r:Room} (hC:checkE r=0) {x:P3} (h:(SettleV r x).1=0):StIn r (SettleV r x).2:=by
 unfold SettleV at h⊢;split
 ·rename_i hs;rw[if_pos hs]at h;have hI:=(Jd8.1 hs).2;cases hy:settleV r x with
  |none=>rw[hy]at h;cases h
  |some y=>exact Jgc (Jdn hC) hI hy
 rename_i hs;rw[if_neg hs]at h;exact absurd h hs
theorem Jkx {r:Room} (hC:checkE r=0) (h:(BeginV r).1=0):StIn r (BeginV r).2:=by
 unfold BeginV at h⊢;rw[if_pos hC]at h⊢;exact Jvd hC h
section
variable {P:Program} {ro:Option Nat} {n0:Nat} {w0:World} {ds:List Deferred} {ops:Array Oper} {Q:Exit→Act→World→Prop} {L:List SA}
 {rest:List Oper} {l:List Value} {ty:TypeId} {ps:String} {af:Array Edge}
theorem WS.makeB {T e:TypeId} {by_:Nat} {x y:Operand} {i:Nat} {n:Int} (hT:sl P T=some (e,1,by_)) (hx:evo l x=some (.int .i64 n)) (hy:evo l y=some (.int .i64 n)) (hz:zv P e=some [.bool false])
  (h0:0≤n) (hb:(by_:Int)*n≤281474976710656) (hm:n≤9223372036854775807)
  {l':Value→List Value} (hl:∀v,lset l i v=some (l' v)) (k:∀v,WS P ro n0 w0 ds ops Q (oT cBool e v (List.replicate n.toNat false)::L) rest (l' v)):
  WS P ro n0 w0 ds ops Q L (⟨some i,.makeSlice T x y,ty,ps,af,none⟩::rest) l:=by
 refine WS.makeSlice (z:=e) hT hx hy hz rfl h0 rfl hb hm hl fun v=>?_;have:=k v;unfold oT Jas at this;rw[List.map_replicate,List.length_replicate]at this;exact this
end
theorem Jrx (G:Game) (w:World) (hG:GameOk w G) (hn:NearG G):
  Calls prog 51 #[.agg (gcl G).toArray] w (RetP w (Jad G.p).2 fun v=>.tuple #[v,.int .i64 (Jad G.p).1]):=by
 have knt:=hG.nts;have lnt:=hG.nts.le;have hbv:BeginV G.p.rm=BeginV G.rm:=(G.p_alike.BeginV).symm;refine En func51 ?_;refine Nz 0 ?_;refine Wr 0 fun b1 hb1=>?_;refine Wq 1 zv98 fun b2 hb2=>?_;refine Nx 0 ?_;refine Wk 0 (Bb 1) ?_;refine Wk 1 (Cb rfl rfl J8v (fun u hu=>Jk9 G u (hG.st hu) hn)) ?_;refine Nv 2 ?_;refine Wp ?_ ?_<;>intro hc1
 ·refine Nz 0 ?_;refine Wk 1 (Db Jeb zv98) ?_;refine Wv 1 0 ?_;refine Wd (Qc (Cr (Qr ?_)))
  exact outR (Jb4 rfl (Jam (j:=0) rfl rfl tk98) rfl) (by
    have hv:Jad G.p=(Jbn G.p,noP):=if_neg hc1;rw[hv]
    exact fun u hu=>Jpl (f:=fun v=>.tuple #[v,.int .i64 (Jbn G.p)]) hu)
 have hV:=Jkz hc1;have hnn:=hV.nn;refine Ck (Qc (Nz 1 ?_));refine Wk 0 (Bc 1) ?_;refine Wc rfl rfl Kfx (fun u hu=>J23 G.rm u (hG.rm.st hu) hn.rm) (fun _=>rfl) ?_;rintro y ⟨hyx,uy,hyok⟩;obtain⟨hya,hyb,hyc⟩:=hyok.ones;refine Wz 3 ?_;refine Wq 0 zv95 fun b5 hb5=>?_;refine Wv 1 0 ?_;refine Nv 2 ?_;refine Wp ?_ ?_<;>intro hc2
 ·refine Nz 0 ?_;refine Wk 1 (Db Jeb zv98) ?_;refine Wv 1 2 ?_;refine Wd (Qc (Cr (Qr ?_)))
  exact outR (Jb4 rfl (Jam (j:=2) rfl rfl tk98) rfl) (by
    have hv:Jad G.p=((BeginV G.rm).1,noP):=(if_pos hc1).trans (by rw[hbv];exact if_neg hc2);rw[hv]
    exact fun u hu=>Jpl (f:=fun v=>.tuple #[v,.int .i64 (BeginV G.rm).1]) hu)
 have hb0:(BeginV G.rm).1=0:=hc2;have hIy:=Jkx hV.ck hb0;refine Ck (Qc (Cs ?_));refine CS.drawnTill 8 (k:=10) mixed rfl rfl ?_;refine Tk 10 0 [] rfl (Bb 3) ?_;refine Tk 10 1 [2] rfl (Bb 0) ?_;refine Tk 10 3 [] rfl (Ba 3) ?_;refine Tk 10 4 [] rfl Nc ?_;refine To 5 rfl ?_;refine WS.makeB sl96 rfl rfl zv4 (by omega) (by omega) (by omega) (fun _=>rfl) ?_;intro v27;refine WS.oc (j:=0) rfl (fun hv27=>?_);refine Wd (Qt ?_);refine To 6 rfl ?_;refine Wk 0 (Jaq Jeb zv98 (pcs:=[(0,[y.ths.v,y.prs.v,y.pls.v]),(1,[v27])]) rfl (CellsOf.agg (CellsOf.one hv27 CellsOf.nil)) rfl) ?_;refine Wd (Qt ?_);refine To 7 rfl ?_;refine Wc rfl rfl Kcx (fun u hu=>Jw4 G u (hG.st hu) hV ⟨y,⟨v27,List.replicate (G.nts.l.length:Int).toNat false⟩⟩ ⟨hu.ro (j:=2) rfl,Jds hu (j:=0) rfl fun _ _↦trivial⟩ (by rw[show y.x=(BeginV G.rm).2 from hyx];exact hIy) (by simp)) (fun _=>rfl) ?_;rintro z ⟨hzx,uz,hzok⟩;obtain⟨hza,hzb,hzc⟩:=hzok.st.ones;have hzd:=Sl.one hzok.rd;refine Wd (Qt ?_);refine To 8 rfl ?_;refine Wv 0 4 ?_;refine Wd (Qt ?_);refine To 9 rfl ?_;refine Wz 1 ?_;refine Wd (Qt ?_);refine Te ?_;refine Qc (Cr ?_)
 exact outR (Jb4 rfl (Jam (j:=4) rfl rfl tk98) rfl) (by
   have hv:Jad G.p=(0,(BeginV G.rm).2,Jcw G.p (BeginV G.rm).2 (List.replicate G.nts.l.length false)):=(if_pos hc1).trans (by rw[hbv,Game.p_nlen];exact if_pos hb0);rw[hv]
   exact fun u hu=>Jvs (f:=fun v=>.tuple #[v,.int .i64 0]) (j:=0) rfl (by rw[hzx,←hyx];simp) hu)
theorem J7f (G:Game) (w:World) (hG:GameOk w G) (hnn:G.nts.l.length≤1000) (lk:Int) (f:FuncId) (cap:List Value) (q:Int→Bool) (hf:Ent prog f)
  (hq:∀u,Below w.heap.size w u→∀i:Int,0≤i→i<G.nts.l.length→Calls prog f ([.int .i64 i]++cap:List Value).toArray u (RetB u (.bool (q i)))):
  Calls prog 228 #[.agg (gcl G).toArray,.int .i64 lk,.func (.func f) #[] cap.toArray] w (fun e w'=>∃x:Value×Value,(x.1.oneCell'=true∧x.2.oneCell'=true)∧RetF w (.tuple #[x.1,x.2]) (star [oints 3 x.1 (Jgu G.p lk q),osl 76 7 x.2 (clsG G (Jgu G.p lk q)).length (Jck (clsG G (Jgu G.p lk q)) (gvsG G (Jgu G.p lk q)))]) e w'):=by
 have knt:=hG.nts;have lnt:=hG.nts.le;refine En func228 ?_;refine Nz 0 ?_;refine Wr 2 fun b3 hb3=>?_;refine Nv 1 ?_;refine Wk 0 (Ba 0) ?_;refine Wk 1 Nc ?_;refine Nu ?_;refine CS.weak (fun _ hu=>hu.osl0 (e:=76) (size:=7)) ?_;refine CS.weak (fun _ hu=>hu.osl0 (e:=3) (size:=1)) ?_;refine CS.loopM (σ:=Int×Value×Value) (rsL [8,9,14,36]) (fun s=>[(6,s.2.1),(7,s.2.2),(13,.int .i64 s.1)]) (fun s=>[oints 3 s.2.1 (filI s.1 (fun i=>decide ((nth G.nts.l i).lk=lk)&&q i)),osl 76 7 s.2.2 (clsG G (filI s.1 (fun i=>decide ((nth G.nts.l i).lk=lk)&&q i))).length (Jck (clsG G (filI s.1 (fun i=>decide ((nth G.nts.l i).lk=lk)&&q i))) (gvsG G (filI s.1 (fun i=>decide ((nth G.nts.l i).lk=lk)&&q i)))),blk b3 (gcl G) 36]) (fun s=>0≤s.1∧s.1≤G.nts.l.length) (fun s=>(G.nts.l.length-s.1).toNat) (0,.slice none 0 0,.slice none 0 0) (fun _ _=>rfl) rfl rfl ⟨by simp,by simp⟩ ?_;intro s t hs;obtain⟨hs1,hs2⟩:=hs;have hfl:=Jgq (n:=s.1) (p:=(fun i=>decide ((nth G.nts.l i).lk=lk)&&q i)) hs1;have hcl:(clsG G (filI s.1 (fun i=>decide ((nth G.nts.l i).lk=lk)&&q i))).length=(filI s.1 (fun i=>decide ((nth G.nts.l i).lk=lk)&&q i)).length:=by simp[clsG]
 refine Nz 1 ?_;refine Wd (Qc (Cs (Cn ?_ ?_)))<;>intro hc1
 ·have hs3:s.1<G.nts.l.length:=by omega
  have hnt:cNote.ok w (nth G.nts.l s.1):=knt.at hs1 hs3;have hg1:=hnt.2.one1;have hwh1:=Sl.one hnt.1;refine Ck (Qc (Cs (Ce (Nz 1 ?_))));refine Wk 0 Xc ?_;refine Wk 0 Ua ?_;refine Wq 1 zv80 fun b9 hb9=>?_;refine Wv 0 0 ?_;refine Nx 1 ?_;refine Wk 3 (Ba 0) ?_;refine Wj 0 ?_;refine Wj 0 ?_;refine Wt 0 rfl rfl (fun hg=>Cb (eg_ hg rfl) (ec_ (eg_ hg rfl) en_) hf (fun u hu=>hq u hu.below s.1 hs1 hs3)) ?_;refine Wk 0 Pa ?_;refine Wp ?_ ?_<;>intro hc2
  ·have hpy:(fun i=>decide ((nth G.nts.l i).lk=lk)&&q i) s.1=true:=by(simp only[Bool.and_eq_true,decide_eq_true_eq];exact hc2)
   refine Nz 2 ?_;refine WS.buildI1 sl37 zv3 rfl (fun _=>rfl) ?_;intro v29;refine WS.appendI (j:=2) sl37 zv3 rfl rfl rfl (fun u hu=>Jaf hu (j:=0) rfl) (by(simp;omega)) (by(simp;omega)) (fun _=>rfl) (fun _=>rfl) ?_;intro v30;refine WS.oc (j:=2) rfl (fun hv30=>?_);refine Wz 1 ?_;refine Nw 2 ?_;refine Wk 0 (Bc 1) ?_;refine WS.buildC1 sl77 zv76 (c:=(nth G.nts.l s.1).cl) (gv:=(nth G.nts.l s.1).gv) rfl (fun _=>rfl) ?_;intro v34;refine WS.appendCl (j:=4) (jz:=0) sl77 zv76 rfl rfl rfl (by simp[clsG,gvsG]) rfl rfl hg1 (by omega) (by omega) (fun _=>rfl) (fun _=>rfl) ?_;intro v35 hv35;refine Wz 1 ?_;refine Wd (Qb (Qc (Ny 0 ?_)));refine Wk 1 Za ?_;refine Wd ?_;refine QS.sel [3,3,3] rfl ?_;exact QS.head ((s.1+1,v30,v35)) rfl (by simp only[←Jh7 (p:=(fun i=>decide ((nth G.nts.l i).lk=lk)&&q i)) hs1 hpy,clsG,gvsG,List.map_append,List.map_cons,List.map_nil]) ⟨⟨by simp;omega,by simp;omega⟩,by simp;omega⟩
  have hpn:(fun i=>decide ((nth G.nts.l i).lk=lk)&&q i) s.1=false:=by(simp only[Bool.and_eq_false_iff,decide_eq_false_iff_not];exact hc2)
  refine Ck (Qb (Qc (Ny 0 ?_)));refine Wk 1 Za ?_;refine Wd ?_;refine QS.sel [1,1,1] rfl ?_;exact QS.head ((s.1+1,s.2)) rfl (by simp only[←Jjz (p:=(fun i=>decide ((nth G.nts.l i).lk=lk)&&q i)) hs1 hpn]) ⟨⟨by simp;omega,by simp;omega⟩,by simp;omega⟩
 have hse:s.1=G.nts.l.length:=by omega
 refine Cv (Qe (Qe (Qx (Qc (Nz 4 ?_)))));refine Wd (Qc (Cr ?_));rw[hse,←Jne G lk q];refine QS.oc (j:=0) rfl (fun hv6=>?_);refine QS.oc (j:=1) rfl (fun hv7=>?_);exact out2 rfl rfl rfl (fun u hu=>⟨s.2,⟨hv6,hv7⟩,Jjt (hu.sel [0,0] rfl) (List.Perm.refl _)⟩)
structure TeamOk (w:World) (bt mb:Nat) (G:Game) (p:Pos):Prop where
 blk:BlkAt w bt [G.rm.pls.v,G.rm.ths.v,G.rm.prs.v,G.rm.wys.v,G.rm.acs.v,G.rm.aus.v,.int .i64 G.rm.ply,G.rm.gl.v,G.lks.v,G.cds.v,G.nts.v,.int .i64 G.tr,p.st.ths.v,p.st.prs.v,p.st.pls.v,p.rd.v,.map (some mb)] 190
 gm:GameOk w G
 ps:PosOk w p
theorem TeamOk.ext {w u:World} {bt mb:Nat} {G:Game} {p:Pos} (h:TeamOk w bt mb G p) (hb:Below w.heap.size w u):TeamOk u bt mb G p:=⟨h.blk.ext hb,h.gm.ext hb,h.ps.ext hb⟩
theorem TeamOk.toSt {w u:World} {L:List SA} {bt mb:Nat} {G:Game} {p:Pos} (h:TeamOk w bt mb G p) (hu:St w.heap.size w L u):TeamOk u bt mb G p:=h.ext hu.below
theorem Jij {P:Program} {w0:World} {L:List SA} {l:List Value} {d:Option Tmp} {ty:TypeId} {ps:String} {af:Array Edge} {g:Option (Nat×Bool)} {T:TypeId} {x:Operand} {b i n:Nat} {c cs:List Value} {e:TypeId} (hx:evo l x=some (.pointer (some ⟨b,i,none⟩))) (hb:BlkAt w0 b c e) (hv:(c.drop i).take n=cs) (hn:cs.length=n) (hT:tk P T=some (true,n)):
  Det P (St w0.heap.size w0 L) ⟨d,.load T x,ty,ps,af,g⟩ l (.agg cs.toArray):=by
 subst hn;refine Jhn hT hx fun u hu m v hm=>?_;rw[Jd1 (hb.st hu)];rw[←hv,List.getElem?_take]at hm;split at hm
 ·rw[List.getElem?_drop]at hm;exact hm
 simp at hm
theorem Jpt (bt mb:Nat) (G:Game) (p:Pos) (w:World) (hT:TeamOk w bt mb G p) (b1:Nat) (e1:TypeId) (h1:BlkAt w b1 [.pointer (some ⟨bt,0,none⟩)] e1) (i:Int) (h0:0≤i) (hi:i<p.rd.l.length):
  Calls prog 229 #[.int .i64 i,.pointer (some ⟨b1,0,none⟩)] w (RetB w (.bool (nth p.rd.l i))):=by
 have hTb:=hT.blk;have hG:=hT.gm;have hp:=hT.ps;have klk:=hG.lks;have krd:=hp.rd;have llk:=klk.le;refine En func229 ?_;refine Nz 1 ?_;refine Nx 0 ?_;refine Wk 3 Ga ?_;refine Wk 1 Ga ?_;refine Wk 0 Xc ?_;refine Wk 1 Ub ?_;exact Wd (Qc (Cr (out1 rfl rfl retB)))
theorem Juv (bt mb:Nat) (G:Game) (p:Pos) (w:World) (hT:TeamOk w bt mb G p) (hV:GoodG G) (hl:p.rd.l.length=G.nts.l.length) (lk:Int) (h0:0≤lk) (h1:lk<G.lks.l.length):
  Calls prog 191 #[.pointer (some ⟨bt,0,none⟩),.int .i64 lk] w (RetB w (.tuple #[.int .i64 (Jwk G.p lk (cluN G.p p.rd.l lk)),.int .i64 0])):=by
 have hTb:=hT.blk;have hG:=hT.gm;have hp:=hT.ps;have klk:=hG.lks;have krd:=hp.rd;have llk:=klk.le;have hnn:=hV.nn;have hE:=Jos hV h0 h1 (Jsa (p:=fun i=>nth p.rd.l i)) (Nat.le_trans (Jy0 hV _ _) (by decide));refine En func191 ?_;refine Nz 0 ?_;refine Wr 2 fun b2 hb2=>?_;refine Nx 0 ?_;refine Wk 2 (Ba 0) ?_;refine Wk 1 (Jij (n:=12) (cs:=(gcl G)) rfl hTb rfl rfl tk36) ?_;refine Wk 0 (Jal rfl) ?_;refine Wc rfl rfl Kac (fun u hu=>J7f G u (hG.st hu) (by omega) lk _ [.pointer (some ⟨b2,0,none⟩)] (fun i↦nth p.rd.l i) Kda (fun u2 h2 i a0 a1↦Jpt bt mb G p u2 ((hT.toSt hu).ext h2) _ _ ((Jaw hu (j:=0) rfl).ext h2) i a0 (by omega))) (fun _=>rfl) ?_;rintro⟨v16,v17⟩ ⟨hv16,hv17⟩;refine WS.unpack ?_;refine Wz 5 ?_;refine Nx 0 ?_;refine Wk 3 (Ba 2) ?_;refine Wk 1 Ga ?_;refine Wk 0 Xc ?_;refine Wk 1 Ua ?_;refine Wk 4 (Cb rfl rfl Kgf (fun u hu=>J8g _ _ _ _ _ u (J47 (hG.st hu) Jsa (Jbq hu (j:=1) rfl)))) ?_;exact Wd (Qc (Cr (out2 rfl rfl rfl (Jab (by rw[hE,if_pos rfl,←Jw3,Jyv])))))
theorem Jn6 (G:Game) (w:World) (hG:GameOk w G) (g:Sl ByteArray) (hW:GOk w g) (hn:NearG G) (p:Pos) (hp:PosOk w p) (hq:posG G.p p.x=0):
  Calls prog 104 #[.agg (gcl G).toArray,.agg #[p.st.ths.v,p.st.prs.v,p.st.pls.v,p.rd.v]] w (fun e w'=>∃x:Nat×Nat×Value,x.2.2.oneCell'=true∧RetF w (.tuple #[.pointer (some ⟨x.1,0,none⟩),.int .i64 0]) (star [blk x.1 [G.rm.pls.v,G.rm.ths.v,G.rm.prs.v,G.rm.wys.v,G.rm.acs.v,G.rm.aus.v,.int .i64 G.rm.ply,G.rm.gl.v,G.lks.v,G.cds.v,G.nts.v,.int .i64 G.tr,p.st.ths.v,p.st.prs.v,p.st.pls.v,x.2.2,.map (some x.2.1)] 190,oT cBool 4 x.2.2 p.rd.l,mapI x.2.1 (fun _=>0)]) e w'):=by
 have o1:=Sl.one hG.rm.pls;have o2:=Sl.one hG.rm.ths;have o3:=Sl.one hG.rm.prs;have o4:=Sl.one hG.rm.wys;have o5:=Sl.one hG.rm.acs;have o6:=Sl.one hG.rm.aus;have o7:=Sl.one hG.rm.gl;have o8:=Sl.one hG.lks;have o9:=Sl.one hG.cds;have o10:=Sl.one hG.nts;have o11:=Sl.one hp.st.ths;have o12:=Sl.one hp.st.prs;have o13:=Sl.one hp.st.pls;have o14:=Sl.one hp.rd;have hP:=Jb6 hq;have hsm:=hP.small;refine En func104 ?_;refine Nz 0 ?_;refine Wr 0 fun b2 hb2=>?_;refine Wr 2 fun b3 hb3=>?_;refine Nv 0 ?_;refine Wk 0 (Bb 1) ?_;refine Wk 0 (Bb 0) ?_;refine Wk 1 (Cb rfl rfl J5v (fun u hu=>Jsq G u (hG.st hu) g (hW.st hu) hn p (hp.toSt hu))) ?_;refine Nx 2 ?_;refine Wp ?_ ?_<;>intro hc1
 ·exact absurd hq hc1
 refine Ck (Qc (Cs ?_));refine CS.drawnAll (k:=12) mixed rfl rfl ?_;refine Ak 0 [1] rfl (Bb 1) ?_;refine Ak 2 [3] rfl (Bc 0) ?_;refine Ak 4 [] rfl (Ba 0) ?_;refine AS.two (i:=5) (j:=7) (by kernel_rfl) rfl rfl (by exact fun _ h=>h) rfl rfl ?_ ?_
 ·refine Wc rfl rfl Jix (fun u hu=>Jei p.rd u (hp.rd.st hu) hsm.2) (fun _=>rfl) ?_;intro v18 hv18;refine Wd (Qa ?_);refine Ak 6 [] rfl (Jaq Jeb zv98 (pcs:=[(0,[p.st.ths.v,p.st.prs.v,p.st.pls.v]),(1,[v18])]) rfl (CellsOf.agg (CellsOf.one hv18 CellsOf.nil)) rfl) ?_;refine Ao 7 rfl ?_;refine WS.makeMap (fun _=>rfl) fun b20 hb20=>?_;refine Wd (Qa ?_);refine Ak 8 [] rfl (Jaq Jlx Jvl (pcs:=[(0,(gcl G)),(1,[p.st.ths.v,p.st.prs.v,p.st.pls.v,v18]),(2,[.map (some b20)])]) rfl (CellsOf.agg (CellsOf.agg (CellsOf.one rfl CellsOf.nil))) rfl) ?_;refine Ao 9 rfl ?_;refine Wr 0 fun b22 hb22=>?_;refine Wd (Qa ?_);refine Ar [10,11] ?_;refine Ae ?_;exact Qc (Cr (out2 rfl rfl rfl (fun u hu=>⟨(b22,b20,v18),hv18,Jjt (hu.sel [0,1,0] rfl) (List.Perm.refl _)⟩)))
 refine WS.makeMap (fun _=>rfl) fun b20 hb20=>?_;refine Wd (Qa ?_);refine Ao 5 rfl ?_;refine Wc rfl rfl Jix (fun u hu=>Jei p.rd u (hp.rd.st hu) hsm.2) (fun _=>rfl) ?_;intro v18 hv18;refine Wd (Qa ?_);refine Ak 6 [] rfl (Jaq Jeb zv98 (pcs:=[(0,[p.st.ths.v,p.st.prs.v,p.st.pls.v]),(1,[v18])]) rfl (CellsOf.agg (CellsOf.one hv18 CellsOf.nil)) rfl) ?_;refine Ak 8 [] rfl (Jaq Jlx Jvl (pcs:=[(0,(gcl G)),(1,[p.st.ths.v,p.st.prs.v,p.st.pls.v,v18]),(2,[.map (some b20)])]) rfl (CellsOf.agg (CellsOf.agg (CellsOf.one rfl CellsOf.nil))) rfl) ?_;refine Ao 9 rfl ?_;refine Wr 0 fun b22 hb22=>?_;refine Wd (Qa ?_);refine Ar [10,11] ?_;refine Ae ?_;exact Qc (Cr (out2 rfl rfl rfl (fun u hu=>⟨(b22,b20,v18),hv18,Jjt (hu.sel [0,0,0] rfl) (List.Perm.refl _)⟩)))
theorem mapT:prog.underlying 111=some (.map 3 3):=underlying111
theorem mapK:prog.underlying 3=some (.int .i64):=underlying3
theorem mapZ:zo prog 3=some (.int .i64 0):=by kernel_rfl
theorem Jww {f:Int→Int} {k v:Int}:updI f k v k=v:=if_pos rfl
def KeptO (G:GP) (rd:List Bool) (f:Int→Int):Prop:=∀k,f k=0∨f k=if Jey G rd k=true then 1 else 2
theorem KeptO.zero {G:GP} {rd:List Bool}:KeptO G rd (fun _=>0):=fun _=>.inl rfl
theorem KeptO.upd {G:GP} {rd:List Bool} {f:Int→Int} (h:KeptO G rd f) {k v:Int} (hv:v=if Jey G rd k=true then 1 else 2):KeptO G rd (updI f k v):=fun j=>by
 unfold updI;split
 ·rename_i e;rw[e];exact .inr hv
 exact h j
structure HasZ (w:World) (Z:SA) (z:Stt):Prop where
 get:∀{L:List SA} {u:World} {j:Nat},L[j]? = some Z→St w.heap.size w L u→SttOk u z
theorem HasZ.ro {w:World} {z:Stt}:HasZ w (roS fun u=>SttOk u z) z:=⟨fun hj hu=>hu.ro hj⟩
theorem HasZ.old {w:World} {z:Stt} (hz:SttOk w z) (Z:SA):HasZ w Z z:=⟨fun _ hu=>hz.st hu⟩
theorem Jux {f:Int→Int} {k a b:Int}:updI (updI f k a) k b=updI f k b:=by
 funext j;unfold updI;split<;>rfl
theorem J9l {w u:World} (R:SA) (G:Game) (hG:GameOk w G) (hV:GoodG G) (tb mb:Nat) (z:Stt) (Z:SA) (hZ:HasZ w Z z) (rv:Value) (rd:List Bool) (hl:rd.length=G.nts.l.length) (f:Int→Int) (hf:KeptO G.p rd f) (lk:Int) (h1:lk<G.lks.l.length) (hu:St w.heap.size w [blk tb [G.rm.pls.v,G.rm.ths.v,G.rm.prs.v,G.rm.wys.v,G.rm.acs.v,G.rm.aus.v,.int .i64 G.rm.ply,G.rm.gl.v,G.lks.v,G.cds.v,G.nts.v,.int .i64 G.tr,z.ths.v,z.prs.v,z.pls.v,rv,.map (some mb)] 190,oT cBool 4 rv rd,mapI mb f,Z,R] u):
  Calls prog 148 #[.pointer (some ⟨tb,0,none⟩),.int .i64 lk] u (fun e u'=>∃f':Int→Int,KeptO G.p rd f'∧e = .returned (.bool (decide (lk<0)||Jey G.p rd lk))∧St w.heap.size w [blk tb [G.rm.pls.v,G.rm.ths.v,G.rm.prs.v,G.rm.wys.v,G.rm.acs.v,G.rm.aus.v,.int .i64 G.rm.ply,G.rm.gl.v,G.lks.v,G.cds.v,G.nts.v,.int .i64 G.tr,z.ths.v,z.prs.v,z.pls.v,rv,.map (some mb)] 190,oT cBool 4 rv rd,mapI mb f',Z,R] u'):=by
 refine Ei hu func148 ?_;refine Nz 1 ?_;refine Nv 2 ?_;refine Wp ?_ ?_<;>intro hc1
 ·refine Nz 1 ?_;exact Wd (Qc (Cr (Qr (out1 rfl rfl (fun u hu=>⟨f,hf,by rw[decide_eq_true (by omega:lk<0)];rfl,hu⟩)))))
 have h0:0≤lk:=by omega
 refine Ck (Qc (Cs (Nz 3 ?_)));refine Wk 1 (Ba 0) ?_;refine Wk 1 (Jd7 mapT mapK mapZ rfl (j:=2) rfl rfl) ?_;refine Wp ?_ ?_<;>intro hc2
 ·refine Nz 3 ?_;refine Wk 1 (Ba 0) ?_;refine WS.mapUpdate mapT mapK rfl (j:=2) rfl rfl rfl rfl ?_;refine Nx 2 ?_;refine Wk 5 (Cb rfl rfl Keb (fun u hu=>Juv tb mb G ⟨z,⟨rv,rd⟩⟩ u ⟨Jaw hu (j:=0) rfl,hG.st hu,⟨hZ.get (j:=3) rfl hu,Jds hu (j:=1) rfl fun _ _↦trivial⟩⟩ hV hl lk h0 h1)) ?_;refine Nx 3 ?_;refine Wj 0 ?_;refine Wj 0 ?_;refine Wj 0 ?_;refine Wj 0 ?_;refine Wj 0 ?_;refine Wj 0 ?_;refine Wj 0 ?_;refine Wk 0 Pa ?_;refine Wp ?_ ?_<;>intro hc3
  ·have hop:Jey G.p rd lk=true:=by(unfold Jey;exact decide_eq_true hc3.2)
   refine Ny 3 ?_;refine Wk 1 (Ba 0) ?_;refine WS.mapUpdate mapT mapK rfl (j:=2) rfl rfl rfl rfl ?_;refine Nx 3 ?_;refine Wk 1 (Ba 0) ?_;refine Wk 2 (Jd7 mapT mapK mapZ rfl (j:=2) rfl rfl) ?_;exact Wd (Qc (Cr (out1 rfl rfl (fun u hu=>⟨updI (updI f lk 2) lk 1,by rw[Jux];exact hf.upd (by rw[hop];rfl),by rw[hop,Jww,Bool.or_true];rfl,hu⟩))))
  have hop:Jey G.p rd lk=false:=by(unfold Jey;exact decide_eq_false (fun h=>hc3.elim (fun q=>q trivial) fun q=>q h))
  refine Ck (Qc (Nz 3 ?_));refine Wk 1 (Ba 0) ?_;refine Wk 2 (Jd7 mapT mapK mapZ rfl (j:=2) rfl rfl) ?_;exact Wd (Qc (Cr (out1 rfl rfl (fun u hu=>⟨updI f lk 2,hf.upd (by rw[hop];rfl),by rw[hop,Jww,Bool.or_false,decide_eq_false (by omega:¬lk<0)];rfl,hu⟩))))
 refine Ck (Qc (Nz 3 ?_));refine Wk 1 (Ba 0) ?_;refine Wk 2 (Jd7 mapT mapK mapZ rfl (j:=2) rfl rfl) ?_;exact Wd (Qc (Cr (out1 rfl rfl (fun u hu=>⟨f,hf,by rcases hf lk with h|h;exact absurd h hc2;rw[h,decide_eq_false (by omega:¬lk<0)];cases Jey G.p rd lk<;>rfl,hu⟩))))
end Go.Proofs.YtmoojmgihdgceaaGreatDoor
