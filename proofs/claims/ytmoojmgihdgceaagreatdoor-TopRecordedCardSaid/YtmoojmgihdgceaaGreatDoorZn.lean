/- Merged texts of this proof (walks and plain laws), printed by a program of the prover. -/
import Derived.Test.YtmoojmgihdgceaaGreatDoorZb
import Derived.Test.YtmoojmgihdgceaaGreatDoorZd
import Derived.Test.YtmoojmgihdgceaaGreatDoorZi
import Derived.Test.YtmoojmgihdgceaaGreatDoorZk
import Derived.Test.YtmoojmgihdgceaaGreatDoorZg
set_option maxHeartbeats 8000000
namespace Go.Proofs.YtmoojmgihdgceaaGreatDoor
open Go.RowKit Go.Proofs Tryz
set_option maxRecDepth 100000
set_option linter.unusedVariables false
set_option linter.unusedSimpArgs false
theorem Lj (n lo hi:Int) (w:World):
  Calls prog 50 #[.int .i64 n,.int .i64 lo,.int .i64 hi] w (RetB w (.bool (decide (lo≤n)&&decide (n≤hi)))):=by
 refine En func50 ?_;refine Nz 1 ?_;refine Nx 4 ?_;refine Wj 0 ?_;refine Wj 0 ?_;refine Wj 0 ?_;refine Wk 1 Pa ?_;exact Wd (Qc (Cr (out1 rfl rfl (Ab (by simp)))))
theorem B8 (n lo hi:Int) (w:World):
  Calls prog 142 #[.int .i64 n,.int .i64 lo,.int .i64 hi] w (RetB w (.bool (decide (lo≤n)&&decide (n≤hi)))):=by
 refine En func142 ?_;refine Nz 1 ?_;refine Nx 4 ?_;refine Wj 0 ?_;refine Wj 0 ?_;refine Wj 0 ?_;refine Wk 1 Pa ?_;exact Wd (Qc (Cr (out1 rfl rfl (Ab (by simp)))))
theorem U9 (c:Clue) (gv:Value) (w:World) (h1:SlI w gv c.g):
  Calls prog 81 #[.agg #[.int .i64 c.k,.int .i64 c.a,.int .i64 c.b,.int .i64 c.n,.int .i64 c.m,gv,.bool c.nt]] w (RetB w (.bool (KW c))):=by
 refine En func81 ?_;refine Nz 0 ?_;refine Wr 1 fun b1 hb1=>?_;refine Nx 1 ?_;refine Wk 2 (Ba 0) ?_;refine Wj 0 ?_;refine Wj 0 ?_;refine Wj 0 ?_;refine Wk 1 Pa ?_;refine Wj 0 ?_;refine Wj 0 ?_;refine Wj 0 ?_;refine Wk 1 Pa ?_;refine Wj 0 ?_;refine Wj 0 ?_;refine Wj 0 ?_;refine Wk 1 Pa ?_;refine Wj 0 ?_;refine Wj 0 ?_;refine Wj 0 ?_;refine Wk 1 Pa ?_;refine Wj 0 ?_;refine Wj 0 ?_;refine Wj 0 ?_;refine Wj 0 ?_;refine Wk 1 Pa ?_;refine Wj 0 ?_;refine Wj 0 ?_;refine Wj 0 ?_;refine Wk 1 Pa ?_;exact Wd (Qc (Cr (out1 rfl rfl (Ab (by unfold KW;simp only[Bool.and_assoc])))))
theorem U1 (c:Clue) (gv:Value) (w:World) (h1:SlI w gv c.g):
  Calls prog 186 #[.agg #[.int .i64 c.k,.int .i64 c.a,.int .i64 c.b,.int .i64 c.n,.int .i64 c.m,gv,.bool c.nt]] w (RetB w (.bool (KW c))):=by
 refine En func186 ?_;refine Nz 0 ?_;refine Wr 1 fun b1 hb1=>?_;refine Nx 1 ?_;refine Wk 2 (Ba 0) ?_;refine Wj 0 ?_;refine Wj 0 ?_;refine Wj 0 ?_;refine Wk 1 Pa ?_;refine Wj 0 ?_;refine Wj 0 ?_;refine Wj 0 ?_;refine Wk 1 Pa ?_;refine Wj 0 ?_;refine Wj 0 ?_;refine Wj 0 ?_;refine Wk 1 Pa ?_;refine Wj 0 ?_;refine Wj 0 ?_;refine Wj 0 ?_;refine Wk 1 Pa ?_;refine Wj 0 ?_;refine Wj 0 ?_;refine Wj 0 ?_;refine Wj 0 ?_;refine Wk 1 Pa ?_;refine Wj 0 ?_;refine Wj 0 ?_;refine Wj 0 ?_;refine Wk 1 Pa ?_;exact Wd (Qc (Cr (out1 rfl rfl (Ab (by unfold KW;simp only[Bool.and_assoc])))))
theorem DB {t:ByteArray} {x:ByteArray} (hx:x∈wordL) (h:seq t x=true):kwB t=true:=by
 unfold kwB;rw[show(wordL.any fun y=>seq y t)=true from List.any_eq_true.2 ⟨x,hx,by rw[Is];exact h⟩];rfl
theorem Vm (tx:ByteArray) (w:World) (hm:(tx.size:Int)≤9223372036854775806):
  Calls prog 185 #[.string tx] w (RetB w (.bool (BW tx))):=by
 refine En func185 ?_;refine Nz 1 ?_;refine Nv 1 ?_;refine Nu ?_;refine CS.cut (σ:=Bool) [6,7,8,9,10,11,12,13,14,15,16] (fun s=>[(5,.bool s)]) (fun s=>[]) (fun s=>s=kwB tx) (fun _ _=>rfl) ?_ ?_
 ·refine Nz 0 ?_;refine Wk 1 (AL rfl rfl) ?_;refine Wp ?_ ?_<;>intro hc1
  ·exact Ck (QS.head (seq tx ⟨#[]⟩) rfl rfl (show seq tx ⟨#[]⟩=kwB tx by unfold kwB;rw[hc1];simp))
  refine Nz 0 ?_;refine Wk 1 (AL rfl rfl) ?_;refine Wp ?_ ?_<;>intro hc2
  ·exact Ck (QS.head (seq tx ⟨#[97,116]⟩) rfl rfl (hc2.trans (DB (x:=⟨#[97,116]⟩) (by simp[wordL]) hc2).symm))
  refine Nz 0 ?_;refine Wk 1 (AL rfl rfl) ?_;refine Wp ?_ ?_<;>intro hc3
  ·exact Ck (QS.head (seq tx ⟨#[115,116,97,116,101,115]⟩) rfl rfl (hc3.trans (DB (x:=⟨#[115,116,97,116,101,115]⟩) (by simp[wordL]) hc3).symm))
  refine Nz 0 ?_;refine Wk 1 (AL rfl rfl) ?_;refine Wp ?_ ?_<;>intro hc4
  ·exact Ck (QS.head (seq tx ⟨#[115,116,97,114,116]⟩) rfl rfl (hc4.trans (DB (x:=⟨#[115,116,97,114,116]⟩) (by simp[wordL]) hc4).symm))
  refine Nz 0 ?_;refine Wk 1 (AL rfl rfl) ?_;refine Wp ?_ ?_<;>intro hc5
  ·exact Ck (QS.head (seq tx ⟨#[103,111,110,101]⟩) rfl rfl (hc5.trans (DB (x:=⟨#[103,111,110,101]⟩) (by simp[wordL]) hc5).symm))
  refine Nz 0 ?_;refine Wk 1 (AL rfl rfl) ?_;refine Wp ?_ ?_<;>intro hc6
  ·exact Ck (QS.head (seq tx ⟨#[105,102]⟩) rfl rfl (hc6.trans (DB (x:=⟨#[105,102]⟩) (by simp[wordL]) hc6).symm))
  refine Nz 0 ?_;refine Wk 1 (AL rfl rfl) ?_;refine Wp ?_ ?_<;>intro hc7
  ·exact Ck (QS.head (seq tx ⟨#[108,111,99,107]⟩) rfl rfl (hc7.trans (DB (x:=⟨#[108,111,99,107]⟩) (by simp[wordL]) hc7).symm))
  refine Nz 0 ?_;refine Wk 1 (AL rfl rfl) ?_;refine Wp ?_ ?_<;>intro hc8
  ·exact Ck (QS.head (seq tx ⟨#[119,105,116,104]⟩) rfl rfl (hc8.trans (DB (x:=⟨#[119,105,116,104]⟩) (by simp[wordL]) hc8).symm))
  refine Nz 0 ?_;refine Wk 1 (AL rfl rfl) ?_;refine Wp ?_ ?_<;>intro hc9
  ·exact Ck (QS.head (seq tx ⟨#[115,101,116,115]⟩) rfl rfl (hc9.trans (DB (x:=⟨#[115,101,116,115]⟩) (by simp[wordL]) hc9).symm))
  refine Nz 0 ?_;refine Wk 1 (AL rfl rfl) ?_;refine Wp ?_ ?_<;>intro hc10
  ·exact Ck (QS.head (seq tx ⟨#[115,112,101,110,100,115]⟩) rfl rfl (hc10.trans (DB (x:=⟨#[115,112,101,110,100,115]⟩) (by simp[wordL]) hc10).symm))
  refine Ny 0 ?_;refine Wk 1 (AL rfl rfl) ?_;exact Wd (QS.head (seq tx ⟨#[98,114,105,110,103,115]⟩) rfl rfl (show seq tx ⟨#[98,114,105,110,103,115]⟩=kwB tx by unfold kwB;simp only[wordL,List.any_cons,List.any_nil,Is _ tx,hc1,hc2,hc3,hc4,hc5,hc6,hc7,hc8,hc9,hc10,Bool.false_or,Bool.or_false]))
 intro s t hs;refine CS.cond rfl (fun hc11=>?_) (fun hc11=>?_)<;>(try simp only[bq]at hc11)
 ·refine Nz 1 ?_;exact Wd (Qc (Cr (Qs (Qr (out1 rfl rfl (Ab (by rw[FT,←hs,hc11];simp)))))))
 refine Ck (Qb (Qc (Cs (Nz 1 ?_))));refine Wk 1 (A2 underlying9 rfl) ?_;refine Nu ?_;refine CS.loopM (σ:=Int) (rsL [2,3,20,32]) (fun s=>[(19,.int .i64 s)]) (fun _=>_) (fun s=>0≤s∧s≤tx.size∧∀j:Int,0≤j→j<s→97≤byt tx j∧byt tx j≤122) (fun s=>(tx.size-s).toNat) 0 (fun _ _=>rfl) rfl rfl ⟨by omega,by omega,fun j _ _=>by omega⟩ ?_;intro q t hs;obtain⟨hs1,hs2,hs3⟩:=hs;refine Nz 1 ?_;refine Wd (Qc (Cs (Cn ?_ ?_)))<;>intro hc12
 ·refine Ck (Qc (Cs (Ce (Nz 2 ?_))));refine Nx 2 ?_;refine Wk 2 (B2 underlying9 rfl rfl (by omega) (by omega)) ?_;refine We 0 ?_;refine We 0 ?_;refine Wf 0 rfl rfl (fun hg=>B2 underlying9 (eg_ hg rfl) (eg_ hg rfl) (by(try simp only[bq]at hg);omega) (by(try simp only[bq]at hg);omega)) ?_;refine We 0 ?_;refine Wk 0 Po ?_;refine Wp ?_ ?_<;>intro hc13
  ·refine Nz 1 ?_;exact Wd (Qc (Cr (Qs (Qr (Qr (Qs (Qr (out1 rfl rfl (Ab (by rw[FT,Lv hs1 (by omega) (by omega)];rfl))))))))))
  refine Ck (Qb (Qc (Ny 0 ?_)));refine Wk 1 Za ?_;refine Wd ?_
  exact QS.head (q+1) rfl rfl ⟨⟨by omega,by omega,fun j h0 h1=>by
     rcases(show j<q∨j=q by omega)with h|h
     ·exact hs3 j h0 h
     rw[h];omega⟩,by omega⟩
 refine Cv (Qe (Qe (Qx (Qc (Nz 1 ?_)))));exact Wd (Qc (Cr (out1 rfl rfl (Ab (by rw[FT,←hs,hc11,Jl fun j h0 h1=>hs3 j h0 (by omega)];rfl)))))
theorem Rj (r:Room) (w:World) (hr:RoomOk w r) (x:Lit) (b:Nat) (e:TypeId) (hb:BlkAt w b (rcl r) e):
  Calls prog 188 #[.agg #[.int .i64 x.t,.int .i64 x.s,.bool x.nt],.pointer (some ⟨b,0,none⟩)] w (RetB w (.bool (!putB r.ths.l x.t x.s))):=by
 have kpl:=hr.pls;have lpl:=hr.pls.le;have kth:=hr.ths;have lth:=hr.ths.le;have kpr:=hr.prs;have lpr:=hr.prs.le;have kwy:=hr.wys;have lwy:=hr.wys.le;have kac:=hr.acs;have lac:=hr.acs.le;have kau:=hr.aus;have lau:=hr.aus.le;have kgl:=hr.gl;have lgl:=hr.gl.le;refine En func188 ?_;refine Nz 0 ?_;refine Wr 1 fun b2 hb2=>?_;refine Wd (Qc (Cs (Dr mixed 1 ?_)));refine Dk 1 (Ba 0) ?_;refine Dk 0 Ga ?_;refine Dk 0 Nc ?_;refine Dk 0 Zb ?_;refine Dk 2 (Cb rfl rfl Fo (fun u hu=>B8 _ _ _ u)) ?_;refine De 0 ?_;refine De 0 ?_;refine De 0 ?_;refine De 0 ?_;refine De 0 ?_;refine De 0 ?_;refine De 0 ?_;refine De 0 ?_;refine Df 0 rfl rfl (fun hg=>Uc 4 2) ?_;refine Df 0 rfl rfl (fun hg=>IR (eg_ hg rfl) rfl) ?_;refine Df 0 rfl rfl (fun hg=>Cb rfl (ec_ (eg_ hg rfl) (ec_ rfl (ec_ (eg_ hg rfl) en_))) Fo (fun u hu=>B8 _ _ _ u)) ?_;refine De 0 ?_;refine Dk 1 Po ?_;exact Dd (Qc (Cr (out1 rfl rfl (Ab (by unfold putB;simp only[Bool.not_and])))))
theorem T3 (r:Room) (w:World) (hr:RoomOk w r) (c:Sl Lit) (hk:SlT cLit w c):
  Calls prog 141 #[.agg (rcl r).toArray,c.v] w (RetB w (.bool (D6 r.ths.l c.l))):=by
 have lcs:=hk.le;refine En func141 ?_;refine Nz 0 ?_;refine Wr 1 fun b2 hb2=>?_;refine Nx 1 ?_;refine Wk 2 Nc ?_;refine Wj 0 ?_;refine Wt 0 rfl rfl (fun hg=>Al rfl) ?_;refine Wt 0 rfl rfl (fun hg=>Cb rfl (ec_ (eg_ hg rfl) (ec_ (eg_ hg rfl) en_)) QM (fun u hu=>D4 c u (hk.st hu) _ [.pointer (some ⟨b2,0,none⟩)] (fun x=>!putB r.ths.l x.t x.s) Yf (fun u2 h2 i h0 h1=>Rj r u2 ((hr.st hu).ext h2) _ _ _ ((AD hu (j:=0) rfl).ext h2)))) ?_;refine Wj 0 ?_;refine Wk 1 Pa ?_;exact Wd (Qc (Cr (out1 rfl rfl (Ab (by unfold D6;rw[Bool.and_comm];congr 1;simp[List.all_eq_not_any_not])))))
theorem OM (s0:Sl NoteD) (w:World) (hk:SlT cNote w s0) (g:Nat) (lb:List Value) (p:NoteD→Bool) (hg:Ent prog g)
  (hp:∀u,Below w.heap.size w u→∀i:Int,0≤i→i<s0.l.length→Calls prog g ([.agg #[.string (nth s0.l i).nm,.int .i64 (nth s0.l i).pl,.int .i64 (nth s0.l i).lk,(nth s0.l i).wh.v,.int .i64 (nth s0.l i).cl.k,.int .i64 (nth s0.l i).cl.a,.int .i64 (nth s0.l i).cl.b,.int .i64 (nth s0.l i).cl.n,.int .i64 (nth s0.l i).cl.m,(nth s0.l i).gv,.bool (nth s0.l i).cl.nt]]++lb:List Value).toArray u (RetB u (.bool (p (nth s0.l i))))):
  Calls prog 224 #[s0.v,.func (.func g) #[] lb.toArray] w (RetB w (.int .i64 (idxF p s0.l))):=by
 have hl1:=hk.le;refine En func224 ?_;refine Nz 1 ?_;refine Nv 1 ?_;refine Wk 1 Nc ?_;refine Nu ?_;refine CS.loopM (σ:=Int) (rsL [4,5,9,18]) (fun s=>[(8,.int .i64 s)]) (fun _=>_) (fun s=>0≤s∧s≤s0.l.length∧∀j:Int,0≤j→j<s→p (nth s0.l j)=false) (fun s=>(s0.l.length-s).toNat) 0 (fun _ _=>rfl) rfl rfl ⟨by omega,by omega,fun j h1 h2=>by omega⟩ ?_;intro s t hs;obtain⟨hs1,hs2,hs3⟩:=hs;refine Nz 1 ?_;refine Wd (Qc (Cs (Cn ?_ ?_)))<;>intro hc1
 ·refine Ck (Qc (Cs (Ce (Nz 2 ?_))));refine Nx 3 ?_;refine Wk 0 Xc ?_;refine Wk 0 Ua ?_;refine Wk 0 (Cb rfl rfl hg (fun u hu=>hp u hu.below s (by omega) (by omega))) ?_;refine Wp ?_ ?_<;>intro hc2
  ·refine Nz 2 ?_;exact Wd (Qc (Cr (Qs (Qr (Qr (Qs (Qr (out1 rfl rfl (Ab (by rw[AR hs1 (by omega) hs3 hc2]))))))))))
  refine Ck (Qb (Qc (Ny 0 ?_)));refine Wk 1 Za ?_;exact Wd (QS.head (s+1) rfl rfl ⟨⟨by omega,by omega,fun j h1 h2=>if hj:j=s then by rw[hj];exact hc2 else hs3 j h1 (by omega)⟩,by omega⟩)
 refine Cv (Qe (Qe (Qx (Qc (Nz 1 ?_)))));exact Wd (Qc (Cr (out1 rfl rfl (Ab (by rw[Bh fun j h1 h2=>hs3 j h1 (by omega)])))))
theorem JN (s0:Sl NoteD) (w:World) (hk:SlT cNote w s0) (g:Nat) (lb:List Value) (p:NoteD→Bool) (hg:Ent prog g)
  (hp:∀u,Below w.heap.size w u→∀i:Int,0≤i→i<s0.l.length→Calls prog g ([.agg #[.string (nth s0.l i).nm,.int .i64 (nth s0.l i).pl,.int .i64 (nth s0.l i).lk,(nth s0.l i).wh.v,.int .i64 (nth s0.l i).cl.k,.int .i64 (nth s0.l i).cl.a,.int .i64 (nth s0.l i).cl.b,.int .i64 (nth s0.l i).cl.n,.int .i64 (nth s0.l i).cl.m,(nth s0.l i).gv,.bool (nth s0.l i).cl.nt]]++lb:List Value).toArray u (RetB u (.bool (p (nth s0.l i))))):
  Calls prog 183 #[s0.v,.func (.func g) #[] lb.toArray] w (RetB w (.bool (s0.l.any p))):=by
 refine En func183 ?_;refine Nz 1 ?_;refine Nx 2 ?_;refine Wk 2 (Cb rfl rfl W8 (fun u hu=>OM s0 u (hk.st hu) g lb p hg (fun u2 h2=>hp u2 (AN hu.below h2)))) ?_;exact Wd (Qc (Cr (out1 rfl rfl (Ab (by rw[BO])))))
theorem PF (x y:NoteD) (w:World) (b:Nat) (e:TypeId) (hb:BlkAt w b [.string y.nm,.int .i64 y.pl,.int .i64 y.lk,y.wh.v,.int .i64 y.cl.k,.int .i64 y.cl.a,.int .i64 y.cl.b,.int .i64 y.cl.n,.int .i64 y.cl.m,y.gv,.bool y.cl.nt] e):
  Calls prog 184 #[.agg #[.string x.nm,.int .i64 x.pl,.int .i64 x.lk,x.wh.v,.int .i64 x.cl.k,.int .i64 x.cl.a,.int .i64 x.cl.b,.int .i64 x.cl.n,.int .i64 x.cl.m,x.gv,.bool x.cl.nt],.pointer (some ⟨b,0,none⟩)] w (RetB w (.bool (seq x.nm y.nm))):=by
 refine En func184 ?_;refine Nz 0 ?_;refine Wr 1 fun b2 hb2=>?_;refine Nx 1 ?_;refine Wk 1 (Ba 0) ?_;refine Wk 0 Ga ?_;refine Wk 1 (AL rfl rfl) ?_;exact Wd (Qc (Cr (out1 rfl rfl retB)))
theorem P0 (G:Game) (w:World) (hk:SlT cNote w G.nts) (i:Int) (h0:0≤i) (h1:i<G.nts.l.length) (b:Nat) (e:TypeId) (hb:BlkAt w b [.string (nth G.nts.l i).nm,.int .i64 (nth G.nts.l i).pl,.int .i64 (nth G.nts.l i).lk,(nth G.nts.l i).wh.v,.int .i64 (nth G.nts.l i).cl.k,.int .i64 (nth G.nts.l i).cl.a,.int .i64 (nth G.nts.l i).cl.b,.int .i64 (nth G.nts.l i).cl.n,.int .i64 (nth G.nts.l i).cl.m,(nth G.nts.l i).gv,.bool (nth G.nts.l i).cl.nt] e):
  Calls prog 183 #[(G.nts.cut 11 0 i.toNat).v,.func (.func 184) #[] #[.pointer (some ⟨b,0,none⟩)]] w (RetB w (.bool (!newB NoteD.nm G.nts.l i))):=by
 have q:=JN (G.nts.cut 11 0 i.toNat) w (hk.cut (by omega) (by omega)) _ [.pointer (some ⟨b,0,none⟩)] (fun x=>seq x.nm (nth G.nts.l i).nm) YC (fun u2 h2 j a0 a1=>PF _ (nth G.nts.l i) u2 b e (hb.ext h2));have e1:(!newB NoteD.nm G.nts.l i)=((G.nts.cut 11 0 i.toNat).l.any fun x=>seq x.nm (nth G.nts.l i).nm):=by unfold newB;rw[Bool.not_not];rfl
 rw[e1];exact q
theorem VY (G:Game) (w:World) (hG:GameOk w G) (hn:NearG G) (hl:G.cds.l.length=G.lks.l.length) (hC:∀j:Int,0≤j→j<G.lks.l.length→DT (nth G.lks.l j).w (nth G.lks.l j).s (nth G.cds.l j).l=0) (i:Int) (h0:0≤i) (h1:i<G.nts.l.length):
  Calls prog 140 #[.agg (gcl G).toArray,.int .i64 i,.agg #[.string (nth G.nts.l i).nm,.int .i64 (nth G.nts.l i).pl,.int .i64 (nth G.nts.l i).lk,(nth G.nts.l i).wh.v,.int .i64 (nth G.nts.l i).cl.k,.int .i64 (nth G.nts.l i).cl.a,.int .i64 (nth G.nts.l i).cl.b,.int .i64 (nth G.nts.l i).cl.n,.int .i64 (nth G.nts.l i).cl.m,(nth G.nts.l i).gv,.bool (nth G.nts.l i).cl.nt]] w (RetB w (.bool (ntG G i))):=by
 have klk:=hG.lks;have llk:=hG.lks.le;have kcd:=hG.cds;have lcd:=hG.cds.le;have knt:=hG.nts;have lnt:=hG.nts.le;have kpl:=hG.rm.pls;have lpl:=hG.rm.pls.le;have kth:=hG.rm.ths;have lth:=hG.rm.ths.le;have kac:=hG.rm.acs;have lac:=hG.rm.acs.le;have hnt:cNote.ok w (nth G.nts.l i):=knt.at h0 h1;have hnm:=(hn.nt _ (Ad h0 h1)).1;refine En func140 ?_;refine Nz 0 ?_;refine Wr 0 fun b3 hb3=>?_;refine Wr 1 fun b5 hb5=>?_;refine Nx 1 ?_;refine Wk 1 (Ba 1) ?_;refine Wk 0 (DI sl34 rfl rfl (by first|assumption|exact SlL.sp (by assumption)|exact ClS.sp (by assumption)|exact SlT.sp (by assumption)) (by omega) (by omega)) ?_;refine Wk 0 (Al rfl) ?_;refine Wk 1 (Cb rfl rfl Yk (fun u hu=>P0 G u (knt.st hu) i h0 h1 b5 _ (AD hu (j:=0) rfl))) ?_;refine Nv 1 ?_;refine Wk 0 (Ba 0) ?_;refine Wk 2 (Cb rfl rfl XY (fun u hu=>Vm _ u (by omega))) ?_;refine We 0 ?_;refine We 0 ?_;refine Wf 0 rfl rfl (fun hg=>A2 underlying9 (eg_ hg rfl)) ?_;refine We 0 ?_;refine Wk 1 Po ?_;refine We 0 ?_;refine Wk 1 Po ?_;refine We 0 ?_;refine We 0 ?_;refine We 0 ?_;refine We 0 ?_;refine We 0 ?_;refine We 0 ?_;refine We 0 ?_;refine Wf 0 rfl rfl (fun hg=>Cb rfl (ec_ (eg_ hg rfl) (ec_ rfl (ec_ (eg_ hg rfl) en_))) Fo (fun u hu=>B8 _ _ _ u)) ?_;refine We 0 ?_;refine Wk 1 Po ?_;refine We 0 ?_;refine We 0 ?_;refine We 0 ?_;refine We 0 ?_;refine We 0 ?_;refine We 0 ?_;refine Wf 0 rfl rfl (fun hg=>Cb rfl (ec_ (eg_ hg rfl) (ec_ rfl (ec_ (eg_ hg rfl) en_))) Fo (fun u hu=>B8 _ _ _ u)) ?_;refine We 0 ?_;refine Wk 0 Po ?_;refine Wp ?_ ?_<;>intro hc1
 ·refine Nz 1 ?_;exact Wd (Qc (Cr (Qr (out1 rfl rfl (Ab (by rw[show ntG G i=false by(unfold ntG Bs placeB;grind)]))))))
 have e1:ntG G i=NL G (nth G.nts.l i):=by(unfold ntG Bs placeB;grind)
 refine Ck (Qc (Cs (Nz 1 ?_)));refine Wk 1 (Ba 0) ?_;refine Wp ?_ ?_<;>intro hc2
 ·refine Nz 1 ?_;refine Wk 0 (Bc 0) ?_;refine Wk 1 (Cb rfl rfl XA (fun u hu=>U1 _ _ u (hnt.2.st hu))) ?_;exact Wd (Qc (Cr (Qr (out1 rfl rfl (Ab (by rw[e1,HY (by omega)]))))))
 have hcode:=hC (nth G.nts.l i).lk (by omega) (by omega);have hcd:SlI w (nth G.cds.l (nth G.nts.l i).lk).v (nth G.cds.l (nth G.nts.l i).lk).l:=(kcd.at (i:=(nth G.nts.l i).lk) (by omega) (by omega):SlT cInt w _).ints;refine Ck (Qc (Cs (Dr mixed 1 ?_)));refine Dk 1 (Ba 1) ?_;refine Dk 0 (Ba 0) ?_;refine Dk 0 Xc ?_;refine Dk 1 Ua ?_;refine Dk 1 (Bc 0) ?_;refine Dk 1 (Ba 1) ?_;refine Dk 0 (Ba 0) ?_;refine Dk 0 Xc ?_;refine Dk 0 Ub ?_;refine Dk 5 (Cb rfl rfl Xk (fun u hu=>Wm _ _ _ _ _ _ u (hnt.2.st hu) (hcd.st hu))) ?_;refine Dd (Qc (Nz 3 ?_));refine Wj 0 ?_;refine Wk 1 Pa ?_;exact Wd (Qc (Cr (out1 rfl rfl (Ab (by rw[e1,FG (by omega),KA hcode];by_cases hz:Dc (nth G.lks.l (nth G.nts.l i).lk).w (nth G.lks.l (nth G.nts.l i).lk).s (nth G.nts.l i).cl=0<;>simp[hz])))))
theorem Vi (G:Game) (w:World) (hG:GameOk w G) (hn:NearG G) (hl:G.cds.l.length=G.lks.l.length) (hC:∀j:Int,0≤j→j<G.lks.l.length→DT (nth G.lks.l j).w (nth G.lks.l j).s (nth G.cds.l j).l=0) (i:Int) (h0:0≤i) (h1:i<G.nts.l.length):
  Calls prog 48 #[.agg (gcl G).toArray,.int .i64 i] w (RetB w (.bool (ntG G i))):=by
 have klk:=hG.lks;have llk:=hG.lks.le;have kcd:=hG.cds;have lcd:=hG.cds.le;have knt:=hG.nts;have lnt:=hG.nts.le;have kpl:=hG.rm.pls;have lpl:=hG.rm.pls.le;have kth:=hG.rm.ths;have lth:=hG.rm.ths.le;have kac:=hG.rm.acs;have lac:=hG.rm.acs.le;have hnt:cNote.ok w (nth G.nts.l i):=knt.at h0 h1;have hnm:=(hn.nt _ (Ad h0 h1)).1;refine En func48 ?_;refine Nz 0 ?_;refine Wr 1 fun b2 hb2=>?_;refine Nx 1 ?_;refine Wk 1 (Ba 0) ?_;refine Wk 0 Xc ?_;refine Wk 0 Ua ?_;refine Wq 0 zv80 fun b5 hb5=>?_;refine Wv 0 0 ?_;refine Nv 1 ?_;refine Nu ?_;refine CS.loopM (σ:=Int) (rsL [4,4,12,25]) (fun s=>[(6,.int .i64 s)]) (fun _=>_) (fun s=>0≤s∧s≤i∧∀j:Int,0≤j→j<s→seq (nth G.nts.l j).nm (nth G.nts.l i).nm=false) (fun s=>(i-s).toNat) 0 (fun _ _=>rfl) rfl rfl ⟨by omega,by omega,fun j _ _=>by omega⟩ ?_;intro a t hs;obtain⟨ha1,ha2,ha3⟩:=hs;refine Cs (Nz 3 ?_);refine Wp ?_ ?_<;>intro hc1
 ·refine Ck (Qc (Cs (Ce (Cs (Dr mixed 1 ?_)))));refine Dk 1 (Ba 1) ?_;refine Dk 1 Xc ?_;refine Dk 1 (Uc 11 0) ?_;refine Dk 0 (Ba 0) ?_;refine Dk 0 (AL rfl rfl) ?_;refine Dd (Qc (Cn ?_ ?_))<;>intro hc2
  ·refine Nz 1 ?_;exact Wd (Qc (Cr (Qs (Qr (Qr (Qs (Qr (out1 rfl rfl (Ab (by rw[show ntG G i=false by unfold ntG newB;rw[C2 ha1 hc1 (by omega) hc2];rfl]))))))))))
  refine Ck (Qb (Qc (Ny 1 ?_)));refine Wk 1 Za ?_;refine Wd ?_
  exact QS.head (a+1) rfl rfl ⟨⟨by omega,by omega,fun j h0 h1=>by
     rcases(show j<a∨j=a by omega)with h|h
     ·exact ha3 j h0 h
     rw[h];exact hc2⟩,by omega⟩
 refine Cv (Qe (Qe (Qx (Qc (Cs (Nz 1 ?_))))));refine Wk 0 (Ba 0) ?_;refine Wk 2 (Cb rfl rfl QJ (fun u hu=>GF _ u (by omega))) ?_;refine We 0 ?_;refine We 0 ?_;refine We 0 ?_;refine We 0 ?_;refine We 0 ?_;refine We 0 ?_;refine We 0 ?_;refine Wf 0 rfl rfl (fun hg=>Cb rfl (ec_ (eg_ hg rfl) (ec_ rfl (ec_ (eg_ hg rfl) en_))) UZ (fun u hu=>Lj _ _ _ u)) ?_;refine We 0 ?_;refine Wk 1 Po ?_;refine We 0 ?_;refine We 0 ?_;refine We 0 ?_;refine We 0 ?_;refine We 0 ?_;refine We 0 ?_;refine Wf 0 rfl rfl (fun hg=>Cb rfl (ec_ (eg_ hg rfl) (ec_ rfl (ec_ (eg_ hg rfl) en_))) UZ (fun u hu=>Lj _ _ _ u)) ?_;refine We 0 ?_;refine Wk 0 Po ?_;refine Wp ?_ ?_<;>intro hc3
 ·refine Nz 1 ?_;exact Wd (Qc (Cr (Qr (out1 rfl rfl (Ab (by rw[show ntG G i=false by(unfold ntG placeB;grind)]))))))
 have hnb:newB NoteD.nm G.nts.l i=true:=by unfold newB;rw[Du fun j a b=>ha3 j a (by omega)];rfl
 have e1:ntG G i=NL G (nth G.nts.l i):=by(unfold ntG placeB;grind)
 refine Ck (Qc (Cs (Nz 1 ?_)));refine Wk 1 (Ba 0) ?_;refine Wp ?_ ?_<;>intro hc4
 ·refine Nz 1 ?_;refine Wk 0 (Bc 0) ?_;refine Wk 1 (Cb rfl rfl Jar (fun u hu=>U9 _ _ u (hnt.2.st hu))) ?_;exact Wd (Qc (Cr (Qr (out1 rfl rfl (Ab (by rw[e1,HY hc4]))))))
 have hcode:=hC (nth G.nts.l i).lk (by omega) (by omega);have hcd:SlI w (nth G.cds.l (nth G.nts.l i).lk).v (nth G.cds.l (nth G.nts.l i).lk).l:=(kcd.at (i:=(nth G.nts.l i).lk) (by omega) (by omega):SlT cInt w _).ints;refine Ck (Qc (Cs (Dr mixed 1 ?_)));refine Dk 1 (Ba 1) ?_;refine Dk 0 (Ba 0) ?_;refine Dk 0 Xc ?_;refine Dk 1 Ua ?_;refine Dk 0 (Bc 0) ?_;refine Dk 2 (Cb rfl rfl Jan (fun u hu=>Jz _ _ _ _ u (hnt.2.st hu))) ?_;refine Dj 0 ?_;refine Dt 0 rfl rfl (fun hg=>Bc 0) ?_;refine Dj 0 ?_;refine Dj 0 ?_;refine Dj 0 ?_;refine Dj 0 ?_;refine Dj 0 ?_;refine Dt 0 rfl rfl (fun hg=>Ub) ?_;refine Dt 0 rfl rfl (fun hg=>Cb rfl (ec_ (eg_ hg rfl) (ec_ (eg_ hg rfl) en_)) Yr (fun u hu=>Ux _ _ _ _ _ _ u (Ov (of_decide_eq_true hg) hcode) (hnt.2.st hu) (hcd.st hu))) ?_;refine Dk 1 Pa ?_;exact Dd (Qc (Cr (out1 rfl rfl (Ab (by rw[e1,FG hc4])))))
theorem Kn (G:Game) (w:World) (hG:GameOk w G) (g:Sl ByteArray) (hW:GOk w g) (hn:NearG G):
  Calls prog 100 #[.agg (gcl G).toArray] w (RetB w (.int .i64 (Bj G.p))):=by
 have klk:=hG.lks;have llk:=hG.lks.le;have kcd:=hG.cds;have lcd:=hG.cds.le;have knt:=hG.nts;have lnt:=hG.nts.le;have kpl:=hG.rm.pls;have lpl:=hG.rm.pls.le;have kth:=hG.rm.ths;have lth:=hG.rm.ths.le;have kac:=hG.rm.acs;have lac:=hG.rm.acs.le;refine En func100 ?_;refine Nz 0 ?_;refine Wr 1 fun b1 hb1=>?_;refine Nv 1 ?_;refine Wk 0 (Bc 0) ?_;refine Wk 1 (Cb rfl rfl RL (fun u hu=>Ir G.rm u (hG.rm.st hu) g (hW.st hu) hn.rm)) ?_;refine Nx 2 ?_;refine Wp ?_ ?_<;>intro hc1
 ·refine Nz 2 ?_;exact Wd (Qc (Cr (Qr (out1 rfl rfl (Ab (by rw[Eo,Bn rfl hc1]))))))
 have e1:Bj G.p=gck1 G.p:=by rw[Eo,Bm hc1]
 refine Ck (Qc (Cs (Nz 1 ?_)));refine Wk 0 (Ba 0) ?_;refine Wk 2 Nc ?_;refine We 0 ?_;refine We 0 ?_;refine We 0 ?_;refine We 0 ?_;refine Wk 0 Po ?_;refine Wp ?_ ?_<;>intro hc2
 ·refine Nz 1 ?_;exact Wd (Qc (Cr (Qr (out1 rfl rfl (Ab (by rw[e1,Kc,if_pos (by simp only[Bool.or_eq_true,decide_eq_true_eq];omega)]))))))
 have e2:Bj G.p=gck2 G.p:=by rw[e1,Kc,if_neg (by simp only[Bool.or_eq_true,decide_eq_true_eq];omega)]
 refine Ck (Qc (Cs (Nz 1 ?_)));refine Wk 0 (Ba 0) ?_;refine Wk 1 Nc ?_;refine Nu ?_;refine CS.loopM (σ:=Int) (rsL [2,2,5,6,33,41]) (fun s=>[(32,.int .i64 s)]) (fun _=>_) (fun s=>0≤s∧s≤G.lks.l.length∧∀j:Int,0≤j→j<s→lkO G.p j=0) (fun s=>(G.lks.l.length-s).toNat) 0 (fun _ _=>rfl) rfl rfl ⟨by omega,by omega,fun j _ _=>by omega⟩ ?_;intro a t hs;obtain⟨ha1,ha2,ha3⟩:=hs;refine Nz 1 ?_;refine Wd (Qc (Cs (Cn ?_ ?_)))<;>intro hc3
 ·refine Ck (Qc (Cs (Ce (Nz 0 ?_))));refine Wk 0 Xc ?_;refine Wk 0 Ua ?_;refine Wq 0 zv74 fun b5 hb5=>?_;refine Wv 0 0 ?_;refine Nx 0 ?_;refine Wk 0 (Bb 0) ?_;refine Wk 1 (Cb rfl rfl R0 (fun u hu=>Iz _ _ u)) ?_;refine Nx 2 ?_;refine Wp ?_ ?_<;>intro hc4
  ·refine Nz 2 ?_;exact Wd (Qc (Cr (Qs (Qr (Qr (Qs (Qr (out1 rfl rfl (Ab (by rw[e2,JX,Bn (Aq (f:=lkO G.p) ha1 (by omega) ha3 hc4) hc4];rfl))))))))))
  refine Ck (Qb (Qc (Ny 0 ?_)));refine Wk 1 Za ?_;refine Wd ?_;refine QS.sel [1] rfl ?_
  exact QS.head (a+1) rfl rfl ⟨⟨by omega,by omega,fun j h0 h1=>by
     rcases(show j<a∨j=a by omega)with h|h
     ·exact ha3 j h0 h
     rw[h];exact hc4⟩,by omega⟩
 have e3:Bj G.p=gck3 G.p:=by rw[e2,JX,Bm (As fun j a b=>ha3 j a (by omega))]
 refine Cv (Qe (Qe (Qx (Qc (Cs (Nz 1 ?_))))));refine Wk 0 (Ba 0) ?_;refine Wk 1 Nc ?_;refine Wk 0 (Ba 0) ?_;refine Wk 1 Nc ?_;refine Wp ?_ ?_<;>intro hc5
 ·refine Nz 1 ?_;exact Wd (Qc (Cr (Qr (out1 rfl rfl (Ab (by rw[e3,Kd,if_neg (by omega)]))))))
 have hl:G.cds.l.length=G.lks.l.length:=by omega
 have e4:Bj G.p=or0 (AV (cdO G.p) G.lks.l.length) (gck4 G.p):=by rw[e3,Kd,if_pos hl]
 refine Ck (Qc (Cs (Nz 1 ?_)));refine Wk 0 (Ba 0) ?_;refine Wk 1 Nc ?_;refine Nu ?_;refine CS.loopM (σ:=Int) (rsL [2,2,7,8,53,65]) (fun s=>[(52,.int .i64 s)]) (fun _=>_) (fun s=>0≤s∧s≤G.lks.l.length∧∀j:Int,0≤j→j<s→cdO G.p j=0) (fun s=>(G.lks.l.length-s).toNat) 0 (fun _ _=>rfl) rfl rfl ⟨by omega,by omega,fun j _ _=>by omega⟩ ?_;intro b t hs;obtain⟨hb1,hb2,hb3⟩:=hs;refine Nz 1 ?_;refine Wd (Qc (Cs (Cn ?_ ?_)))<;>intro hc6
 ·have hcd:SlI w (nth G.cds.l b).v (nth G.cds.l b).l:=(kcd.at hb1 (by omega):SlT cInt w _).ints;refine Ck (Qc (Cs (Ce (Nz 1 ?_))));refine Wk 0 Xc ?_;refine Wk 0 Ua ?_;refine Wq 1 zv74 fun b8 hb8=>?_;refine Wv 0 0 ?_;refine Wd (Qc (Cs (Dr mixed 0 ?_)));refine Dk 1 (Bb 0) ?_;refine Dk 1 (Ba 1) ?_;refine Dk 0 Xc ?_;refine Dk 0 Ub ?_;refine Dk 1 (Cb rfl rfl UF (fun u hu=>GC _ _ _ _ u (hcd.st hu))) ?_;refine Dd (Qc (Cn ?_ ?_))<;>intro hc7
  ·refine Nz 1 ?_;refine Wd (Qc (Cr (Qs (Qr (Qr (Qs (Qr ?_)))))))
   exact out1 rfl rfl (Ab (by
      have hE:cdO G.p b=12:=by rw[Kr,if_neg hc7]
      rw[e4,Bn ((Aq (f:=cdO G.p) hb1 (by omega) hb3 (by rw[hE];decide)).trans hE) (by decide)]))
  refine Ck (Qb (Qc (Ny 0 ?_)));refine Wk 1 Za ?_;refine Wd ?_;refine QS.sel [1] rfl ?_
  exact QS.head (b+1) rfl rfl ⟨⟨by omega,by omega,fun j h0 h1=>by
     rcases(show j<b∨j=b by omega)with h|h
     ·exact hb3 j h0 h
     rw[h];exact(by rw[Kr,if_pos hc7])⟩,by omega⟩
 have e5:Bj G.p=gck4 G.p:=by rw[e4,Bm (As fun j a b=>hb3 j a (by omega))]
 have hC:∀j:Int,0≤j→j<G.lks.l.length→DT (nth G.lks.l j).w (nth G.lks.l j).s (nth G.cds.l j).l=0:=fun j a b=>by
    have q:=hb3 j a (by omega);rw[Kr]at q;split at q
    ·assumption
    cases q
 refine Cv (Qe (Qe (Qx (Qc (Cs (Nz 2 ?_))))));refine Wk 0 (Ba 0) ?_;refine Wk 1 Nc ?_;refine Nu ?_;refine CS.loopM (σ:=Int) (rsL [2,2,10,10,71,80]) (fun s=>[(70,.int .i64 s)]) (fun _=>_) (fun s=>0≤s∧s≤G.rm.acs.l.length∧∀j:Int,0≤j→j<s→alO G.p j=0) (fun s=>(G.rm.acs.l.length-s).toNat) 0 (fun _ _=>rfl) rfl rfl ⟨by omega,by omega,fun j _ _=>by omega⟩ ?_;intro k t hs;obtain⟨hk1,hk2,hk3⟩:=hs;refine Nz 1 ?_;refine Wd (Qc (Cs (Cn ?_ ?_)))<;>intro hc8
 ·have hak:cAct.ok w (nth G.rm.acs.l k):=kac.at hk1 (by omega);refine Ck (Qc (Cs (Ce (Nz 0 ?_))));refine Wk 0 Xc ?_;refine Wk 0 Ua ?_;refine Wq 0 G1 fun b10 hb10=>?_;refine Wv 0 0 ?_;refine Nx 1 ?_;refine Wk 1 (Ba 0) ?_;refine Wk 0 (Ba 1) ?_;refine Wk 1 Nc ?_;refine Wp ?_ ?_<;>intro hc9
  ·refine Nz 1 ?_;refine Wd (Qc (Cr (Qs (Qr (Qr (Qs (Qr ?_)))))))
   exact out1 rfl rfl (Ab (by
      have hE:alO G.p k=26:=by rw[O1,if_neg (by omega)]
      rw[e5,Kf,Bn ((Aq (f:=alO G.p) hk1 (by omega) hk3 (by rw[hE];decide)).trans hE) (by decide)]))
  refine Ck (Qb (Qc (Ny 0 ?_)));refine Wk 1 Za ?_;refine Wd ?_;refine QS.sel [1] rfl ?_
  exact QS.head (k+1) rfl rfl ⟨⟨by omega,by omega,fun j h0 h1=>by
     rcases(show j<k∨j=k by omega)with h|h
     ·exact hk3 j h0 h
     rw[h];exact(by rw[O1,if_pos (by omega)])⟩,by omega⟩
 have e6:Bj G.p=gck5 G.p:=by rw[e5,Kf,Bm (As fun j a b=>hk3 j a (by omega))]
 refine Cv (Qe (Qe (Qx (Qc (Cs (Nz 1 ?_))))));refine Wk 0 (Ba 0) ?_;refine Wk 1 Nc ?_;refine Nu ?_;refine CS.loopM (σ:=Int) (rsL [2,2,11,12,85,100]) (fun s=>[(84,.int .i64 s)]) (fun _=>_) (fun s=>0≤s∧s≤G.nts.l.length∧∀j:Int,0≤j→j<s→ntO G.p j=0) (fun s=>(G.nts.l.length-s).toNat) 0 (fun _ _=>rfl) rfl rfl ⟨by omega,by omega,fun j _ _=>by omega⟩ ?_;intro m t hs;obtain⟨hm1,hm2,hm3⟩:=hs;refine Nz 1 ?_;refine Wd (Qc (Cs (Cn ?_ ?_)))<;>intro hc10
 ·have hnt:cNote.ok w (nth G.nts.l m):=knt.at hm1 (by omega);have hwh:SlT cLit w (nth G.nts.l m).wh:=hnt.1;refine Ck (Qc (Cs (Ce (Nz 1 ?_))));refine Wk 0 Xc ?_;refine Wk 0 Ua ?_;refine Wq 1 zv80 fun b12 hb12=>?_;refine Wv 0 0 ?_;refine Nv 0 ?_;refine Wk 1 (Bb 1) ?_;refine Wk 0 (Bb 0) ?_;refine Wk 1 (Cb rfl rfl YF (fun u hu=>VY G u (hG.st hu) hn hl hC _ hm1 (by omega))) ?_;refine Wp ?_ ?_<;>intro hc11
  ·refine Nz 1 ?_;refine Wd (Qc (Cr (Qr (Qs (Qr (Qr (Qs (Qr ?_))))))))
   exact out1 rfl rfl (Ab (by
      have hE:ntO G.p m=40:=by rw[KB,if_neg (by rw[hc11];decide),Bn rfl (by decide)]
      rw[e6,G6,Bn ((Aq (f:=ntO G.p) hm1 (by omega) hm3 (by rw[hE];decide)).trans hE) (by decide)]))
  refine Ck (Qc (Nz 1 ?_));refine Wk 1 (Bc 1) ?_;refine Wk 0 (Ba 0) ?_;refine Wk 1 (Cb rfl rfl Yg (fun u hu=>T3 G.rm u (hG.rm.st hu) _ (hwh.st hu))) ?_;refine Wp ?_ ?_<;>intro hc12
  ·refine Nz 1 ?_;refine Wd (Qc (Cr (Qs (Qr (Qr (Qs (Qr ?_)))))))
   exact out1 rfl rfl (Ab (by
      have hE:ntO G.p m=25:=by rw[KB,if_pos hc11,Bm rfl,whO,if_neg (by rw[hc12];decide)]
      rw[e6,G6,Bn ((Aq (f:=ntO G.p) hm1 (by omega) hm3 (by rw[hE];decide)).trans hE) (by decide)]))
  refine Ck (Qb (Qc (Ny 0 ?_)));refine Wk 1 Za ?_;refine Wd ?_;refine QS.sel [1] rfl ?_
  exact QS.head (m+1) rfl rfl ⟨⟨by omega,by omega,fun j h0 h1=>by
     rcases(show j<m∨j=m by omega)with h|h
     ·exact hm3 j h0 h
     rw[h];exact(by rw[KB,if_pos hc11,Bm rfl,whO,if_pos hc12])⟩,by omega⟩
 have e7:Bj G.p=gck6 G.p:=by rw[e6,G6,Bm (As fun j a b=>hm3 j a (by omega))]
 refine Cv (Qe (Qe (Qx (Qc (Cs (Nz 1 ?_))))));refine Wk 0 (Ba 0) ?_;refine Wk 1 (Cb rfl rfl Fo (fun u hu=>B8 _ _ _ u)) ?_;refine Wp ?_ ?_<;>intro hc13
 ·refine Nz 1 ?_;exact Wd (Qc (Cr (Qr (out1 rfl rfl (Ab (by rw[e7,JJ,if_neg (by simp only[Bool.and_eq_true,decide_eq_true_eq];omega)]))))))
 refine Ck (Qc (Nz 1 ?_));exact Wd (Qc (Cr (out1 rfl rfl (Ab (by rw[e7,JJ,if_pos (by simp only[Bool.and_eq_true,decide_eq_true_eq];omega)])))))
theorem JS (G:Game) (w:World) (hG:GameOk w G) (hn:NearG G):
  Calls prog 18 #[.agg (gcl G).toArray] w (RetB w (.int .i64 (Bj G.p))):=by
 have klk:=hG.lks;have llk:=hG.lks.le;have kcd:=hG.cds;have lcd:=hG.cds.le;have knt:=hG.nts;have lnt:=hG.nts.le;have kpl:=hG.rm.pls;have lpl:=hG.rm.pls.le;have kth:=hG.rm.ths;have lth:=hG.rm.ths.le;have kac:=hG.rm.acs;have lac:=hG.rm.acs.le;refine En func18 ?_;refine Nz 0 ?_;refine Wr 1 fun b1 hb1=>?_;refine Nx 1 ?_;refine Wk 0 (Bc 0) ?_;refine Wk 1 (Cb rfl rfl U6 (fun u hu=>IJ G.rm u (hG.rm.st hu) hn.rm)) ?_;refine Nv 2 ?_;refine Wp ?_ ?_<;>intro hc1
 ·refine Nz 2 ?_;exact Wd (Qc (Cr (Qr (out1 rfl rfl (Ab (by rw[Eo,Bn rfl hc1]))))))
 have e1:Bj G.p=gck1 G.p:=by rw[Eo,Bm hc1]
 refine Ck (Qc (Cs (Nz 1 ?_)));refine Wk 0 (Ba 0) ?_;refine Wk 2 Nc ?_;refine We 0 ?_;refine We 0 ?_;refine We 0 ?_;refine We 0 ?_;refine Wk 0 Po ?_;refine Wp ?_ ?_<;>intro hc2
 ·refine Nz 1 ?_;exact Wd (Qc (Cr (Qr (out1 rfl rfl (Ab (by rw[e1,Kc,if_pos (by simp only[Bool.or_eq_true,decide_eq_true_eq];omega)]))))))
 have e2:Bj G.p=gck2 G.p:=by rw[e1,Kc,if_neg (by simp only[Bool.or_eq_true,decide_eq_true_eq];omega)]
 refine Ck (Qc (Cs (Nz 1 ?_)));refine Nu ?_;refine CS.loopM (σ:=Int) (rsL [2,2,5,5,25,40]) (fun s=>[(4,.int .i64 s)]) (fun _=>_) (fun s=>0≤s∧s≤G.lks.l.length∧∀j:Int,0≤j→j<s→lkO G.p j=0) (fun s=>(G.lks.l.length-s).toNat) 0 (fun _ _=>rfl) rfl rfl ⟨by omega,by omega,fun j _ _=>by omega⟩ ?_;intro a t hs;obtain⟨ha1,ha2,ha3⟩:=hs;refine Cs (Nz 2 ?_);refine Wk 0 (Ba 0) ?_;refine Wk 1 Nc ?_;refine Wp ?_ ?_<;>intro hc3
 ·refine Ck (Qc (Cs (Ce (Nz 1 ?_))));refine Wk 1 (Ba 0) ?_;refine Wk 0 Xc ?_;refine Wk 0 Ua ?_;refine Wk 1 (Cb rfl rfl SI (fun u hu=>Gu _ _ u)) ?_;refine Nx 2 ?_;refine Wp ?_ ?_<;>intro hc4
  ·refine Nz 2 ?_;exact Wd (Qc (Cr (Qs (Qr (Qr (Qs (Qr (out1 rfl rfl (Ab (by rw[e2,JX,Bn (Aq (f:=lkO G.p) ha1 (by omega) ha3 hc4) hc4];rfl))))))))))
  refine Ck (Qb (Qc (Ny 1 ?_)));refine Wk 1 Za ?_;refine Wd ?_
  exact QS.head (a+1) rfl rfl ⟨⟨by omega,by omega,fun j h0 h1=>by
     rcases(show j<a∨j=a by omega)with h|h
     ·exact ha3 j h0 h
     rw[h];exact hc4⟩,by omega⟩
 have e3:Bj G.p=gck3 G.p:=by rw[e2,JX,Bm (As fun j a b=>ha3 j a (by omega))]
 refine Cv (Qe (Qe (Qx (Qc (Cs (Nz 1 ?_))))));refine Wk 0 (Ba 0) ?_;refine Wk 1 Nc ?_;refine Wk 0 (Ba 0) ?_;refine Wk 1 Nc ?_;refine Wp ?_ ?_<;>intro hc5
 ·refine Nz 1 ?_;exact Wd (Qc (Cr (Qr (out1 rfl rfl (Ab (by rw[e3,Kd,if_neg (by omega)]))))))
 have hl:G.cds.l.length=G.lks.l.length:=by omega
 have e4:Bj G.p=or0 (AV (cdO G.p) G.lks.l.length) (gck4 G.p):=by rw[e3,Kd,if_pos hl]
 refine Ck (Qc (Cs (Nz 1 ?_)));refine Nu ?_;refine CS.loopM (σ:=Int) (rsL [2,2,48,66]) (fun s=>[(6,.int .i64 s)]) (fun _=>_) (fun s=>0≤s∧s≤G.cds.l.length∧∀j:Int,0≤j→j<s→cdO G.p j=0) (fun s=>(G.cds.l.length-s).toNat) 0 (fun _ _=>rfl) rfl rfl ⟨by omega,by omega,fun j _ _=>by omega⟩ ?_;intro b t hs;obtain⟨hb1,hb2,hb3⟩:=hs;refine Cs (Nz 2 ?_);refine Wk 0 (Ba 0) ?_;refine Wk 1 Nc ?_;refine Wp ?_ ?_<;>intro hc6
 ·have hcd:SlI w (nth G.cds.l b).v (nth G.cds.l b).l:=(kcd.at hb1 (by omega):SlT cInt w _).ints;refine Ck (Qc (Cs (Ce (Cs (Dr mixed 1 ?_)))));refine Dk 1 (Ba 0) ?_;refine Dk 0 Xc ?_;refine Dk 1 Ua ?_;refine Dk 1 (Ba 0) ?_;refine Dk 0 Xc ?_;refine Dk 0 Ub ?_;refine Dk 1 (Cb rfl rfl ZT (fun u hu=>Kg _ _ _ _ u (hcd.st hu))) ?_;refine Dd (Qc (Cn ?_ ?_))<;>intro hc7
  ·refine Nz 1 ?_;refine Wd (Qc (Cr (Qs (Qr (Qr (Qs (Qr ?_)))))))
   exact out1 rfl rfl (Ab (by
      have hE:cdO G.p b=12:=by rw[Kr,if_neg hc7]
      rw[e4,Bn ((Aq (f:=cdO G.p) hb1 (by omega) hb3 (by rw[hE];decide)).trans hE) (by decide)]))
  refine Ck (Qb (Qc (Ny 1 ?_)));refine Wk 1 Za ?_;refine Wd ?_
  exact QS.head (b+1) rfl rfl ⟨⟨by omega,by omega,fun j h0 h1=>by
     rcases(show j<b∨j=b by omega)with h|h
     ·exact hb3 j h0 h
     rw[h];exact(by rw[Kr,if_pos hc7])⟩,by omega⟩
 have e5:Bj G.p=gck4 G.p:=by rw[e4,Bm (As fun j a b=>hb3 j a (by omega))]
 have hC:∀j:Int,0≤j→j<G.lks.l.length→DT (nth G.lks.l j).w (nth G.lks.l j).s (nth G.cds.l j).l=0:=fun j a b=>by
    have q:=hb3 j a (by omega);rw[Kr]at q;split at q
    ·assumption
    cases q
 refine Cv (Qe (Qe (Qx (Qc (Cs (Nz 1 ?_))))));refine Nu ?_;refine CS.loopM (σ:=Int) (rsL [2,2,67,85]) (fun s=>[(7,.int .i64 s)]) (fun _=>_) (fun s=>0≤s∧s≤G.rm.acs.l.length∧∀j:Int,0≤j→j<s→alO G.p j=0) (fun s=>(G.rm.acs.l.length-s).toNat) 0 (fun _ _=>rfl) rfl rfl ⟨by omega,by omega,fun j _ _=>by omega⟩ ?_;intro k t hs;obtain⟨hk1,hk2,hk3⟩:=hs;refine Cs (Nz 3 ?_);refine Wk 0 (Ba 0) ?_;refine Wk 1 Nc ?_;refine Wp ?_ ?_<;>intro hc8
 ·have hak:cAct.ok w (nth G.rm.acs.l k):=kac.at hk1 (by omega);refine Ck (Qc (Cs (Ce (Cs (Dr mixed 2 ?_)))));refine Dk 1 (Ba 0) ?_;refine Dk 1 Xc ?_;refine Dk 1 (Uc 8 2) ?_;refine Dk 0 (Ba 0) ?_;refine Dk 1 Nc ?_;refine Dd (Qc (Cn ?_ ?_))<;>intro hc9
  ·refine Nz 1 ?_;refine Wd (Qc (Cr (Qs (Qr (Qr (Qs (Qr ?_)))))))
   exact out1 rfl rfl (Ab (by
      have hE:alO G.p k=26:=by rw[O1,if_neg (by omega)]
      rw[e5,Kf,Bn ((Aq (f:=alO G.p) hk1 (by omega) hk3 (by rw[hE];decide)).trans hE) (by decide)]))
  refine Ck (Qb (Qc (Ny 1 ?_)));refine Wk 1 Za ?_;refine Wd ?_
  exact QS.head (k+1) rfl rfl ⟨⟨by omega,by omega,fun j h0 h1=>by
     rcases(show j<k∨j=k by omega)with h|h
     ·exact hk3 j h0 h
     rw[h];exact(by rw[O1,if_pos (by omega)])⟩,by omega⟩
 have e6:Bj G.p=gck5 G.p:=by rw[e5,Kf,Bm (As fun j a b=>hk3 j a (by omega))]
 refine Cv (Qe (Qe (Qx (Qc (Cs (Nz 1 ?_))))));refine Nu ?_;refine CS.loopM (σ:=Int) (rsL [2,2,86,106]) (fun s=>[(8,.int .i64 s)]) (fun _=>_) (fun s=>0≤s∧s≤G.nts.l.length∧∀j:Int,0≤j→j<s→ntO G.p j=0) (fun s=>(G.nts.l.length-s).toNat) 0 (fun _ _=>rfl) rfl rfl ⟨by omega,by omega,fun j _ _=>by omega⟩ ?_;intro m t hs;obtain⟨hm1,hm2,hm3⟩:=hs;refine Cs (Nz 2 ?_);refine Wk 0 (Ba 0) ?_;refine Wk 1 Nc ?_;refine Wp ?_ ?_<;>intro hc10
 ·have hnt:cNote.ok w (nth G.nts.l m):=knt.at hm1 (by omega);have hwh:SlT cLit w (nth G.nts.l m).wh:=hnt.1;refine Ck (Qc (Cs (Ce (Cs (Nz 0 ?_)))));refine Wk 1 (Bb 0) ?_;refine Wk 1 (Cb rfl rfl Jak (fun u hu=>Vi G u (hG.st hu) hn hl hC _ hm1 (by omega))) ?_;refine Wp ?_ ?_<;>intro hc11
  ·refine Nz 1 ?_;refine Wd (Qc (Cr (Qr (Qs (Qr (Qr (Qs (Qr ?_))))))))
   exact out1 rfl rfl (Ab (by
      have hE:ntO G.p m=40:=by rw[KB,if_neg (by rw[hc11];decide),Bn rfl (by decide)]
      rw[e6,G6,Bn ((Aq (f:=ntO G.p) hm1 (by omega) hm3 (by rw[hE];decide)).trans hE) (by decide)]))
  refine Ck (Qc (Cs (Dr mixed 1 ?_)));refine Dk 1 (Bc 0) ?_;refine Dk 1 (Ba 0) ?_;refine Dk 1 Xc ?_;refine Dk 0 (Uc 11 3) ?_;refine Dk 1 (Cb rfl rfl N4 (fun u hu=>Eq G.rm u (hG.rm.st hu) _ (hwh.st hu))) ?_;refine Dd (Qc (Cn ?_ ?_))<;>intro hc12
  ·refine Nz 1 ?_;refine Wd (Qc (Cr (Qs (Qr (Qr (Qs (Qr ?_)))))))
   exact out1 rfl rfl (Ab (by
      have hE:ntO G.p m=25:=by rw[KB,if_pos hc11,Bm rfl,whO,if_neg (by rw[hc12];decide)]
      rw[e6,G6,Bn ((Aq (f:=ntO G.p) hm1 (by omega) hm3 (by rw[hE];decide)).trans hE) (by decide)]))
  refine Ck (Qb (Qc (Ny 1 ?_)));refine Wk 1 Za ?_;refine Wd ?_
  exact QS.head (m+1) rfl rfl ⟨⟨by omega,by omega,fun j h0 h1=>by
     rcases(show j<m∨j=m by omega)with h|h
     ·exact hm3 j h0 h
     rw[h];exact(by rw[KB,if_pos hc11,Bm rfl,whO,if_pos hc12])⟩,by omega⟩
 have e7:Bj G.p=gck6 G.p:=by rw[e6,G6,Bm (As fun j a b=>hm3 j a (by omega))]
 refine Cv (Qe (Qe (Qx (Qc (Cs (Nz 1 ?_))))));refine Wk 0 (Ba 0) ?_;refine Wk 1 (Cb rfl rfl UZ (fun u hu=>Lj _ _ _ u)) ?_;refine Wp ?_ ?_<;>intro hc13
 ·refine Nz 1 ?_;exact Wd (Qc (Cr (Qr (out1 rfl rfl (Ab (by rw[e7,JJ,if_neg (by simp only[Bool.and_eq_true,decide_eq_true_eq];omega)]))))))
 refine Ck (Qc (Nz 1 ?_));exact Wd (Qc (Cr (out1 rfl rfl (Ab (by rw[e7,JJ,if_pos (by simp only[Bool.and_eq_true,decide_eq_true_eq];omega)])))))
theorem Mc (G:Game) (w:World) (hG:GameOk w G) (g:Sl ByteArray) (hW:GOk w g) (hn:NearG G) (p:Pos) (hp:PosOk w p):
  Calls prog 147 #[.agg (gcl G).toArray,.agg #[p.st.ths.v,p.st.prs.v,p.st.pls.v,p.rd.v]] w (RetB w (.int .i64 (posG G.p p.x))):=by
 have knt:=hG.nts;have krd:=hp.rd;refine En func147 ?_;refine Nz 0 ?_;refine Wr 0 fun b2 hb2=>?_;refine Wr 1 fun b3 hb3=>?_;refine Nv 0 ?_;refine Wk 0 (Bb 1) ?_;refine Wk 1 (Cb rfl rfl Uv (fun u hu=>Kn G u (hG.st hu) g (hW.st hu) hn)) ?_;refine Nx 2 ?_;refine Wp ?_ ?_<;>intro hc1
 ·refine Nz 2 ?_;exact Wd (Qc (Cr (Qr (out1 rfl rfl (Ab (by rw[HP,Bn rfl hc1]))))))
 refine Ck (Qc (Cs (Nz 1 ?_)));refine Wk 1 (Bc 1) ?_;refine Wk 0 (Bc 0) ?_;refine Wk 1 (Cb rfl rfl J1 (fun u hu=>B5 G.rm u (hG.rm.st hu) g (hW.st hu) hn.rm p.st (hp.st.st hu))) ?_;refine Nx 2 ?_;refine Wp ?_ ?_<;>intro hc2
 ·refine Nz 2 ?_;exact Wd (Qc (Cr (Qr (out1 rfl rfl (Ab (by rw[HP,Bm hc1,Bn rfl hc2]))))))
 refine Ck (Qc (Cs (Nz 1 ?_)));refine Wk 0 (Ba 0) ?_;refine Wk 1 Nc ?_;refine Wk 0 (Ba 1) ?_;refine Wk 1 Nc ?_;refine Wp ?_ ?_<;>intro hc3
 ·refine Nz 1 ?_;exact Wd (Qc (Cr (Qr (out1 rfl rfl (Ab (by rw[HP,Bm hc1,Bm hc2,if_neg (by omega)]))))))
 refine Ck (Qc (Nz 1 ?_));exact Wd (Qc (Cr (out1 rfl rfl (Ab (by rw[HP,Bm hc1,Bm hc2,if_pos (by omega)])))))
theorem Oa (p:Pos) (w:World) (hp:PosOk w p) (hm:(p.st.ths.l.length≤1000000∧p.st.prs.l.length≤1000000∧p.st.pls.l.length≤1000000)∧p.rd.l.length≤1000000):
  Calls prog 118 #[.agg #[p.st.ths.v,p.st.prs.v,p.st.pls.v,p.rd.v]] w (fun e w'=>∃x:Stt×Value,((x.1.x=p.st.x∧∃u0,SttOk u0 x.1)∧x.2.oneCell'=true)∧RetF w (.agg #[x.1.ths.v,x.1.prs.v,x.1.pls.v,x.2]) (star [roS fun u=>SttOk u x.1,oT cBool 4 x.2 p.rd.l]) e w'):=by
 have krd:=hp.rd;have lrd:=hm.2;refine En func118 ?_;refine Nz 0 ?_;refine Wr 0 fun b1 hb1=>?_;refine Wq 0 zv98 fun b2 hb2=>?_;refine Wd (Qc (Cs ?_));refine CS.drawnTill 6 (k:=9) mixed rfl rfl ?_;refine Tr 9 [0] ?_;refine Tk 9 1 [4] rfl (Bc 1) ?_;refine Tk 9 5 [] rfl (Ba 1) ?_;refine AT.two (i:=2) (j:=3) (by kernel_rfl) rfl rfl (by exact fun _ _ h=>h) rfl rfl ?_ ?_
 ·refine Wc rfl rfl LZ (fun u hu=>Gi p.st u (hp.st.st hu) hm.1) (fun _=>rfl) ?_;rintro y ⟨hyx,uy,hyok⟩;obtain⟨hya,hyb,hyc⟩:=hyok.ones;refine Wd (Qt ?_);refine To 3 rfl ?_;refine WS.build0 sl96 zv4 (fun _=>rfl) ?_;intro v6;refine Wd (Qt ?_);refine To 6 rfl ?_;refine WS.append0 (j:=0) (news:=Ay cBool p.rd.l) (m:=p.rd.l.length) sl96 zv4 rfl (by decide) rfl rfl rfl (fun u hu=>(krd.st hu).sp) krd.one (by omega) (by omega) (fun _=>rfl) (fun _=>rfl) ?_;intro v9;refine WS.oc (j:=0) rfl (fun hv9=>?_);refine Wd (Qt ?_);refine To 7 rfl ?_;refine Wk 0 (Aw C6 zv98 rfl (.agg (.one hv9 .nil)) rfl) ?_;refine Wd (Qt ?_);refine To 8 rfl ?_;refine Wv 0 2 ?_;refine Wd (Qt ?_);refine Te ?_;exact Qc (Cr (outR (resc rfl (Au (j:=2) rfl rfl tk98)) (fun u hu=>⟨(y,v9),⟨⟨hyx,uy,hyok⟩,hv9⟩,G4 (hu.sel [1,0] rfl) (List.Perm.refl _)⟩)))
 refine WS.build0 sl96 zv4 (fun _=>rfl) ?_;intro v6;refine Wd (Qt ?_);refine To 2 rfl ?_;refine Wc rfl rfl LZ (fun u hu=>Gi p.st u (hp.st.st hu) hm.1) (fun _=>rfl) ?_;rintro y ⟨hyx,uy,hyok⟩;obtain⟨hya,hyb,hyc⟩:=hyok.ones;refine Wd (Qt ?_);refine To 6 rfl ?_;refine WS.append0 (j:=1) (news:=Ay cBool p.rd.l) (m:=p.rd.l.length) sl96 zv4 rfl (by decide) rfl rfl rfl (fun u hu=>(krd.st hu).sp) krd.one (by omega) (by omega) (fun _=>rfl) (fun _=>rfl) ?_;intro v9;refine WS.oc (j:=1) rfl (fun hv9=>?_);refine Wd (Qt ?_);refine To 7 rfl ?_;refine Wk 0 (Aw C6 zv98 rfl (.agg (.one hv9 .nil)) rfl) ?_;refine Wd (Qt ?_);refine To 8 rfl ?_;refine Wv 0 2 ?_;refine Wd (Qt ?_);refine Te ?_;exact Qc (Cr (outR (resc rfl (Au (j:=2) rfl rfl tk98)) (fun u hu=>⟨(y,v9),⟨⟨hyx,uy,hyok⟩,hv9⟩,G4 (hu.sel [0,0] rfl) (List.Perm.refl _)⟩)))
theorem CY (s0:Sl Bool) (w:World) (hk:SlT cBool w s0) (hm:s0.l.length≤1000000):
  Calls prog 146 #[s0.v] w (fun e w'=>∃v':Value,v'.oneCell'=true∧RetF w v' (oT cBool 4 v' s0.l) e w'):=by
 obtain⟨v,l⟩:=s0;obtain⟨⟨hl,p,cap,hv,hcap,hq⟩,he⟩:=hk;simp only at hv hl hcap hq hm⊢;subst hv;have hk:SlT cBool w ⟨.slice p l.length cap,l⟩:=⟨⟨hl,p,cap,rfl,hcap,hq⟩,he⟩;clear hl hcap hq he;refine En func146 ?_;refine Nz 1 ?_;refine Nv 1 ?_;refine Wk 0 (J0 sl96 rfl rfl) ?_;refine Wp ?_ ?_<;>intro hc1
 ·have hx0:l=[]:=by
   have:p=none:=by simpa using hc1
   subst this;exact List.eq_nil_of_length_eq_zero (SlC.nil hk.sp)
  subst hx0;refine Nz 1 ?_;exact Wd (Qc (Cr (Qr (out1 rfl rfl (fun u hu=>⟨_,rfl,retF (j:=0) rfl u hu.osl0⟩)))))
 refine Ck (Qc (Nz 0 ?_));refine WS.build0 sl96 zv4 (fun _=>rfl) ?_;intro v5;refine Wz 1 ?_;refine WS.append0 (j:=0) (news:=Ay cBool l) (m:=l.length) sl96 zv4 rfl (by decide) rfl rfl rfl (fun u hu=>(hk.st hu).sp) hk.one (by omega) (by omega) (fun _=>rfl) (fun _=>rfl) ?_;intro v7;refine WS.oc (j:=0) rfl (fun hv7=>?_);refine Wz 1 ?_;exact Wd (Qc (Cr (out1 rfl rfl (fun u hu=>⟨v7,hv7,retF (j:=0) rfl u hu⟩))))
theorem Vf (G:Game) (w:World) (hG:GameOk w G) (p:Pos) (hp:PosOk w p) (hl:p.rd.l.length=G.nts.l.length) (hnn:G.nts.l.length≤1000) (lk:Int):
  Calls prog 157 #[.agg (gcl G).toArray,.agg #[p.st.ths.v,p.st.prs.v,p.st.pls.v,p.rd.v],.int .i64 lk] w (fun e w'=>∃x:Value,(∃u0,SlI u0 x (cluN G.p p.rd.l lk))∧RetF w x (roI x (cluN G.p p.rd.l lk)) e w'):=by
 have knt:=hG.nts;have krd:=hp.rd;refine En func157 ?_;refine Nz 0 ?_;refine Wr 0 fun b3 hb3=>?_;refine Wr 1 fun b4 hb4=>?_;refine Nx 1 ?_;refine Nv 1 ?_;refine Nu ?_;refine CS.weak (fun _ hu=>hu.osl0 (e:=3) (size:=1)) ?_;refine CS.loopM (σ:=Int×Value) (rsL [9,34]) (fun s=>[(8,.int .i64 s.1),(7,s.2)]) (fun s=>[oints 3 s.2 (filI s.1 (fun i=>nth p.rd.l i&&decide ((nth G.nts.l i).lk=lk))),blk b4 [p.st.ths.v,p.st.prs.v,p.st.pls.v,p.rd.v] 98,blk b3 (gcl G) 36]) (fun s=>0≤s.1∧s.1≤G.nts.l.length) (fun s=>(G.nts.l.length-s.1).toNat) (0,.slice none 0 0) (fun _ _=>rfl) rfl rfl ⟨by simp,by(simp;done)⟩ ?_;intro a t hs;obtain⟨ha1,ha2⟩:=hs;have hfl:=fun p=>Eu (n:=a.1) (p:=p) ha1;refine Cs (Nz 2 ?_);refine Wk 0 (Ba 2) ?_;refine Wk 1 Nc ?_;refine Wp ?_ ?_<;>intro hc1
 ·have hfa:=hfl (fun i=>nth p.rd.l i&&decide ((nth G.nts.l i).lk=lk));refine Ck (Qc (Cs (Ce (Nz 1 ?_))));refine Wk 1 (Ba 1) ?_;refine Wk 0 Xc ?_;refine Wk 1 Ub ?_;refine Wj 0 ?_;refine Wj 0 ?_;refine Wj 0 ?_;refine Wj 0 ?_;refine Wj 0 ?_;refine Wt 0 rfl rfl (fun hg=>Uc 11 2) ?_;refine Wj 0 ?_;refine Wj 0 ?_;refine Wk 0 Pa ?_;refine Wp ?_ ?_<;>intro hc2
  ·refine Ny 2 ?_;refine WS.buildI1 sl37 zv3 rfl (fun _=>rfl) ?_;intro v33;refine WS.appendI (j:=1) sl37 zv3 rfl rfl rfl (fun u hu=>Ah hu (j:=0) rfl) (by(simp;omega)) (by(simp;omega)) (fun _=>rfl) (fun _=>rfl) ?_;intro v34;refine WS.oc (j:=1) rfl (fun hv34=>?_);refine Wz 1 ?_;refine Wd (Qb (Qc (Ny 1 ?_)));refine Wk 1 Za ?_;refine Wd ?_;refine QS.sel [1,1,1] rfl ?_;exact QS.head ((a.1+1,v34)) rfl (by simp only[ET (p:=(fun i=>nth p.rd.l i&&decide ((nth G.nts.l i).lk=lk))) ha1 (by simp only[Bool.and_eq_true,decide_eq_true_eq];exact hc2)]) ⟨⟨by simp;omega,by simp;omega⟩,by simp;omega⟩
  refine Ck (Qb (Qc (Ny 1 ?_)));refine Wk 1 Za ?_;exact Wd (QS.head ((a.1+1,a.2)) rfl (by simp only[←GG (p:=(fun i=>nth p.rd.l i&&decide ((nth G.nts.l i).lk=lk))) ha1 (by simp only[Bool.and_eq_false_iff,decide_eq_false_iff_not];exact hc2)]) ⟨⟨by simp;omega,by simp;omega⟩,by simp;omega⟩)
 have hae:a.1=G.nts.l.length:=by omega
 refine Cv (Qe (Qe (Qx (Qc (Nz 2 ?_)))));exact Wd (Qc (Cr (out1 rfl rfl (Z7 (j:=0) rfl (by rw[Qk,←hae]) rfl))))
theorem WP (G:Game) (w:World) (hG:GameOk w G) (ns:List Int) (nv:Value) (h2:SlI w nv ns) (hn:∀k∈ns,0≤k∧k<G.nts.l.length) (hm:ns.length≤1000):
  Calls prog 196 #[.agg (gcl G).toArray,nv] w (fun e w'=>∃v':Value,v'.oneCell'=true∧RetF w v' (osl 76 7 v' (clsG G ns).length (BB (clsG G ns) (gvsG G ns))) e w'):=by
 have knt:=hG.nts;refine En func196 ?_;refine Nz 0 ?_;refine Wr 1 fun b2 hb2=>?_;refine Nx 1 ?_;refine Nv 1 ?_;refine Nu ?_;refine CS.weak (fun _ hu=>hu.osl0 (e:=76) (size:=7)) ?_;refine CS.loopM (σ:=Int×Value) (rsL [7,24]) (fun s=>[(5,s.2),(6,.int .i64 s.1)]) (fun s=>[osl 76 7 s.2 (clsG G (ns.take s.1.toNat)).length (BB (clsG G (ns.take s.1.toNat)) (gvsG G (ns.take s.1.toNat))),blk b2 (gcl G) 36]) (fun s=>0≤s.1∧s.1≤ns.length) (fun s=>(ns.length-s.1).toNat) (0,.slice none 0 0) (fun _ _=>rfl) rfl rfl ⟨by simp,by simp⟩ ?_;intro s t hs;obtain⟨hs1,hs2⟩:=hs;have htl:=List.length_take_le s.1.toNat ns;have hcl:(clsG G (ns.take s.1.toNat)).length=(ns.take s.1.toNat).length:=by simp[clsG]
 refine Cs (Nz 2 ?_);refine Wk 1 Na ?_;refine Wp ?_ ?_<;>intro hc1
 ·have hs3:s.1<ns.length:=by omega
  have hat:=hn _ (Ad hs1 hs3);have hnt:cNote.ok w (nth G.nts.l (nth ns s.1)):=knt.at hat.1 hat.2;have hg1:=hnt.2.one1;refine Ck (Qc (Cs (Ce ?_)));refine CS.drawnTill 11 (k:=13) mixed rfl rfl ?_;refine Tr 13 [0,1] ?_;refine Tk 13 2 [3,4] rfl (Ba 1) ?_;refine Tk 13 5 [] rfl Xa ?_;refine Tk 13 6 [] rfl Ia ?_;refine Tk 13 7 [8] rfl Xc ?_;refine Tk 13 9 [] rfl (Sz 11 4 7 rfl knt rfl ⟨by omega,by omega⟩ rfl rfl tk76) ?_;refine To 10 rfl ?_;refine WS.buildC1 sl77 zv76 (c:=(nth G.nts.l (nth ns s.1)).cl) (gv:=(nth G.nts.l (nth ns s.1)).gv) rfl (fun _=>rfl) ?_;intro v23;refine Wd (Qt ?_);refine To 11 rfl ?_;refine WS.appendCl (j:=1) (jz:=0) sl77 zv76 rfl rfl rfl (by simp[clsG,gvsG]) rfl rfl hg1 (by omega) (by omega) (fun _=>rfl) (fun _=>rfl) ?_;intro v24 hv24;refine Wd (Qt ?_);refine To 12 rfl ?_;refine Wz 1 ?_;refine Wd (Qt ?_);refine Te ?_;refine Qb (Qc (Ny 1 ?_));refine Wk 1 Za ?_;refine Wd ?_;refine QS.sel [1,1] rfl ?_;exact QS.head ((s.1+1,v24)) rfl (by simp only[clsG,gvsG,Dq (fun i=>(nth G.nts.l i).cl) hs1 hs3,Dq (fun i=>(nth G.nts.l i).gv) hs1 hs3]) ⟨⟨by simp;omega,by simp;omega⟩,by simp;omega⟩
 refine Cv (Qe (Qe (Qx (Qc (Nz 2 ?_)))));refine Wd (Qc (Cr ?_));refine QS.oc (j:=0) rfl (fun hv5=>?_);have hta:ns.take s.1.toNat=ns:=List.take_of_length_le (by omega);rw[hta];exact out1 rfl rfl (fun u hu=>⟨_,hv5,retF (j:=0) rfl u hu⟩)
theorem Li (G:Game) (w:World) (hG:GameOk w G) (hV:GoodG G) (lk:Int) (h0:0≤lk) (h1:lk<G.lks.l.length) (ns:List Int) (nv:Value) (h2:SlI w nv ns) (hns:GY G lk ns) (hl:ns.length≤20):
  Calls prog 156 #[.agg (gcl G).toArray,.int .i64 lk,nv] w (RetB w (.int .i64 (PT G.p lk ns))):=by
 have klk:=hG.lks;have hE:=JW hV h0 h1 hns hl;refine En func156 ?_;refine Nz 0 ?_;refine Wr 1 fun b3 hb3=>?_;refine Wd (Qc (Cs ?_));refine CS.drawnAll (k:=14) mixed rfl rfl ?_;refine Ar [0] ?_;refine Ak 1 [2] rfl (Ba 0) ?_;refine Ak 3 [] rfl Xc ?_;refine Ak 4 [] rfl Ua ?_;refine Ak 5 [6] rfl (Bb 0) ?_;refine Ao 7 rfl ?_;refine Wc rfl rfl ZK (fun u hu=>WP G u (hG.st hu) ns nv (h2.st hu) (fun k hk↦(hns k hk).1) (by omega)) (fun _=>rfl) ?_;rintro v17 hv17;refine Wd (Qa ?_);refine Ao 8 rfl ?_;refine Wk 0 (Cb rfl rfl Y2 (fun u hu=>T9 _ _ _ _ _ u (Uk (hG.st hu) hns (AX hu (j:=0) rfl)))) ?_;refine Wd (Qa ?_);refine Ar [9,10,11,12,13] ?_;refine Ae ?_;refine Qc (Nz 2 ?_);exact Wd (Qc (Cr (out1 rfl rfl (Ab (by rw[Ot,hE];rfl)))))
theorem VW (G:Game) (w:World) (hG:GameOk w G) (hV:GoodG G) (p:Pos) (hp:PosOk w p) (hl:p.rd.l.length=G.nts.l.length) (lk:Int) (h0:0≤lk) (h1:lk<G.lks.l.length):
  Calls prog 120 #[.agg (gcl G).toArray,.agg #[p.st.ths.v,p.st.prs.v,p.st.pls.v,p.rd.v],.int .i64 lk] w (RetB w (.bool (Dm G.p p.rd.l lk))):=by
 have hnn:=hV.nn;refine En func120 ?_;refine Nz 0 ?_;refine Wr 0 fun b3 hb3=>?_;refine Wr 1 fun b4 hb4=>?_;refine Wd (Qc (Cs ?_));refine CS.drawnAll (k:=11) mixed rfl rfl ?_;refine Ak 0 [1] rfl (Bb 1) ?_;refine Ak 2 [] rfl (Bb 1) ?_;refine Ak 3 [4,7] rfl (Bb 0) ?_;refine Ak 8 [] rfl (Ba 1) ?_;refine Ao 5 rfl ?_;refine Wc rfl rfl Yt (fun u hu=>Vf G u (hG.st hu) p (hp.toSt hu) hl (by omega) _) (fun _=>rfl) ?_;rintro vc ⟨uc,hvc⟩;refine Wd (Qa ?_);refine Ao 6 rfl ?_;refine Wk 0 (Cb rfl rfl Zf (fun u hu=>Li G u (hG.st hu) hV _ h0 h1 _ _ (hu.ro (j:=0) rfl) X0 (Nat.le_trans (Vu hV _ _) (by decide)))) ?_;refine Wd (Qa ?_);refine Ar [9,10] ?_;refine Ae ?_;exact Qc (Cr (out1 rfl rfl (Ab rfl)))
theorem PV (G:Game) (w:World) (hG:GameOk w G) (hV:GoodG G) (p:Pos) (hp:PosOk w p) (hI:StIn G.rm p.st.x) (hl:p.rd.l.length=G.nts.l.length):
  Calls prog 85 #[.agg (gcl G).toArray,.agg #[p.st.ths.v,p.st.prs.v,p.st.pls.v,p.rd.v]] w (RetP w (p.st.x,BT G.p p.st.x p.rd.l) fun v=>v):=by
 have knt:=hG.nts;have hnn:=hV.nn;have hsm:=hI.small hV.ready;have hpl:=hI.ll;refine En func85 ?_;refine Nz 0 ?_;refine Wr 0 fun b2 hb2=>?_;refine Wr 0 fun b3 hb3=>?_;refine Wq 0 zv98 fun b4 hb4=>?_;refine Nx 0 ?_;refine Wk 0 (Bb 1) ?_;refine Wc rfl rfl Xs (fun u hu=>Oa p u (hp.toSt hu) ⟨hsm,by omega⟩) (fun _=>rfl) ?_;rintro⟨y,rv⟩ ⟨⟨hyx,uy,hyok⟩,hrv⟩;obtain⟨hya,hyb,hyc⟩:=hyok.ones;have hyl:y.pls.l=p.st.pls.l:=congrArg (fun q:P3=>q.2.2) hyx;have hyt:y.ths.l=p.st.ths.l:=congrArg (fun q:P3=>q.1) hyx;have ypl:=hyok.pls.ints;have hyn:y.pls.l.length≤1000000:=by rw[hyl];exact hsm.2.2
 refine WS.unpack ?_;refine Wq 0 zv98 fun b5 hb5=>?_;refine Wv 0 0 ?_;refine Nv 1 ?_;refine Nu ?_;refine CS.sel [0,1,0,0,0,0] rfl ?_;refine CS.loopM (σ:=Int×List Bool) (rsL [7,8,11,50]) (fun s=>[(6,.int .i64 s.1)]) (fun s=>[blk b5 [y.ths.v,y.prs.v,y.pls.v,rv] 98,oT cBool 4 rv s.2,roS fun u=>SttOk u y,blk b4 [.slice none 0 0,.slice none 0 0,.slice none 0 0,.slice none 0 0] 98,blk b3 [p.st.ths.v,p.st.prs.v,p.st.pls.v,p.rd.v] 98,blk b2 (gcl G) 36]) (fun s=>0≤s.1∧s.1≤G.nts.l.length∧ReadTo G.p p.st.x p.rd.l s.1 s.2) (fun s=>(G.nts.l.length-s.1).toNat) (0,p.rd.l) (fun _ _=>rfl) rfl rfl ⟨by simp,by simp,ReadTo.zero⟩ ?_;intro a t hs;obtain⟨ha1,ha2,ha3⟩:=hs;have hln:=ha3.len;refine Cs (Nz 2 ?_);refine Wk 0 (Ba 5) ?_;refine Wk 1 Nc ?_;refine Wp ?_ ?_<;>intro hc1
 ·have hnt:cNote.ok w (nth G.nts.l a.1):=knt.at ha1 (by omega);have hwh:SlT cLit w (nth G.nts.l a.1).wh:=hnt.1;have hco:DM p.st.ths.l.length (nth G.nts.l a.1).wh.l:=by rw[show p.st.ths.l.length=G.rm.ths.l.length from hI.lt];exact hV.cond ha1 (by omega)
  refine Ck (Qc (Cs (Ce (Nz 1 ?_))));refine Wk 1 (Ba 5) ?_;refine Wk 0 Xc ?_;refine Wk 0 Ua ?_;refine Wq 0 zv80 fun b7 hb7=>?_;refine Wv 0 0 ?_;refine Nx 1 ?_;refine Nu ?_;refine CS.loopM (σ:=Int×List Bool) (rsL [23,50]) (fun s=>[(8,.int .i64 s.1)]) (fun s=>blk b7 [.string (nth G.nts.l a.1).nm,.int .i64 (nth G.nts.l a.1).pl,.int .i64 (nth G.nts.l a.1).lk,(nth G.nts.l a.1).wh.v,.int .i64 (nth G.nts.l a.1).cl.k,.int .i64 (nth G.nts.l a.1).cl.a,.int .i64 (nth G.nts.l a.1).cl.b,.int .i64 (nth G.nts.l a.1).cl.n,.int .i64 (nth G.nts.l a.1).cl.m,(nth G.nts.l a.1).gv,.bool (nth G.nts.l a.1).cl.nt] 80::[blk b5 [y.ths.v,y.prs.v,y.pls.v,rv] 98,oT cBool 4 rv s.2,roS fun u=>SttOk u y,blk b4 [.slice none 0 0,.slice none 0 0,.slice none 0 0,.slice none 0 0] 98,blk b3 [p.st.ths.v,p.st.prs.v,p.st.pls.v,p.rd.v] 98,blk b2 (gcl G) 36]) (fun s=>0≤s.1∧s.1≤y.pls.l.length∧s.2=if F4 p.st.x (nth G.nts.l a.1).p s.1=true then a.2.set a.1.toNat true else a.2) (fun s=>(y.pls.l.length-s.1).toNat) (0,a.2) (fun _ _=>rfl) rfl rfl ⟨by simp,by simp,by rw[KT];rfl⟩ ?_;intro d t hs;obtain⟨hd1,hd2,hd3⟩:=hs;have hdl:d.2.length=a.2.length:=by rw[hd3];split<;>simp
  have hsn:=fun h:d.1<p.st.x.2.2.length=>Lx (x:=p.st.x) (n:=(nth G.nts.l a.1).p) hd1 h;refine Cs (Nz 3 ?_);refine Wk 0 (Ba 1) ?_;refine Wk 1 (Bi sl37 rfl ypl) ?_;refine Wp ?_ ?_<;>intro hc2
  ·refine Ck (Qc (Cs (Ce (Cs (Dr mixed 2 ?_)))));refine Dk 1 (Ba 1) ?_;refine Dk 0 (IE sl37 rfl rfl ypl (by omega) (by omega)) ?_;refine Dk 1 (Wo (j:=3) rfl (fun u (h:SttOk u y)=>h.pls.ints) rfl (by omega) tk3) ?_;refine Dk 2 (Ba 0) ?_;refine Dj 0 ?_;refine Dt 0 rfl rfl (fun hg=>Bc 1) ?_;refine Dj 0 ?_;refine Dj 0 ?_;refine Dt 0 rfl rfl (fun hg=>Cb rfl (ec_ (eg_ hg rfl) (ec_ (eg_ hg rfl) en_)) JY (fun u hu=>DX y u (hu.ro (j:=3) rfl) (nth G.nts.l a.1).wh (hwh.st hu) (by rw[hyt];exact hco))) ?_;refine Dk 0 Pa ?_;refine Dd (Qc (Cn ?_ ?_))<;>intro hc3
   ·refine Ny 1 ?_;refine Wk 1 (Ba 1) ?_;refine Wk 0 (AQ (j:=2) sl96 rfl rfl rfl rfl (by omega) (by omega)) ?_;refine WS.storeTc (C:=cBool) 1 0 true (j:=2) rfl rfl rfl ⟨by omega,by omega⟩ (by decide) rfl rfl tk4 rfl rfl ?_;refine Wd (Qb (Qc (Ny 1 ?_)));refine Wk 1 Za ?_;refine Wd ?_
    exact QS.head ((d.1+1,d.2.set a.1.toNat true)) rfl rfl ⟨⟨by simp;omega,by simp;omega,by
        simp only;rw[hsn (by show d.1<(p.st.pls.l.length:Int);rw[←hyl];omega),show(decide (nth p.st.x.2.2 d.1=(nth G.nts.l a.1).p.pl)&&Bt p.st.x.1 (nth G.nts.l a.1).p.wh)=true by(simp only[Bool.and_eq_true,decide_eq_true_eq,Stt.x,←hyl,←hyt];exact hc3),Bool.or_true,if_pos rfl,hd3];split
        ·rw[List.set_set]
        rfl⟩,by simp;omega⟩
   refine Ck (Qb (Qc (Ny 1 ?_)));refine Wk 1 Za ?_;refine Wd ?_
   exact QS.head ((d.1+1,d.2)) rfl rfl ⟨⟨by simp;omega,by simp;omega,by
       simp only
       rw[hsn (by show d.1<(p.st.pls.l.length:Int);rw[←hyl];omega),show(decide (nth p.st.x.2.2 d.1=(nth G.nts.l a.1).p.pl)&&Bt p.st.x.1 (nth G.nts.l a.1).p.wh)=false by(simp only[Bool.and_eq_false_iff,decide_eq_false_iff_not,Stt.x,←hyl,←hyt];exact hc3),Bool.or_false,hd3]⟩,by simp;omega⟩
  refine Cv (Qe (Qe (Qx (Qb (Qc (Ny 1 ?_))))));refine Wk 1 Za ?_;refine Wd ?_;refine QS.sel [1,1,1,1,1,1] rfl ?_;exact QS.head ((a.1+1,d.2)) rfl rfl ⟨⟨by simp;omega,by simp;omega,ha3.next ha1 (by omega) (by rw[hd3,Game.p_nts,NG (by show p.st.pls.l.length≤d.1;rw[←hyl];omega)])⟩,by simp;omega⟩
 refine Cv (Qe (Qe (Qx (Qc (Nz 0 ?_)))));refine Wk 0 (Bb 0) ?_;refine Wv 0 3 ?_;exact Wd (Qc (Cr (outR (resc rfl (Au (j:=3) rfl rfl tk98)) (fun u hu=>Ys (f:=fun v=>v) (is:=[2,1]) rfl (by rw[hyx,ha3.done (by omega)]) hu))))
theorem KQ (G:Game) (w:World) (hG:GameOk w G) (hn:NearG G) (p:Pos) (hp:PosOk w p) (hP:GoodP G p) (m:Move) (hL:legalB G.rm p.st.x m=true):
  Calls prog 88 #[.agg (gcl G).toArray,.agg #[p.st.ths.v,p.st.prs.v,p.st.pls.v,p.rd.v],.agg #[.int .i64 m.p,.int .i64 m.k,.int .i64 m.n]] w (RetB w (.bool (AE G.p p.x m))):=by
 have hR:=hP.ready;have hI:=hP.inn;have hdo:=LK hR hI hL;have kac:=hG.rm.acs;have lac:=hG.rm.acs.le;have hxx:p.x.1=p.st.x:=rfl;refine En func88 ?_;refine Nz 0 ?_;refine Wr 0 fun b3 hb3=>?_;refine Wr 0 fun b4 hb4=>?_;refine Wr 1 fun b5 hb5=>?_;refine Nx 1 ?_;refine Wk 1 (Bc 2) ?_;refine Wk 0 (Bc 1) ?_;refine Wk 0 (Bb 0) ?_;refine Wc rfl rfl ZM (fun u hu=>Kh G.rm u (hG.rm.st hu) p.st (hp.st.st hu) hR hI m hL) (fun _=>rfl) ?_;rintro y ⟨hyx,uy,hyok⟩;obtain⟨hya,hyb,hyc⟩:=hyok.ones;refine Wz 3 ?_;refine Wq 0 zv95 fun b7 hb7=>?_;refine Wv 1 0 ?_;refine Nv 2 ?_;refine Wp ?_ ?_<;>intro hc1
 ·refine Nz 1 ?_;exact Wd (Qc (Cr (Qr (out1 rfl rfl (Ab (by rw[AE,hxx,DH,if_pos hL,hc1];rfl))))))
 refine Ck (Qc (Cs (Dr mixed 1 ?_)));refine Dk 2 (Ba 2) ?_;refine De 0 ?_;refine De 0 ?_;refine De 0 ?_;refine De 0 ?_;refine De 0 ?_;refine De 0 ?_;refine De 0 ?_;refine Df 0 rfl rfl (fun hg=>Uc 8 2) ?_;refine De 0 ?_;refine Dk 1 Po ?_;refine De 0 ?_;refine De 0 ?_;refine De 0 ?_;refine De 0 ?_;refine De 0 ?_;refine De 0 ?_;refine De 0 ?_;refine De 0 ?_;refine De 0 ?_;refine Df 0 rfl rfl (fun hg=>Uc 8 2) ?_;refine Df 0 rfl rfl (fun hg=>Cb rfl (ec_ (eg_ hg rfl) (ec_ (eg_ hg rfl) (ec_ (eg_ hg rfl) en_))) YE (fun u hu=>VW G u (hG.st hu) hP.toGoodG p (hp.toSt hu) hP.ln (nth G.rm.acs.l m.n).lk (by(try simp only[bq]at hg);omega) (hP.alk (by(try simp only[bq]at hg);omega) (by(try simp only[bq]at hg);omega)))) ?_;refine Dk 1 Po ?_;exact Dd (Qc (Cr (out1 rfl rfl (Ab (by rw[AE,hxx,DH,if_pos hL,hc1,mayB,Game.p_alk,←Bool.or_assoc];simp[Pos.x])))))
theorem Su (G:Game) (w:World) (hG:GameOk w G) (hn:NearG G) (p:Pos) (hp:PosOk w p) (hP:GoodP G p):
  Calls prog 53 #[.agg (gcl G).toArray,.agg #[p.st.ths.v,p.st.prs.v,p.st.pls.v,p.rd.v]] w (RetM w (Ai G.p p.x) fun v=>v):=by
 have hR:=hP.ready;have hI:=hP.inn;have hll:=GQ hR p.st.x;refine En func53 ?_;refine Nz 0 ?_;refine Wr 0 fun b2 hb2=>?_;refine Wr 1 fun b3 hb3=>?_;refine Nx 1 ?_;refine Nx 1 ?_;refine Wk 1 (Bc 1) ?_;refine Wk 0 (Bc 0) ?_;refine Wc rfl rfl Jaa (fun u hu=>I4 G.rm u (hG.rm.st hu) p.st (hp.st.st hu) hR hI) (fun _=>rfl) ?_;rintro ml ⟨uml,hml⟩;refine Wz 1 ?_;refine Nv 1 ?_;refine Nu ?_;refine CS.weak (fun _ hu=>hu.osl0 (e:=49) (size:=3)) ?_;refine CS.loopM (σ:=Int×Value) (rsL [13,32]) (fun s=>[(7,.int .i64 s.1),(5,s.2)]) (fun s=>[oT cMove 49 s.2 (((AF G.rm p.st.x).take s.1.toNat).filter (AE G.p p.x)),roT cMove ⟨ml,AF G.rm p.st.x⟩,blk b3 [p.st.ths.v,p.st.prs.v,p.st.pls.v,p.rd.v] 98,blk b2 (gcl G) 36]) (fun s=>0≤s.1∧s.1≤(AF G.rm p.st.x).length) (fun s=>((AF G.rm p.st.x).length-s.1).toNat) (0,.slice none 0 0) (fun _ _=>rfl) rfl rfl ⟨by simp,by simp⟩ ?_;intro a t hs;obtain⟨ha1,ha2⟩:=hs;refine Cs (Nz 2 ?_);refine Wk 1 (Nc (s:=⟨ml,AF G.rm p.st.x⟩)) ?_;refine Wp ?_ ?_<;>intro hc1
 ·have hLm:=Pj ha1 (show a.1<(AF G.rm p.st.x).length by omega);have hfl:=MT (p:=AE G.p p.x) (l:=AF G.rm p.st.x) (n:=a.1.toNat);refine Ck (Qc (Cs (Ce (Cs (Dr mixed 0 ?_)))));refine Dk 0 (Bb 3) ?_;refine Dk 2 (Bb 2) ?_;refine Dk 0 (Xc (s:=⟨ml,AF G.rm p.st.x⟩)) ?_;refine Dk 0 (CZ (jj:=1) (s:=⟨ml,AF G.rm p.st.x⟩) rfl rfl rfl ⟨(by omega),(by omega)⟩ rfl tk49) ?_;refine Dk 0 (Cb rfl rfl Jag (fun u hu=>KQ G u (hG.st hu) hn p (hp.toSt hu) hP _ hLm)) ?_;refine Dd (Qc (Cn ?_ ?_))<;>intro hc2
  ·refine Ny 3 ?_;refine Wk 0 (Xc (s:=⟨ml,AF G.rm p.st.x⟩)) ?_;refine Wk 0 (CZ (jj:=1) (s:=⟨ml,AF G.rm p.st.x⟩) rfl rfl rfl ⟨(by omega),(by omega)⟩ rfl tk49) ?_;refine WS.buildT1 cMove (a:=nth (AF G.rm p.st.x) a.1) sl42 zv49 rfl (by decide) (fun _=>rfl) ?_;intro v31;refine WS.appendT1 (j:=1) (jz:=0) sl42 zv49 rfl (by decide) rfl rfl rfl rfl (w:=w) trivial (by omega) (by omega) (fun _=>rfl) (fun _=>rfl) ?_;intro v32 hv32;refine Wz 1 ?_;refine Wd (Qb (Qc (Ny 1 ?_)));refine Wk 1 Za ?_;refine Wd ?_;refine QS.sel [1,1,1,1] rfl ?_;exact QS.head ((a.1+1,v32)) rfl (by first|simp only[Ja ha1 (show a.1<(AF G.rm p.st.x).length by omega) hc2]|simp only[←K7 ha1 (show a.1<(AF G.rm p.st.x).length by omega) hc2]) ⟨⟨by simp;omega,by simp;omega⟩,by simp;omega⟩
  refine Ck (Qb (Qc (Ny 1 ?_)));refine Wk 1 Za ?_;exact Wd (QS.head ((a.1+1,a.2)) rfl (by first|simp only[Ja ha1 (show a.1<(AF G.rm p.st.x).length by omega) hc2]|simp only[←K7 ha1 (show a.1<(AF G.rm p.st.x).length by omega) hc2]) ⟨⟨by simp;omega,by simp;omega⟩,by simp;omega⟩)
 have hta:(AF G.rm p.st.x).take a.1.toNat=AF G.rm p.st.x:=List.take_of_length_le (by omega);refine Cv (Qe (Qe (Qx (Qc (Nz 2 ?_)))));refine Wd (Qc (Cr ?_))
 exact out1 rfl rfl (by
   rw[Fs,show(AF G.rm p.x.1).filter (AE G.p p.x)=((AF G.rm p.st.x).take a.1.toNat).filter (AE G.p p.x) by rw[hta];rfl]
   exact fun u hu=>retM (f:=fun v=>v) (j:=0) rfl hu)
theorem Di {G:Game} {p:Pos} {m:Move} (h:AE G.p p.x m=true):legalB G.rm p.st.x m=true:=by
 unfold AE at h;rw[DH]at h
 by_cases hL:legalB G.rm p.x.1 m=true
 ·exact hL
 rw[if_neg hL]at h;simp at h
theorem Ox {G:Game} {p:Pos} {m:Move} (h:AE G.p p.x m=true):(settleV G.rm (moveX G.rm p.st.x m)).isSome=true:=by
 have hL:legalB G.rm p.x.1 m=true:=Di h;unfold AE at h;rw[DH,if_pos hL,Bool.and_eq_true]at h;exact h.1
theorem Re {G:Game} {p:Pos} {m:Move} (hP:GoodP G p) (h:AE G.p p.x m=true):StIn G.rm ((settleV G.rm (moveX G.rm p.st.x m)).getD no3):=by
 have h1:=Ox h;cases hs:settleV G.rm (moveX G.rm p.st.x m)with
 |none=>rw[hs]at h1;cases h1
 |some y=>exact D5 hP.ready (JK hP.ready hP.inn (Di h)) hs
theorem Pd {G:Game} {p:Pos} {m:Move} (h:AE G.p p.x m=true):AM G.p p.x m=((settleV G.rm (moveX G.rm p.st.x m)).getD no3,BT G.p ((settleV G.rm (moveX G.rm p.st.x m)).getD no3) p.rd.l):=by
 have hL:legalB G.rm p.x.1 m=true:=Di h;unfold AM;rw[DH,if_pos hL]
 rfl
theorem OZ {G:Game} {p:Pos} {m:Move} (hP:GoodP G p) (h:AE G.p p.x m=true):m∈Ai G.p p.x:=by
 rw[Fs,List.mem_filter];refine⟨?_,h⟩;have h1:=OY hP.ready hP.inn m;rw[Di h,List.any_eq_true]at h1;obtain⟨y,hy,he⟩:=h1;rw[←of_decide_eq_true he];exact hy
theorem Ho {G:Game} {p:Pos} (hP:GoodP G p):(Ai G.p p.x).length≤384:=by
 have:=GQ hP.ready p.st.x;have h2:=List.length_filter_le (AE G.p p.x) (AF G.rm p.st.x);rw[Fs];exact Nat.le_trans h2 this
theorem QY (G:Game) (w:World) (hG:GameOk w G) (p:Pos) (hp:PosOk w p) (hP:GoodP G p) (m:Move) (hq:AE G.p p.x m=true):
  Calls prog 54 #[.agg (gcl G).toArray,.agg #[p.st.ths.v,p.st.prs.v,p.st.pls.v,p.rd.v],.agg #[.int .i64 m.p,.int .i64 m.k,.int .i64 m.n]] w (RetP w (AM G.p p.x m) fun v=>v):=by
 have hR:=hP.ready;have hI:=hP.inn;have hL:=Di hq;have hIy:=Re hP hq;refine En func54 ?_;refine Nz 0 ?_;refine Wr 0 fun b3 hb3=>?_;refine Wr 0 fun b4 hb4=>?_;refine Wr 0 fun b5 hb5=>?_;refine Wq 0 zv98 fun b6 hb6=>?_;refine Nx 1 ?_;refine Wk 1 (Bc 3) ?_;refine Wk 0 (Bc 2) ?_;refine Wk 0 (Bb 1) ?_;refine Wc rfl rfl ZM (fun u hu=>Kh G.rm u (hG.rm.st hu) p.st (hp.st.st hu) hR hI m hL) (fun _=>rfl) ?_;rintro y ⟨hyx,uy,hyok⟩;obtain⟨hya,hyb,hyc⟩:=hyok.ones;refine Wz 3 ?_;refine Wq 0 zv95 fun b7 hb7=>?_;refine Wv 1 0 ?_;refine Nx 0 ?_;refine Wk 0 (Bb 5) ?_;refine Wk 1 (Bb 0) ?_;refine Wk 0 (Ba 4) ?_;refine Wk 0 (Aw C6 zv98 (pcs:=[(0,[y.ths.v,y.prs.v,y.pls.v]),(1,[p.rd.v])]) rfl (CellsOf.agg (CellsOf.one (Sl.one hp.rd) CellsOf.nil)) rfl) ?_;refine Wc rfl rfl YO (fun u hu=>PV G u (hG.st hu) hP.toGoodG ⟨y,p.rd⟩ ⟨hu.ro (j:=1) rfl,hp.rd.st hu⟩ (by rw[show y.x=((settleV G.rm (moveX G.rm p.st.x m)).getD no3)from hyx];exact hIy) hP.ln) (fun _=>rfl) ?_;rintro z ⟨hzx,uz,hzok⟩;obtain⟨hza,hzb,hzc⟩:=hzok.st.ones;have hzd:=Sl.one hzok.rd;refine Wv 0 3 ?_;exact Wd (Qc (Cr (outR (resc rfl (Au (j:=3) rfl rfl tk98)) (fun u hu=>RI (f:=fun v=>v) (j:=0) rfl (by rw[hzx,Pd hq,←hyx]) hu))))
theorem GoodP.small {G:Game} {p:Pos} (h:GoodP G p):(p.st.ths.l.length≤1000000∧p.st.prs.l.length≤1000000∧p.st.pls.l.length≤1000000)∧p.rd.l.length≤1000000:=by
 have h1:=h.ln;have h2:=h.nn;exact⟨h.inn.small h.ready,by omega⟩
theorem T5 {G:GP} {x:PX} {m:Move} (h:(Ap G x m).1=0):posG G x=0:=by
 unfold Ap at h;split at h
 ·assumption
 exact h
theorem Sx {n:Nat}:(Ca n).length=n:=by simp[Ca]
theorem N7 {r:Room} (hC:checkE r=0) {x:P3} (h:(SettleV r x).1=0):StIn r (SettleV r x).2:=by
 unfold SettleV at h⊢;split
 ·rename_i hs;rw[if_pos hs]at h;have hI:=(CR.1 hs).2;cases hy:settleV r x with
  |none=>rw[hy]at h;cases h
  |some y=>exact D5 (Cq hC) hI hy
 rename_i hs;rw[if_neg hs]at h;exact absurd h hs
theorem GO {r:Room} (hC:checkE r=0) (h:(BeginV r).1=0):StIn r (BeginV r).2:=by
 unfold BeginV at h⊢;rw[if_pos hC]at h⊢;exact N7 hC h
section
variable {P:Program} {ro:Option Nat} {n0:Nat} {w0:World} {ds:List Deferred} {ops:Array Oper} {Q:Exit→Act→World→Prop} {L:List SA}
 {rest:List Oper} {l:List Value} {ty:TypeId} {ps:String} {af:Array Edge}
theorem WS.makeB {T e:TypeId} {by_:Nat} {x y:Operand} {i:Nat} {n:Int} (hT:sl P T=some (e,1,by_)) (hx:evo l x=some (.int .i64 n)) (hy:evo l y=some (.int .i64 n)) (hz:zv P e=some [.bool false])
  (h0:0≤n) (hb:(by_:Int)*n≤281474976710656) (hm:n≤9223372036854775807)
  {l':Value→List Value} (hl:∀v,lset l i v=some (l' v)) (k:∀v,WS P ro n0 w0 ds ops Q (oT cBool e v (List.replicate n.toNat false)::L) rest (l' v)):
  WS P ro n0 w0 ds ops Q L (⟨some i,.makeSlice T x y,ty,ps,af,none⟩::rest) l:=by
 refine WS.makeSlice (z:=e) hT hx hy hz rfl h0 rfl hb hm hl fun v=>?_;have:=k v;unfold oT Ay at this;rw[List.map_replicate,List.length_replicate]at this;exact this
end
theorem SO (G:Game) (w:World) (hG:GameOk w G) (hn:NearG G):
  Calls prog 51 #[.agg (gcl G).toArray] w (RetP w (Ac G.p).2 fun v=>.tuple #[v,.int .i64 (Ac G.p).1]):=by
 have knt:=hG.nts;have lnt:=hG.nts.le;have hbv:BeginV G.p.rm=BeginV G.rm:=(G.p_alike.BeginV).symm;refine En func51 ?_;refine Nz 0 ?_;refine Wr 0 fun b1 hb1=>?_;refine Wq 1 zv98 fun b2 hb2=>?_;refine Nx 0 ?_;refine Wk 0 (Bb 1) ?_;refine Wk 1 (Cb rfl rfl Ya (fun u hu=>JS G u (hG.st hu) hn)) ?_;refine Nv 2 ?_;refine Wp ?_ ?_<;>intro hc1
 ·refine Nz 0 ?_;refine Wk 1 (Db C6 zv98) ?_;refine Wv 1 0 ?_;refine Wd (Qc (Cr (Qr ?_)))
  exact outR (Bx rfl (Au (j:=0) rfl rfl tk98) rfl) (by
    have hv:Ac G.p=(Bj G.p,noP):=if_neg hc1;rw[hv]
    exact fun u hu=>Oj (f:=fun v=>.tuple #[v,.int .i64 (Bj G.p)]) hu)
 have hV:=GE hc1;have hnn:=hV.nn;refine Ck (Qc (Nz 1 ?_));refine Wk 0 (Bc 1) ?_;refine Wc rfl rfl Jbi (fun u hu=>RR G.rm u (hG.rm.st hu) hn.rm) (fun _=>rfl) ?_;rintro y ⟨hyx,uy,hyok⟩;obtain⟨hya,hyb,hyc⟩:=hyok.ones;refine Wz 3 ?_;refine Wq 0 zv95 fun b5 hb5=>?_;refine Wv 1 0 ?_;refine Nv 2 ?_;refine Wp ?_ ?_<;>intro hc2
 ·refine Nz 0 ?_;refine Wk 1 (Db C6 zv98) ?_;refine Wv 1 2 ?_;refine Wd (Qc (Cr (Qr ?_)))
  exact outR (Bx rfl (Au (j:=2) rfl rfl tk98) rfl) (by
    have hv:Ac G.p=((BeginV G.rm).1,noP):=(if_pos hc1).trans (by rw[hbv];exact if_neg hc2);rw[hv]
    exact fun u hu=>Oj (f:=fun v=>.tuple #[v,.int .i64 (BeginV G.rm).1]) hu)
 have hb0:(BeginV G.rm).1=0:=hc2;have hIy:=GO hV.ck hb0;refine Ck (Qc (Cs ?_));refine CS.drawnTill 8 (k:=10) mixed rfl rfl ?_;refine Tk 10 0 [] rfl (Bb 3) ?_;refine Tk 10 1 [2] rfl (Bb 0) ?_;refine Tk 10 3 [] rfl (Ba 3) ?_;refine Tk 10 4 [] rfl Nc ?_;refine To 5 rfl ?_;refine WS.makeB sl96 rfl rfl zv4 (by omega) (by omega) (by omega) (fun _=>rfl) ?_;intro v27;refine WS.oc (j:=0) rfl (fun hv27=>?_);refine Wd (Qt ?_);refine To 6 rfl ?_;refine Wk 0 (Aw C6 zv98 (pcs:=[(0,[y.ths.v,y.prs.v,y.pls.v]),(1,[v27])]) rfl (CellsOf.agg (CellsOf.one hv27 CellsOf.nil)) rfl) ?_;refine Wd (Qt ?_);refine To 7 rfl ?_;refine Wc rfl rfl YO (fun u hu=>PV G u (hG.st hu) hV ⟨y,⟨v27,List.replicate (G.nts.l.length:Int).toNat false⟩⟩ ⟨hu.ro (j:=2) rfl,CF hu (j:=0) rfl fun _ _↦trivial⟩ (by rw[show y.x=(BeginV G.rm).2 from hyx];exact hIy) (by simp)) (fun _=>rfl) ?_;rintro z ⟨hzx,uz,hzok⟩;obtain⟨hza,hzb,hzc⟩:=hzok.st.ones;have hzd:=Sl.one hzok.rd;refine Wd (Qt ?_);refine To 8 rfl ?_;refine Wv 0 4 ?_;refine Wd (Qt ?_);refine To 9 rfl ?_;refine Wz 1 ?_;refine Wd (Qt ?_);refine Te ?_;refine Qc (Cr ?_)
 exact outR (Bx rfl (Au (j:=4) rfl rfl tk98) rfl) (by
   have hv:Ac G.p=(0,(BeginV G.rm).2,BT G.p (BeginV G.rm).2 (List.replicate G.nts.l.length false)):=(if_pos hc1).trans (by rw[hbv,Game.p_nlen];exact if_pos hb0);rw[hv]
   exact fun u hu=>RI (f:=fun v=>.tuple #[v,.int .i64 0]) (j:=0) rfl (by rw[hzx,←hyx];simp) hu)
theorem Wu (G:Game) (w:World) (hG:GameOk w G) (hnn:G.nts.l.length≤1000) (lk:Int) (f:FuncId) (cap:List Value) (q:Int→Bool) (hf:Ent prog f)
  (hq:∀u,Below w.heap.size w u→∀i:Int,0≤i→i<G.nts.l.length→Calls prog f ([.int .i64 i]++cap:List Value).toArray u (RetB u (.bool (q i)))):
  Calls prog 228 #[.agg (gcl G).toArray,.int .i64 lk,.func (.func f) #[] cap.toArray] w (fun e w'=>∃x:Value×Value,(x.1.oneCell'=true∧x.2.oneCell'=true)∧RetF w (.tuple #[x.1,x.2]) (star [oints 3 x.1 (Ey G.p lk q),osl 76 7 x.2 (clsG G (Ey G.p lk q)).length (BB (clsG G (Ey G.p lk q)) (gvsG G (Ey G.p lk q)))]) e w'):=by
 have knt:=hG.nts;have lnt:=hG.nts.le;refine En func228 ?_;refine Nz 0 ?_;refine Wr 2 fun b3 hb3=>?_;refine Nv 1 ?_;refine Wk 0 (Ba 0) ?_;refine Wk 1 Nc ?_;refine Nu ?_;refine CS.weak (fun _ hu=>hu.osl0 (e:=76) (size:=7)) ?_;refine CS.weak (fun _ hu=>hu.osl0 (e:=3) (size:=1)) ?_;refine CS.loopM (σ:=Int×Value×Value) (rsL [8,9,14,36]) (fun s=>[(6,s.2.1),(7,s.2.2),(13,.int .i64 s.1)]) (fun s=>[oints 3 s.2.1 (filI s.1 (fun i=>decide ((nth G.nts.l i).lk=lk)&&q i)),osl 76 7 s.2.2 (clsG G (filI s.1 (fun i=>decide ((nth G.nts.l i).lk=lk)&&q i))).length (BB (clsG G (filI s.1 (fun i=>decide ((nth G.nts.l i).lk=lk)&&q i))) (gvsG G (filI s.1 (fun i=>decide ((nth G.nts.l i).lk=lk)&&q i)))),blk b3 (gcl G) 36]) (fun s=>0≤s.1∧s.1≤G.nts.l.length) (fun s=>(G.nts.l.length-s.1).toNat) (0,.slice none 0 0,.slice none 0 0) (fun _ _=>rfl) rfl rfl ⟨by simp,by simp⟩ ?_;intro s t hs;obtain⟨hs1,hs2⟩:=hs;have hfl:=Eu (n:=s.1) (p:=(fun i=>decide ((nth G.nts.l i).lk=lk)&&q i)) hs1;have hcl:(clsG G (filI s.1 (fun i=>decide ((nth G.nts.l i).lk=lk)&&q i))).length=(filI s.1 (fun i=>decide ((nth G.nts.l i).lk=lk)&&q i)).length:=by simp[clsG]
 refine Nz 1 ?_;refine Wd (Qc (Cs (Cn ?_ ?_)))<;>intro hc1
 ·have hs3:s.1<G.nts.l.length:=by omega
  have hnt:cNote.ok w (nth G.nts.l s.1):=knt.at hs1 hs3;have hg1:=hnt.2.one1;have hwh1:=Sl.one hnt.1;refine Ck (Qc (Cs (Ce (Nz 1 ?_))));refine Wk 0 Xc ?_;refine Wk 0 Ua ?_;refine Wq 1 zv80 fun b9 hb9=>?_;refine Wv 0 0 ?_;refine Nx 1 ?_;refine Wk 3 (Ba 0) ?_;refine Wj 0 ?_;refine Wj 0 ?_;refine Wt 0 rfl rfl (fun hg=>Cb (eg_ hg rfl) (ec_ (eg_ hg rfl) en_) hf (fun u hu=>hq u hu.below s.1 hs1 hs3)) ?_;refine Wk 0 Pa ?_;refine Wp ?_ ?_<;>intro hc2
  ·have hpy:(fun i=>decide ((nth G.nts.l i).lk=lk)&&q i) s.1=true:=by(simp only[Bool.and_eq_true,decide_eq_true_eq];exact hc2)
   refine Nz 2 ?_;refine WS.buildI1 sl37 zv3 rfl (fun _=>rfl) ?_;intro v29;refine WS.appendI (j:=2) sl37 zv3 rfl rfl rfl (fun u hu=>Ah hu (j:=0) rfl) (by(simp;omega)) (by(simp;omega)) (fun _=>rfl) (fun _=>rfl) ?_;intro v30;refine WS.oc (j:=2) rfl (fun hv30=>?_);refine Wz 1 ?_;refine Nw 2 ?_;refine Wk 0 (Bc 1) ?_;refine WS.buildC1 sl77 zv76 (c:=(nth G.nts.l s.1).cl) (gv:=(nth G.nts.l s.1).gv) rfl (fun _=>rfl) ?_;intro v34;refine WS.appendCl (j:=4) (jz:=0) sl77 zv76 rfl rfl rfl (by simp[clsG,gvsG]) rfl rfl hg1 (by omega) (by omega) (fun _=>rfl) (fun _=>rfl) ?_;intro v35 hv35;refine Wz 1 ?_;refine Wd (Qb (Qc (Ny 0 ?_)));refine Wk 1 Za ?_;refine Wd ?_;refine QS.sel [3,3,3] rfl ?_;exact QS.head ((s.1+1,v30,v35)) rfl (by simp only[←ET (p:=(fun i=>decide ((nth G.nts.l i).lk=lk)&&q i)) hs1 hpy,clsG,gvsG,List.map_append,List.map_cons,List.map_nil]) ⟨⟨by simp;omega,by simp;omega⟩,by simp;omega⟩
  have hpn:(fun i=>decide ((nth G.nts.l i).lk=lk)&&q i) s.1=false:=by(simp only[Bool.and_eq_false_iff,decide_eq_false_iff_not];exact hc2)
  refine Ck (Qb (Qc (Ny 0 ?_)));refine Wk 1 Za ?_;refine Wd ?_;refine QS.sel [1,1,1] rfl ?_;exact QS.head ((s.1+1,s.2)) rfl (by simp only[←GG (p:=(fun i=>decide ((nth G.nts.l i).lk=lk)&&q i)) hs1 hpn]) ⟨⟨by simp;omega,by simp;omega⟩,by simp;omega⟩
 have hse:s.1=G.nts.l.length:=by omega
 refine Cv (Qe (Qe (Qx (Qc (Nz 4 ?_)))));refine Wd (Qc (Cr ?_));rw[hse,←Jo G lk q];refine QS.oc (j:=0) rfl (fun hv6=>?_);refine QS.oc (j:=1) rfl (fun hv7=>?_);exact out2 rfl rfl rfl (fun u hu=>⟨s.2,⟨hv6,hv7⟩,G4 (hu.sel [0,0] rfl) (List.Perm.refl _)⟩)
structure TeamOk (w:World) (bt mb:Nat) (G:Game) (p:Pos):Prop where
 blk:BlkAt w bt [G.rm.pls.v,G.rm.ths.v,G.rm.prs.v,G.rm.wys.v,G.rm.acs.v,G.rm.aus.v,.int .i64 G.rm.ply,G.rm.gl.v,G.lks.v,G.cds.v,G.nts.v,.int .i64 G.tr,p.st.ths.v,p.st.prs.v,p.st.pls.v,p.rd.v,.map (some mb)] 190
 gm:GameOk w G
 ps:PosOk w p
theorem TeamOk.ext {w u:World} {bt mb:Nat} {G:Game} {p:Pos} (h:TeamOk w bt mb G p) (hb:Below w.heap.size w u):TeamOk u bt mb G p:=⟨h.blk.ext hb,h.gm.ext hb,h.ps.ext hb⟩
theorem TeamOk.toSt {w u:World} {L:List SA} {bt mb:Nat} {G:Game} {p:Pos} (h:TeamOk w bt mb G p) (hu:St w.heap.size w L u):TeamOk u bt mb G p:=h.ext hu.below
theorem FF {P:Program} {w0:World} {L:List SA} {l:List Value} {d:Option Tmp} {ty:TypeId} {ps:String} {af:Array Edge} {g:Option (Nat×Bool)} {T:TypeId} {x:Operand} {b i n:Nat} {c cs:List Value} {e:TypeId} (hx:evo l x=some (.pointer (some ⟨b,i,none⟩))) (hb:BlkAt w0 b c e) (hv:(c.drop i).take n=cs) (hn:cs.length=n) (hT:tk P T=some (true,n)):
  Det P (St w0.heap.size w0 L) ⟨d,.load T x,ty,ps,af,g⟩ l (.agg cs.toArray):=by
 subst hn;refine Fd hT hx fun u hu m v hm=>?_;rw[CJ (hb.st hu)];rw[←hv,List.getElem?_take]at hm;split at hm
 ·rw[List.getElem?_drop]at hm;exact hm
 simp at hm
theorem Lo (bt mb:Nat) (G:Game) (p:Pos) (w:World) (hT:TeamOk w bt mb G p) (b1:Nat) (e1:TypeId) (h1:BlkAt w b1 [.pointer (some ⟨bt,0,none⟩)] e1) (i:Int) (h0:0≤i) (hi:i<p.rd.l.length):
  Calls prog 229 #[.int .i64 i,.pointer (some ⟨b1,0,none⟩)] w (RetB w (.bool (nth p.rd.l i))):=by
 have hTb:=hT.blk;have hG:=hT.gm;have hp:=hT.ps;have klk:=hG.lks;have krd:=hp.rd;have llk:=klk.le;refine En func229 ?_;refine Nz 1 ?_;refine Nx 0 ?_;refine Wk 3 Ga ?_;refine Wk 1 Ga ?_;refine Wk 0 Xc ?_;refine Wk 1 Ub ?_;exact Wd (Qc (Cr (out1 rfl rfl retB)))
theorem NF (bt mb:Nat) (G:Game) (p:Pos) (w:World) (hT:TeamOk w bt mb G p) (hV:GoodG G) (hl:p.rd.l.length=G.nts.l.length) (lk:Int) (h0:0≤lk) (h1:lk<G.lks.l.length):
  Calls prog 191 #[.pointer (some ⟨bt,0,none⟩),.int .i64 lk] w (RetB w (.tuple #[.int .i64 (PT G.p lk (cluN G.p p.rd.l lk)),.int .i64 0])):=by
 have hTb:=hT.blk;have hG:=hT.gm;have hp:=hT.ps;have klk:=hG.lks;have krd:=hp.rd;have llk:=klk.le;have hnn:=hV.nn;have hE:=JW hV h0 h1 (MD (p:=fun i=>nth p.rd.l i)) (Nat.le_trans (Rp hV _ _) (by decide));refine En func191 ?_;refine Nz 0 ?_;refine Wr 2 fun b2 hb2=>?_;refine Nx 0 ?_;refine Wk 2 (Ba 0) ?_;refine Wk 1 (FF (n:=12) (cs:=(gcl G)) rfl hTb rfl rfl tk36) ?_;refine Wk 0 (Al rfl) ?_;refine Wc rfl rfl Yi (fun u hu=>Wu G u (hG.st hu) (by omega) lk _ [.pointer (some ⟨b2,0,none⟩)] (fun i↦nth p.rd.l i) Xe (fun u2 h2 i a0 a1↦Lo bt mb G p u2 ((hT.toSt hu).ext h2) _ _ ((AD hu (j:=0) rfl).ext h2) i a0 (by omega))) (fun _=>rfl) ?_;rintro⟨v16,v17⟩ ⟨hv16,hv17⟩;refine WS.unpack ?_;refine Wz 5 ?_;refine Nx 0 ?_;refine Wk 3 (Ba 2) ?_;refine Wk 1 Ga ?_;refine Wk 0 Xc ?_;refine Wk 1 Ua ?_;refine Wk 4 (Cb rfl rfl Xn (fun u hu=>P4 _ _ _ _ _ u (Uk (hG.st hu) MD (AX hu (j:=1) rfl)))) ?_;exact Wd (Qc (Cr (out2 rfl rfl rfl (Ab (by rw[hE,if_pos rfl,←Q2,Ot])))))
theorem JZ (G:Game) (w:World) (hG:GameOk w G) (g:Sl ByteArray) (hW:GOk w g) (hn:NearG G) (p:Pos) (hp:PosOk w p) (hq:posG G.p p.x=0):
  Calls prog 104 #[.agg (gcl G).toArray,.agg #[p.st.ths.v,p.st.prs.v,p.st.pls.v,p.rd.v]] w (fun e w'=>∃x:Nat×Nat×Value,x.2.2.oneCell'=true∧RetF w (.tuple #[.pointer (some ⟨x.1,0,none⟩),.int .i64 0]) (star [blk x.1 [G.rm.pls.v,G.rm.ths.v,G.rm.prs.v,G.rm.wys.v,G.rm.acs.v,G.rm.aus.v,.int .i64 G.rm.ply,G.rm.gl.v,G.lks.v,G.cds.v,G.nts.v,.int .i64 G.tr,p.st.ths.v,p.st.prs.v,p.st.pls.v,x.2.2,.map (some x.2.1)] 190,oT cBool 4 x.2.2 p.rd.l,mapI x.2.1 (fun _=>0)]) e w'):=by
 have o1:=Sl.one hG.rm.pls;have o2:=Sl.one hG.rm.ths;have o3:=Sl.one hG.rm.prs;have o4:=Sl.one hG.rm.wys;have o5:=Sl.one hG.rm.acs;have o6:=Sl.one hG.rm.aus;have o7:=Sl.one hG.rm.gl;have o8:=Sl.one hG.lks;have o9:=Sl.one hG.cds;have o10:=Sl.one hG.nts;have o11:=Sl.one hp.st.ths;have o12:=Sl.one hp.st.prs;have o13:=Sl.one hp.st.pls;have o14:=Sl.one hp.rd;have hP:=BJ hq;have hsm:=hP.small;refine En func104 ?_;refine Nz 0 ?_;refine Wr 0 fun b2 hb2=>?_;refine Wr 2 fun b3 hb3=>?_;refine Nv 0 ?_;refine Wk 0 (Bb 1) ?_;refine Wk 0 (Bb 0) ?_;refine Wk 1 (Cb rfl rfl Un (fun u hu=>Mc G u (hG.st hu) g (hW.st hu) hn p (hp.toSt hu))) ?_;refine Nx 2 ?_;refine Wp ?_ ?_<;>intro hc1
 ·exact absurd hq hc1
 refine Ck (Qc (Cs ?_));refine CS.drawnAll (k:=12) mixed rfl rfl ?_;refine Ak 0 [1] rfl (Bb 1) ?_;refine Ak 2 [3] rfl (Bc 0) ?_;refine Ak 4 [] rfl (Ba 0) ?_;refine AS.two (i:=5) (j:=7) (by kernel_rfl) rfl rfl (by exact fun _ h=>h) rfl rfl ?_ ?_
 ·refine Wc rfl rfl F3 (fun u hu=>CY p.rd u (hp.rd.st hu) hsm.2) (fun _=>rfl) ?_;intro v18 hv18;refine Wd (Qa ?_);refine Ak 6 [] rfl (Aw C6 zv98 (pcs:=[(0,[p.st.ths.v,p.st.prs.v,p.st.pls.v]),(1,[v18])]) rfl (CellsOf.agg (CellsOf.one hv18 CellsOf.nil)) rfl) ?_;refine Ao 7 rfl ?_;refine WS.makeMap (fun _=>rfl) fun b20 hb20=>?_;refine Wd (Qa ?_);refine Ak 8 [] rfl (Aw H7 NB (pcs:=[(0,(gcl G)),(1,[p.st.ths.v,p.st.prs.v,p.st.pls.v,v18]),(2,[.map (some b20)])]) rfl (CellsOf.agg (CellsOf.agg (CellsOf.one rfl CellsOf.nil))) rfl) ?_;refine Ao 9 rfl ?_;refine Wr 0 fun b22 hb22=>?_;refine Wd (Qa ?_);refine Ar [10,11] ?_;refine Ae ?_;exact Qc (Cr (out2 rfl rfl rfl (fun u hu=>⟨(b22,b20,v18),hv18,G4 (hu.sel [0,1,0] rfl) (List.Perm.refl _)⟩)))
 refine WS.makeMap (fun _=>rfl) fun b20 hb20=>?_;refine Wd (Qa ?_);refine Ao 5 rfl ?_;refine Wc rfl rfl F3 (fun u hu=>CY p.rd u (hp.rd.st hu) hsm.2) (fun _=>rfl) ?_;intro v18 hv18;refine Wd (Qa ?_);refine Ak 6 [] rfl (Aw C6 zv98 (pcs:=[(0,[p.st.ths.v,p.st.prs.v,p.st.pls.v]),(1,[v18])]) rfl (CellsOf.agg (CellsOf.one hv18 CellsOf.nil)) rfl) ?_;refine Ak 8 [] rfl (Aw H7 NB (pcs:=[(0,(gcl G)),(1,[p.st.ths.v,p.st.prs.v,p.st.pls.v,v18]),(2,[.map (some b20)])]) rfl (CellsOf.agg (CellsOf.agg (CellsOf.one rfl CellsOf.nil))) rfl) ?_;refine Ao 9 rfl ?_;refine Wr 0 fun b22 hb22=>?_;refine Wd (Qa ?_);refine Ar [10,11] ?_;refine Ae ?_;exact Qc (Cr (out2 rfl rfl rfl (fun u hu=>⟨(b22,b20,v18),hv18,G4 (hu.sel [0,0,0] rfl) (List.Perm.refl _)⟩)))
theorem mapT:prog.underlying 111=some (.map 3 3):=underlying111
theorem mapK:prog.underlying 3=some (.int .i64):=underlying3
theorem mapZ:zo prog 3=some (.int .i64 0):=by kernel_rfl
theorem OI {f:Int→Int} {k v:Int}:updI f k v k=v:=if_pos rfl
def KeptO (G:GP) (rd:List Bool) (f:Int→Int):Prop:=∀k,f k=0∨f k=if Dm G rd k=true then 1 else 2
theorem KeptO.zero {G:GP} {rd:List Bool}:KeptO G rd (fun _=>0):=fun _=>.inl rfl
theorem KeptO.upd {G:GP} {rd:List Bool} {f:Int→Int} (h:KeptO G rd f) {k v:Int} (hv:v=if Dm G rd k=true then 1 else 2):KeptO G rd (updI f k v):=fun j=>by
 unfold updI;split
 ·rename_i e;rw[e];exact .inr hv
 exact h j
structure HasZ (w:World) (Z:SA) (z:Stt):Prop where
 get:∀{L:List SA} {u:World} {j:Nat},L[j]? = some Z→St w.heap.size w L u→SttOk u z
theorem HasZ.ro {w:World} {z:Stt}:HasZ w (roS fun u=>SttOk u z) z:=⟨fun hj hu=>hu.ro hj⟩
theorem HasZ.old {w:World} {z:Stt} (hz:SttOk w z) (Z:SA):HasZ w Z z:=⟨fun _ hu=>hz.st hu⟩
theorem Nt {f:Int→Int} {k a b:Int}:updI (updI f k a) k b=updI f k b:=by
 funext j;unfold updI;split<;>rfl
theorem Wg {w u:World} (R:SA) (G:Game) (hG:GameOk w G) (hV:GoodG G) (tb mb:Nat) (z:Stt) (Z:SA) (hZ:HasZ w Z z) (rv:Value) (rd:List Bool) (hl:rd.length=G.nts.l.length) (f:Int→Int) (hf:KeptO G.p rd f) (lk:Int) (h1:lk<G.lks.l.length) (hu:St w.heap.size w [blk tb [G.rm.pls.v,G.rm.ths.v,G.rm.prs.v,G.rm.wys.v,G.rm.acs.v,G.rm.aus.v,.int .i64 G.rm.ply,G.rm.gl.v,G.lks.v,G.cds.v,G.nts.v,.int .i64 G.tr,z.ths.v,z.prs.v,z.pls.v,rv,.map (some mb)] 190,oT cBool 4 rv rd,mapI mb f,Z,R] u):
  Calls prog 148 #[.pointer (some ⟨tb,0,none⟩),.int .i64 lk] u (fun e u'=>∃f':Int→Int,KeptO G.p rd f'∧e = .returned (.bool (decide (lk<0)||Dm G.p rd lk))∧St w.heap.size w [blk tb [G.rm.pls.v,G.rm.ths.v,G.rm.prs.v,G.rm.wys.v,G.rm.acs.v,G.rm.aus.v,.int .i64 G.rm.ply,G.rm.gl.v,G.lks.v,G.cds.v,G.nts.v,.int .i64 G.tr,z.ths.v,z.prs.v,z.pls.v,rv,.map (some mb)] 190,oT cBool 4 rv rd,mapI mb f',Z,R] u'):=by
 refine Ei hu func148 ?_;refine Nz 1 ?_;refine Nv 2 ?_;refine Wp ?_ ?_<;>intro hc1
 ·refine Nz 1 ?_;exact Wd (Qc (Cr (Qr (out1 rfl rfl (fun u hu=>⟨f,hf,by rw[decide_eq_true (by omega:lk<0)];rfl,hu⟩)))))
 have h0:0≤lk:=by omega
 refine Ck (Qc (Cs (Nz 3 ?_)));refine Wk 1 (Ba 0) ?_;refine Wk 1 (CM mapT mapK mapZ rfl (j:=2) rfl rfl) ?_;refine Wp ?_ ?_<;>intro hc2
 ·refine Nz 3 ?_;refine Wk 1 (Ba 0) ?_;refine WS.mapUpdate mapT mapK rfl (j:=2) rfl rfl rfl rfl ?_;refine Nx 2 ?_;refine Wk 5 (Cb rfl rfl Zz (fun u hu=>NF tb mb G ⟨z,⟨rv,rd⟩⟩ u ⟨AD hu (j:=0) rfl,hG.st hu,⟨hZ.get (j:=3) rfl hu,CF hu (j:=1) rfl fun _ _↦trivial⟩⟩ hV hl lk h0 h1)) ?_;refine Nx 3 ?_;refine Wj 0 ?_;refine Wj 0 ?_;refine Wj 0 ?_;refine Wj 0 ?_;refine Wj 0 ?_;refine Wj 0 ?_;refine Wj 0 ?_;refine Wk 0 Pa ?_;refine Wp ?_ ?_<;>intro hc3
  ·have hop:Dm G.p rd lk=true:=by(unfold Dm;exact decide_eq_true hc3.2)
   refine Ny 3 ?_;refine Wk 1 (Ba 0) ?_;refine WS.mapUpdate mapT mapK rfl (j:=2) rfl rfl rfl rfl ?_;refine Nx 3 ?_;refine Wk 1 (Ba 0) ?_;refine Wk 2 (CM mapT mapK mapZ rfl (j:=2) rfl rfl) ?_;exact Wd (Qc (Cr (out1 rfl rfl (fun u hu=>⟨updI (updI f lk 2) lk 1,by rw[Nt];exact hf.upd (by rw[hop];rfl),by rw[hop,OI,Bool.or_true];rfl,hu⟩))))
  have hop:Dm G.p rd lk=false:=by(unfold Dm;exact decide_eq_false (fun h=>hc3.elim (fun q=>q trivial) fun q=>q h))
  refine Ck (Qc (Nz 3 ?_));refine Wk 1 (Ba 0) ?_;refine Wk 2 (CM mapT mapK mapZ rfl (j:=2) rfl rfl) ?_;exact Wd (Qc (Cr (out1 rfl rfl (fun u hu=>⟨updI f lk 2,hf.upd (by rw[hop];rfl),by rw[hop,OI,Bool.or_false,decide_eq_false (by omega:¬lk<0)];rfl,hu⟩))))
 refine Ck (Qc (Nz 3 ?_));refine Wk 1 (Ba 0) ?_;refine Wk 2 (CM mapT mapK mapZ rfl (j:=2) rfl rfl) ?_;exact Wd (Qc (Cr (out1 rfl rfl (fun u hu=>⟨f,hf,by rcases hf lk with h|h;exact absurd h hc2;rw[h,decide_eq_false (by omega:¬lk<0)];cases Dm G.p rd lk<;>rfl,hu⟩))))
end Go.Proofs.YtmoojmgihdgceaaGreatDoor
