/- Merged texts of this proof. -/
import Derived.Test.YtllebkdchemabaaGreatDoorZs
set_option maxHeartbeats 8000000
namespace Go.Proofs.YtllebkdchemabaaGreatDoor
open Go.RowKit Go.Proofs Tryz
set_option maxRecDepth 100000
set_option linter.unusedVariables false
set_option linter.unusedSimpArgs false
def E0 (lks:List LockD) (ws:Wds):Option ((Int×Clue)×Wds):=(CU lks ws).map fun k=>(k,[])
variable {lks:List LockD} {ws:Wds}
theorem Tn (h:isW Br ws=true):CU lks ws=(numW 3 ws.tail).bind fun k=>if k.1<(lks.length:Int)/\(Cf lks k.1 k.2).1=0 then some (k.1,(Cf lks k.1 k.2).2)else none:=by
 unfold CU;rw[if_pos h]
variable {b b1:Bool} {w1:Wds}
theorem ZR {c:Bool} (h:Rel b (some (isW Br ws,if isW Br ws then ws.tail else ws)) c w1 b1):(b=false->b1=false/\isW Br ws=c/\(if isW Br ws then ws.tail else ws)=w1):=fun hb=>by
 cases h1:b1 with
 |true=>cases h.no hb h1
 |false=>
  have:=Option.some.inj (h.ok hb h1);exact⟨rfl,congrArg Prod.fst this,congrArg Prod.snd this⟩
variable {n:Int}
theorem Yd {b2:Bool} {w2:Wds} {v:Int×Clue} (hi:Rel b (some (isW Br ws,if isW Br ws then ws.tail else ws)) true w1 b1) (hn:Rel b1 (numW 3 w1) n w2 b2) (h:b2=true\/(lks.length:Int)<=n\/¬(Cf lks n w2).1=0):Rel b (E0 lks ws) v [] true:=Rel.bad fun hb=>by
 obtain⟨h1,h2,h3⟩:=ZR hi hb;rw[if_pos h2]at h3;unfold E0;rw[Tn h2,h3];cases h4:b2 with
 |true=>rw[hn.no h1 h4];rfl
 |false=>
  rw[hn.ok h1 h4,Option.bind_some,if_neg]
  ·rfl
  rintro⟨h5,h6⟩;rcases h with h|h|h
  ·rw[h4]at h;cases h
  ·simp only at h5;omega
  exact h h6
theorem Jc8 {w2:Wds} (hi:Rel b (some (isW Br ws,if isW Br ws then ws.tail else ws)) true w1 b1) (hn:Rel b1 (numW 3 w1) n w2 false) (h:n<(lks.length:Int)) (hc:(Cf lks n w2).1=0):Rel b (E0 lks ws) (n,(Cf lks n w2).2) [] false:=by
 have hb1:b1=false:=by
  cases h1:b1 with
  |false=>rfl
  |true=>cases hn.bt h1
 have hb:b=false:=by
  cases h1:b with
  |false=>rfl
  |true=>have:=hi.bt h1;rw[hb1]at this;cases this
 obtain⟨h1,h2,h3⟩:=ZR hi hb;rw[if_pos h2]at h3
 have e:E0 lks ws=some ((n,(Cf lks n w2).2),[]):=by
  unfold E0;rw[Tn h2,h3,hn.ok hb1 rfl,Option.bind_some,if_pos ⟨h,hc⟩];rfl
 rw[hb];exact Rel.same e
theorem Z1 (hi:Rel b (some (isW Br ws,if isW Br ws then ws.tail else ws)) false w1 b1):Rel b (E0 lks ws) (-1,Em) [] (!(!b1&&decide ((w1.length:Int)=0))):=by
 have key:b=false->b1=false/\E0 lks ws=if w1=[]then some ((-1,Em),[])else none:=fun hb=>by
  obtain⟨h1,h2,h3⟩:=ZR hi hb;refine⟨h1,?_⟩;rw[if_neg (by rw[h2];decide)]at h3;subst h3;unfold E0 CU;rw[if_neg (by rw[h2];decide)];split<;>rfl
 refine⟨fun hb=>by rw[hi.bt hb];rfl,fun hb hz=>?_,fun hb hz=>?_⟩
 ·obtain⟨h1,h2⟩:=key hb;rw[h1]at hz;have:w1=[]:=List.length_eq_zero_iff.1 (by simpa using hz);rw[h2,if_pos this]
 obtain⟨h1,h2⟩:=key hb;rw[h1]at hz;rw[h2,if_neg];intro h3;rw[h3]at hz;simp at hz
theorem Gd {pls:Wds} {ths:List Thing} {w2 w3 w4:Wds} {nm:ByteArray} {pl:Int} {c:List Lit} {k:Int×Clue} {b2 b3 b4 b5:Bool}
  (h1:Rel false (CL ws) nm w1 b1) (h2:Rel b1 (Kr atW w1) () w2 b2) (h3:Rel b2 (A8 id pls w2) pl w3 b3) (h4:Rel b3 (CB ths w3) c w4 b4) (h5:Rel b4 (E0 lks w4) k [] b5):
  if b5=false then BP pls ths lks ws=some ⟨nm,pl,k.1,c,k.2⟩else BP pls ths lks ws=none:=by
 have g4:Rel b3 ((CB ths w3).bind fun c=>(E0 lks c.2).map fun k=>((c.1,k.1),k.2)) (c,k) [] b5:=h4.bind (h5.map fun k=>(c,k));have g3:Rel b2 ((A8 id pls w2).bind fun p=>((CB ths p.2).bind fun c=>(E0 lks c.2).map fun k=>((c.1,k.1),k.2)).map fun x=>((p.1,x.1),x.2)) (pl,c,k) [] b5:=h3.bind (g4.map fun x=>(pl,x));have g2:Rel b1 ((Eo atW w1).bind fun w=>(A8 id pls w).bind fun p=>((CB ths p.2).bind fun c=>(E0 lks c.2).map fun k=>((c.1,k.1),k.2)).map fun x=>((p.1,x.1),x.2)) (pl,c,k) [] b5:=h2.bindM g3;have g1:=h1.bind (f:=fun n=>((Eo atW n.2).bind fun w=>(A8 id pls w).bind fun p=>((CB ths p.2).bind fun c=>(E0 lks c.2).map fun k=>((c.1,k.1),k.2)).map fun x=>((p.1,x.1),x.2)).map fun x=>((n.1,x.1),x.2)) (g2.map fun x=>(nm,x))
 have e:BP pls ths lks ws=(((CL ws).bind fun n=>((Eo atW n.2).bind fun w=>(A8 id pls w).bind fun p=>((CB ths p.2).bind fun c=>(E0 lks c.2).map fun k=>((c.1,k.1),k.2)).map fun x=>((p.1,x.1),x.2)).map fun x=>((n.1,x.1),x.2)):Option ((ByteArray×Int×List Lit×Int×Clue)×Wds)).map fun x=>⟨x.1.1,x.1.2.1,x.1.2.2.2.1,x.1.2.2.1,x.1.2.2.2.2⟩:=by
  unfold BP E0;cases CL ws with
  |none=>rfl
  |some n=>
   simp only[Option.bind_some];cases Eo atW n.2 with
   |none=>rfl
   |some w=>
    simp only[Option.bind_some];cases A8 id pls w with
    |none=>rfl
    |some p=>
     simp only[Option.bind_some];cases CB ths p.2 with
     |none=>rfl
     |some c=>
      simp only[Option.bind_some];cases CU lks c.2<;>rfl
 rw[e];split
 ·rename_i hb;rw[g1.ok rfl hb];rfl
 rename_i hb;rw[g1.no rfl (by simpa using hb)];rfl
def Kl (G:Game) (kd:Int) (ws:Wds) (G':Game) (kd':Int) (z:Bool):Prop:=if z=true then kd'=1/\¬1<kd/\∃n,BP G.rm.pls.l G.rm.ths.l G.lks.l (ws.drop 1)=some n/\G'.p=addG G.p (.note n)else 1<kd\/BP G.rm.pls.l G.rm.ths.l G.lks.l (ws.drop 1)=none
variable {G:Game}
theorem II {n0:Nat} {w0 u:World} {L:List SA} {y:NoteD} (v1:Value) (h:St n0 w0 (roS (gel2 G)::roS (fun u=>cNote.ok u y)::L) u):St n0 w0 (roS (gel2 {G with nts:=⟨v1,G.nts.l++[y]⟩})::L) u:=
 St.roMap (fun u h=>⟨h.1.1,fun x hx=>by rcases List.mem_append.1 hx with hx|hx;exact h.1.2 x hx;(rw[List.mem_singleton]at hx;subst hx;exact h.2)⟩) (St.roAnd h)
theorem M1 {kd:Int} {x:NoteD} {v:Value} {y:NoteP} (hk:¬1<kd) (h:if b=false then BP G.rm.pls.l G.rm.ths.l G.lks.l (ws.drop 1)=some y else BP G.rm.pls.l G.rm.ths.l G.lks.l (ws.drop 1)=none) (hx:x.p=y):Kl G kd ws {G with nts:=⟨v,G.nts.l++[x]⟩} 1 (!b):=by
 unfold Kl;cases b with
 |false=>exact⟨rfl,hk,y,h,by simp[addG,Game.p,hx]⟩
 |true=>exact .inr h
theorem PU {G':Game} {kd kd':Int} {y:NoteP} (h:if true=false then BP G.rm.pls.l G.rm.ths.l G.lks.l (ws.drop 1)=some y else BP G.rm.pls.l G.rm.ths.l G.lks.l (ws.drop 1)=none):Kl G kd ws G' kd' false:=.inr h
theorem YY {m:Int} {w:Wds} (h:numW m ws=some (n,w)):0<=n:=by
 unfold numW at h;obtain⟨x,_,h2⟩:=Option.bind_eq_some_iff.1 h;obtain⟨y,h3,h4⟩:=Option.map_eq_some_iff.1 h2;cases h4;exact Ya h3
section
variable {P:Program} {l:List Value} {d:Option Tmp} {ty:TypeId} {ps:String} {af:Array Edge} {g:Option (Nat×Bool)}
theorem F2 {T T':TypeId} {x y:Operand} {a b:ByteArray} {C:World->Prop} (hx:evo l x=some (.string a)) (hy:evo l y=some (.string b)) (hT:P.underlying T=some .string) (h:a.size+b.size<=9223372036854775807):
  Det P C ⟨d,.binOp .add T x y T',ty,ps,af,g⟩ l (.string (a++b)):=fun u _=>by
 (replace hx:=Am hx;replace hy:=Am hy)
 have h2:¬(9223372036854775807<((a.size:Nat):Int)+(b.size:Nat)):=by omega
 simp[execOp,Ap,hx,hy,eqGuard,binOp,Op.stringOp,h2]
end
theorem Jha {n0:Nat} {w0 u:World} {L:List SA} {s:Sl Lit} {gv:Value} {g:List Int} (h:St n0 w0 (roT cLit s::roI gv g::L) u):St n0 w0 (roS (fun u=>SlT cLit u s/\SlI u gv g)::L) u:=St.roAnd h
theorem YI {i:Int} (h0:0<=i) (h1:i<ws.length) (hp:0<i):jnB (ws.take i.toNat)++(⟨#[32]⟩:ByteArray)++nth ws i=jnB (ws.take (i+1).toNat):=by
 rw[AG ws h0 h1,ZA];intro h;have:=congrArg List.length h;rw[List.length_take,List.length_nil]at this;omega
theorem Xr {i:Int} (h0:0<=i) (h1:i<ws.length) (hp:¬0<i):jnB (ws.take i.toNat)++nth ws i=jnB (ws.take (i+1).toNat):=by
 obtain rfl:i=0:=by omega
 rw[AG ws h0 h1];show jnB []++nth ws 0=jnB [nth ws 0];rw[Ja1];refine G9 ?_;rw[IP];rfl
theorem ZC {w u:World} (R:SA) (b:Nat) (G:Game) (kd:Int) (s0:Sl ByteArray) (hz:∀x∈s0.l,(x.size:Int)<=65536) (hn:s0.l.length<=65537) (hB:GmB G) (hu:St w.heap.size w [rg b G kd,roT cStr s0,R] u) (hl:1<=s0.l.length):
  Calls prog 95 #[.pointer (some ⟨b,0,none⟩),s0.v] u (GrX w [R] b (Kl G kd s0.l)):=by
 have hB3:=hB.nts
 have hwl:(s0.cut 1 1 s0.l.length).l=s0.l.drop 1:=by
  show(s0.l.drop 1).take (s0.l.length-1)=_;exact List.take_of_length_le (by rw[List.length_drop];exact Nat.le_refl _)
 have hok:∀(w:Sl ByteArray) (b:Bool),w.l <:+s0.l.drop 1->RlS.ok ⟨G.rm,w,b⟩:=fun w b h=>⟨fun y hy=>by have:=hz y (List.mem_of_mem_drop (h.subset hy));omega,by have:=h.length_le;rw[List.length_drop]at this;show w.l.length<=_;omega⟩;refine Ei hu func95 ?_;refine CS.unpack (L1:=BM b G kd) ?_;refine CS.roE (j:=13) rfl fun hwx=>?_;obtain⟨uw,hw⟩:=hwx;refine Nz 1 ?_;refine Nv 3 ?_;refine Wk 1 (Ba 0) ?_;refine Wp ?_ ?_<;>intro hc1
 ·have hno:Kl G kd s0.l G kd false:=.inl (by omega);refine Nz 1 ?_;exact Wd (Qc (Cr (Qr (out1 rfl rfl (fun u hu=>grX0 hno (hu.sel [14] rfl))))))
 have hkd:¬1<kd:=by omega
 have hwo:(sub2 1 s0.v (Int.toNat 1) s0.l.length).oneCell'=true:=Sl.one (hw.cut (lo:=1) (hi:=s0.l.length) (by omega) (Nat.le_refl _));refine Ck (Qc (Nz 3 ?_));refine Ws 0 0 ?_;refine Wd (Qc (Cs ?_));refine CS.drawnAll (k:=9) mixed rfl rfl ?_;refine Ar [0,1,2,3,4] ?_;refine Ak 5 [] rfl (Bf sl23 rfl rfl hw.sp (by decide) (by omega)) ?_;refine Ak 6 [] rfl (Db XO Jfy) ?_;refine Ao 7 rfl ?_;refine Wr 0 fun b26 hb26=>?_;refine Wd (Qa ?_);refine Ar [8] ?_;refine Ae ?_;refine Qc (Cs ?_);refine CS.sel [14,0,0,0,0,0,0,0,0,0,0,0,0,0,0,0] rfl ?_;refine CS.weak (fun u hu=>St.roCut (lo:=1) (hi:=s0.l.length) hu (by omega) (Nat.le_refl _)) ?_;refine CS.sel [1,0,0,0,0,0,0,0,0,0,0,0,0,0,0,0] rfl ?_;refine CS.weak (fun u hu=>St.pack (L1:=As b26 (rgB b G 1) ⟨G.rm,(s0.cut 1 1 s0.l.length),false⟩) hu) ?_;refine Ny 1 ?_;refine WS.callP rfl rfl IQ (fun u hu=>RlX.lw (IJ (star _) b26 (rgB b G 1) ⟨G.rm,(s0.cut 1 1 s0.l.length),false⟩ (St.tailPack hu) (hok (s0.cut 1 1 s0.l.length) false (by rw[hwl];exact List.suffix_refl _)))) (fun _=>rfl) (fun hq u hu=>hq.elim) ?_;rintro⟨⟨w1,b1⟩,nm⟩ ⟨hr1,hx1,hm1⟩;replace hr1:Rel false (CL (s0.l.drop 1)) nm w1.l b1:=hwl▸hr1;have hx1':w1.l <:+s0.l.drop 1:=hwl▸hx1;refine Wk 0 (Db T6 zv91) ?_;refine Wq 0 zv91 fun b6 hb6=>?_;refine Wv 0 0 ?_;refine Nx 1 ?_;refine WS.callP rfl rfl Jl (fun u hu=>RlX.lw (JB (star _) b26 (rgB b G 1) ⟨G.rm,w1,b1⟩ (St.tailPack (hu.sel [1,0,0,0,0,0,0] rfl)) atW)) (fun _=>rfl) (fun hq u hu=>hq.elim) ?_;rintro⟨⟨w2,b2⟩,⟨⟩⟩ ⟨hr2,hx2,_⟩;have hx2':w2.l <:+s0.l.drop 1:=hx2.trans hx1';refine Nx 1 ?_;refine WS.callP rfl rfl JI (fun u hu=>RlX.lw (ET (star _) b26 (rgB b G 1) ⟨G.rm,w2,b2⟩ (St.tailPack hu) (hok w2 b2 hx2'))) (fun _=>rfl) (fun hq u hu=>hq.elim) ?_;rintro⟨⟨w3,b3⟩,pl⟩ ⟨hr3,hx3,_⟩;have hx3':w3.l <:+s0.l.drop 1:=hx3.trans hx2';refine Wz 1 ?_;refine Ws 0 1 ?_;refine Nx 1 ?_;refine WS.callP rfl rfl Lh (fun u hu=>RlL.lw (If_c (star _) b26 (rgB b G 1) ⟨G.rm,w3,b3⟩ (St.tailPack hu) (hok w3 b3 hx3'))) (fun _=>rfl) (fun hq u hu=>hq.elim) ?_;rintro⟨⟨w4,b4⟩,wh⟩ ⟨hr4,hx4,uh,hwhx⟩;have hwho:=Sl.one hwhx;have hx4':w4.l <:+s0.l.drop 1:=hx4.trans hx3';refine Wz 1 ?_;refine Ws 0 2 ?_;refine Wd (Qc ?_);refine CS.cut (σ:=Sl ByteArray×Bool×Int×Clue×Value) [4,7,8,9,10,38,39,40,41,42,43,44,45,46,47,48,49,50,51,52,53,54,55,56,57,58,59,60,61,62,63,64,65,66,67,68,69,70,71,72,73,74,75,76,77,78,79,80,81,82,83,84,85,86,87,88,89,90,91,92,93,94,95,96,97,98,99,100,101,102,103,104,105,106,107,108] (fun s=>[]) (fun s=>As b26 (rgB b G 1) ⟨G.rm,s.1,s.2.1⟩++(blk b6 [.string nm,.int .i64 pl,.int .i64 s.2.2.1,wh.v,.int .i64 s.2.2.2.1.k,.int .i64 s.2.2.2.1.a,.int .i64 s.2.2.2.1.b,.int .i64 s.2.2.2.1.n,.int .i64 s.2.2.2.1.m,s.2.2.2.2,.bool s.2.2.2.1.nt] 91::roI s.2.2.2.2 s.2.2.2.1.g::roT cLit wh::(PP G++[R]))) (fun s=>Rel b4 (E0 G.lks.l w4.l) (s.2.2.1,s.2.2.2.1) [] (!(!s.2.1&&decide ((s.1.l.length:Int)=0)))/\s.2.2.2.2.oneCell'=true) (fun _ _=>rfl) ?_ ?_
 ·refine Nz 1 ?_;refine WS.callP rfl rfl Iz (fun u hu=>RlX.lw (Is_c (star _) b26 (rgB b G 1) ⟨G.rm,w4,b4⟩ (St.tailPack hu) Br)) (fun _=>rfl) (fun hq u hu=>hq.elim) ?_;rintro⟨⟨w5,b5⟩,c⟩ ⟨hr5,hx5,_⟩;have hx5':w5.l <:+s0.l.drop 1:=hx5.trans hx4';refine Wp ?_ ?_<;>intro hc2
  ·subst hc2;refine Nz 1 ?_;refine WS.callP rfl rfl Mz (fun u hu=>RlX.lw (Lw (star _) b26 (rgB b G 1) ⟨G.rm,w5,b5⟩ (St.tailPack hu) (hok w5 b5 hx5') 3 (by decide))) (fun _=>rfl) (fun hq u hu=>hq.elim) ?_;rintro⟨⟨w6,bz⟩,n⟩ ⟨hr6,hx6,_⟩;have hx6':w6.l <:+s0.l.drop 1:=hx6.trans hx5';refine Wz 1 ?_;refine Ws 0 2 ?_;refine Wd (Qc (Cs (Cs ?_)));refine CS.weak (fun u hu=>St.unpack (L1:=As b26 (rgB b G 1) ⟨G.rm,w6,bz⟩) hu) ?_;refine CS.roE (j:=1) rfl fun hwy=>?_;obtain⟨u6,hw6⟩:=hwy;have hn6:bz=false->0<=n:=fun h=>YY (Rel.ok hr6 (by cases h8:b5;rfl;have:=hr6.bt h8;rw[h]at this;cases this) h);refine Dr mixed 3 ?_;refine Dk 1 (Ba 0) ?_;refine De 0 ?_;refine Df 0 rfl rfl (fun hg=>Ba 12) ?_;refine De 0 ?_;refine De 0 ?_;refine De 0 ?_;refine De 0 ?_;refine De 0 ?_;refine Df 0 rfl rfl (fun hg=>B7 (j:=13) sl33 (eg_ hg rfl) rfl) ?_;refine De 0 ?_;refine Dk 0 Po ?_;refine Dd (Qc (Cn ?_ ?_))<;>intro hc3
   ·have hno:Kl G kd s0.l G 1 false:=PU (Gd hr1 hr2 hr3 hr4 (Yd (v:=(0,Em)) hr5 hr6 (by rcases hc3 with h|h;exact .inl h;exact .inr (.inl (by omega)))));refine Nz 1 ?_;exact Wd (Qc (Cr (Qr (Qr (out1 rfl rfl (fun u hu=>grX0 hno (hu.sel [17] rfl)))))))
   obtain⟨hbz,hnk⟩:bz=false/\n<G.lks.l.length:=by
    have h9:=hc3;cases bz
    ·exact⟨rfl,by(try simp at h9);omega⟩
    simp at h9
   have hn0:0<=n:=hn6 hbz;subst hbz;refine Ck (Qc (Nz 1 ?_));refine Nv 1 ?_;refine Nu ?_;refine CS.loopM (σ:=Int×ByteArray) (rsL [58,79]) (fun s=>[(8,.int .i64 s.1),(7,.string s.2)]) (fun _=>_) (fun s=>0<=s.1/\s.1<=w6.l.length/\s.2=jnB (w6.l.take s.1.toNat)) (fun s=>(w6.l.length-s.1).toNat) (0,⟨#[]⟩) (fun _ _=>rfl) rfl rfl ⟨by simp,by simp,rfl⟩ ?_;intro q t hs;obtain⟨hq1,hq2,hq3⟩:=hs;refine Cs (Nz 4 ?_);refine Wk 0 (Ba 0) ?_;refine Wk 1 (Nc (s:=w6) (hs:=hw6)) ?_;refine Wp ?_ ?_<;>intro hc4
   ·have hlw:w6.l.length<=65537:=(hok w6 false hx6').len;have hs1:(⟨#[32]⟩:ByteArray).size=1:=rfl
    have hqz:q.2.size<=65537*65537:=by
     rw[hq3];refine Nat.le_trans (ZF (n:=65536) fun x hx=>(hok w6 false hx6').sz x (List.mem_of_mem_take hx)) (Nat.mul_le_mul (Nat.le_refl _) ?_);rw[List.length_take];have:=(hok w6 false hx6').len;show min _ w6.l.length<=_;have h9:w6.l.length<=65537:=this;omega
    have hnz:(nth w6.l q.1).size<=65536:=(hok w6 false hx6').sz _ (Ai hq1 (by omega));refine Ck (Qc (Cs (Ce (Cs (Nz 2 ?_)))));refine Wp ?_ ?_<;>intro hc5
    ·refine Ny 1 ?_;refine Wk 1 (F2 rfl rfl underlying9 (by omega)) ?_;refine Nw 4 ?_;refine Wk 1 (Ba 0) ?_;refine Wk 0 (Xc (s:=w6) (hs:=hw6)) ?_;refine Wk 0 (Vb 1 rfl (s:=w6)) ?_;refine Wk 1 (F2 rfl rfl underlying9 (by(try simp only[ByteArray.size_append]);omega)) ?_;refine Wd (Qb (Qc (Ny 1 ?_)));refine Wk 1 Za ?_;exact Wd (QS.head ((q.1+1,q.2++(⟨#[32]⟩:ByteArray)++nth w6.l q.1)) rfl rfl ⟨⟨by simp only;omega,by simp only;omega,by simp only;rw[hq3];exact YI hq1 (by omega) (by omega)⟩,by simp only;omega⟩)
    refine Ck (Qc (Ny 4 ?_));refine Wk 1 (Ba 0) ?_;refine Wk 0 (Xc (s:=w6) (hs:=hw6)) ?_;refine Wk 0 (Vb 1 rfl (s:=w6)) ?_;refine Wk 1 (F2 rfl rfl underlying9 (by(try simp only[ByteArray.size_append]);omega)) ?_;refine Wd (Qb (Qc (Ny 1 ?_)));refine Wk 1 Za ?_;exact Wd (QS.head ((q.1+1,q.2++nth w6.l q.1)) rfl rfl ⟨⟨by simp only;omega,by simp only;omega,by simp only;rw[hq3];exact Xr hq1 (by omega) (by omega)⟩,by simp only;omega⟩)
   obtain⟨qi,qt⟩:=q;simp only at hq1 hq2 hq3 hc4;obtain rfl:qt=jnB w6.l:=by rw[hq3,List.take_of_length_le (by omega)]
   refine Cv (Qe (Qe (Qx (Qc ?_))));refine CS.cut (σ:=Nat×Value) [80,81,82,83,84,85,86,87,88,89,90,91,92,93] (fun s=>[(10,.int .i64 (Cf G.lks.l n w6.l).1),(9,.pointer (some ⟨s.1,0,none⟩))]) (fun s=>blk s.1 (Aw (Cf G.lks.l n w6.l).2 s.2) 89::roI s.2 (Cf G.lks.l n w6.l).2.g::(As b26 (rgB b G 1) ⟨G.rm,w6,false⟩++(roT cLit wh::blk b6 [.string nm,.int .i64 pl,.int .i64 n,wh.v,.int .i64 0,.int .i64 0,.int .i64 0,.int .i64 0,.int .i64 0,.slice none 0 0,.bool false] 91::(PP G++[R])))) (fun s=>s.2.oneCell'=true) (fun _ _=>rfl) ?_ ?_
   ·refine CS.drawnTill 15 (k:=17) mixed rfl rfl ?_;refine Tr 17 [0,1,2,3] ?_;refine Tk 17 4 [5] rfl (Ba 2) ?_;refine Tk 17 6 [] rfl (Ba 12) ?_;refine Tk 17 7 [] rfl (DM (j:=13) sl33 rfl rfl rfl rfl (by omega) (by omega)) ?_;refine Tk 17 8 [9] rfl (Lx (C:=cLock) (k:=2) 0 [.int .i64 (nth G.lks.l n).w,.int .i64 (nth G.lks.l n).s] (j:=13) rfl rfl rfl ⟨by omega,by omega⟩ (Nat.le_refl 2) rfl tk85) ?_;refine AT.two (i:=10) (j:=14) (by kernel_rfl) rfl rfl (by first|(intro h;exact absurd h (by decide))|exact fun _ _ h=>h|exact fun _ _ h=>h.sub (by repeat first|exact List.Sublist.refl _|apply List.Sublist.cons_cons|apply List.Sublist.cons)) rfl rfl ?_ ?_
    ·refine Wc rfl rfl XZ (fun u hu=>ON (nth G.lks.l n).w (nth G.lks.l n).s (jnB w6.l) u) (fun _=>rfl) ?_;rintro gv ⟨hgv,ug,hsg⟩;have hco:=Bs (c:=(Cf G.lks.l n w6.l).2) hgv;refine Wd (Qt ?_);refine Tr 17 [11,12] ?_;refine AT.two (i:=13) (j:=14) (by kernel_rfl) rfl rfl (by first|(intro h;exact absurd h (by decide))|exact fun _ _ h=>h|exact fun _ _ h=>h.sub (by repeat first|exact List.Sublist.refl _|apply List.Sublist.cons_cons|apply List.Sublist.cons)) rfl rfl ?_ ?_
     ·refine Wz 1 ?_;refine Wd (Qt ?_);refine To 14 rfl ?_;refine Wq 0 zv89 fun b9 hb9=>?_;refine Wd (Qt ?_);refine To 15 rfl ?_;refine Wv 0 0 ?_;refine Wd (Qt ?_);refine To 16 rfl ?_;refine Wz 1 ?_;refine Wd (Qt ?_);refine Te ?_;exact QS.head ((b9,gv)) rfl rfl hgv
     refine Wq 0 zv89 fun b9 hb9=>?_;refine Wd (Qt ?_);refine AT.two (i:=13) (j:=15) (by kernel_rfl) rfl rfl (by first|(intro h;exact absurd h (by decide))|exact fun _ _ h=>h|exact fun _ _ h=>h.sub (by repeat first|exact List.Sublist.refl _|apply List.Sublist.cons_cons|apply List.Sublist.cons)) rfl rfl ?_ ?_
     ·refine Wz 1 ?_;refine Wd (Qt ?_);refine To 15 rfl ?_;refine Wv 0 0 ?_;refine Wd (Qt ?_);refine To 16 rfl ?_;refine Wz 1 ?_;refine Wd (Qt ?_);refine Te ?_;exact QS.head ((b9,gv)) rfl rfl hgv
     refine Wv 0 0 ?_;refine Wd (Qt ?_);refine To 13 rfl ?_;refine Wz 1 ?_;refine Wd (Qt ?_);refine To 16 rfl ?_;refine Wz 1 ?_;refine Wd (Qt ?_);refine Te ?_;exact QS.head ((b9,gv)) rfl rfl hgv
    refine Wq 0 zv89 fun b9 hb9=>?_;refine Wd (Qt ?_);refine To 10 rfl ?_;refine Wc rfl rfl XZ (fun u hu=>ON (nth G.lks.l n).w (nth G.lks.l n).s (jnB w6.l) u) (fun _=>rfl) ?_;rintro gv ⟨hgv,ug,hsg⟩;have hco:=Bs (c:=(Cf G.lks.l n w6.l).2) hgv;refine Wd (Qt ?_);refine Tr 17 [11,12] ?_;refine AT.two (i:=13) (j:=15) (by kernel_rfl) rfl rfl (by first|(intro h;exact absurd h (by decide))|exact fun _ _ h=>h|exact fun _ _ h=>h.sub (by repeat first|exact List.Sublist.refl _|apply List.Sublist.cons_cons|apply List.Sublist.cons)) rfl rfl ?_ ?_
    ·refine Wz 1 ?_;refine Wd (Qt ?_);refine To 15 rfl ?_;refine Wv 0 1 ?_;refine Wd (Qt ?_);refine To 16 rfl ?_;refine Wz 1 ?_;refine Wd (Qt ?_);refine Te ?_;refine QS.sel [1,0,0,0,0,0,0,0,0,0,0,0,0,0,0,0,0,0,0,0] rfl ?_;exact QS.head ((b9,gv)) rfl rfl hgv
    refine Wv 0 1 ?_;refine Wd (Qt ?_);refine To 13 rfl ?_;refine Wz 1 ?_;refine Wd (Qt ?_);refine To 16 rfl ?_;refine Wz 1 ?_;refine Wd (Qt ?_);refine Te ?_;refine QS.sel [1,0,0,0,0,0,0,0,0,0,0,0,0,0,0,0,0,0,0,0] rfl ?_;exact QS.head ((b9,gv)) rfl rfl hgv
   intro y t hs;have hy1:=hs;refine Cs (Nz 3 ?_);refine We 0 ?_;refine We 0 ?_;refine We 0 ?_;refine We 0 ?_;refine Wf 0 rfl rfl (fun hg=>Nc (eg_ hg rfl) (s:=w6) (hs:=hw6)) ?_;refine We 0 ?_;refine Wk 0 Po ?_;refine Wp ?_ ?_<;>intro hc6
   ·have hno2:Kl G kd s0.l G 1 false:=PU (Gd hr1 hr2 hr3 hr4 (Yd (v:=(0,Em)) hr5 hr6 (.inr (.inr (by
     rcases hc6 with h|h
     ·exact h
     rw[List.length_eq_zero_iff.1 (show w6.l.length=0 by omega)];exact Rk)))))
    refine Nz 1 ?_;exact Wd (Qc (Cr (Qr (Qr (out1 rfl rfl (fun u hu=>grX0 hno2 (hu.sel [19] rfl)))))))
   have hce0:(Cf G.lks.l n w6.l).1=0:=by simpa using hc6.1
   refine Ck (Qc (Nz 0 ?_));refine Wk 1 (Bb 0) ?_;refine WS.storeP rfl (j:=14) rfl (vs:=Aw (Cf G.lks.l n w6.l).2 y.2) rfl rfl (Bs hy1) tk89 rfl rfl ?_;refine Nw 3 ?_;refine Ws 0 2 ?_;refine Wd ?_;refine QS.sel [2,3,3,3,3,3,3,3,3,3,4,1,2,2,2,2,2,2] rfl ?_;refine QS.weak (fun u hu=>hu.roTrue (p:=fun u=>SlT cStr u ⟨.slice none 0 0,[]⟩) (SlT.nil cStr)) ?_;refine QS.sel [1,0,0,0,0,0,0,0,0,0,0,0,0,0,0,0,0,0,0] rfl ?_;exact QS.head ((⟨.slice none 0 0,[]⟩,false,n,(Cf G.lks.l n w6.l).2,y.2)) rfl rfl ⟨Jc8 hr5 hr6 hnk hce0,hy1⟩
  subst hc2;refine Ck ?_;refine QS.weak (fun u hu=>St.unpack (L1:=As b26 (rgB b G 1) ⟨G.rm,w5,b5⟩) hu) ?_;refine QS.weak (fun u hu=>St.nilRoI hu) ?_;refine QS.sel [1,1,1,1,1,1,1,1,1,1,1,2,0,0,0,0,0,0,0] rfl ?_;exact QS.head ((w5,b5,-1,Em,.slice none 0 0)) rfl rfl ⟨Z1 hr5,rfl⟩
 intro y2 t hs;obtain⟨hyr,hy3⟩:=hs;refine CS.roE (j:=1) rfl fun hwy=>?_;obtain⟨u7,hw7⟩:=hwy;refine Cs ?_;refine CS.sel [13,12,11,0,0,0,0,0,0,0,0,0,0,0,0,0,0,0,0] rfl ?_;refine CS.weak (fun u hu=>Jha hu) ?_;refine CS.roE (j:=0) rfl fun hnx=>?_;obtain⟨un,hnx⟩:=hnx;refine CS.drawnTill 8 (k:=13) mixed rfl rfl ?_;refine Tr 13 [1,2,3,4] ?_;refine Tk 13 5 [] rfl (Ba 4) ?_;refine Tk 13 6 [] rfl (Bb 1) ?_;refine AT.two (i:=0) (j:=7) (by kernel_rfl) rfl rfl (by first|(intro h;exact absurd h (by decide))|exact fun _ _ h=>h|exact fun _ _ h=>h.sub (by repeat first|exact List.Sublist.refl _|apply List.Sublist.cons_cons|apply List.Sublist.cons)) rfl rfl ?_ ?_
 ·refine Wz 1 ?_;refine Wd (Qt ?_);refine To 7 rfl ?_;refine WS.buildT1 cNote (a:=⟨nm,pl,y2.2.2.1,wh,y2.2.2.2.1,y2.2.2.2.2⟩) sl35 zv91 rfl (by decide) (fun _=>rfl) ?_;intro v116;refine Wd (Qt ?_);refine To 8 rfl ?_;refine WS.appendT1 (C:=cNote) (a:=⟨nm,pl,y2.2.2.1,wh,y2.2.2.2.1,y2.2.2.2.2⟩) (j:=16) (jz:=0) sl35 zv91 rfl (by decide) rfl rfl rfl rfl (w:=un) hnx (by omega) (by omega) (fun _=>rfl) (fun _=>rfl) ?_;intro v117 hv117;refine Wd (Qt ?_);refine To 9 rfl ?_;refine Wz 1 ?_;refine Wd (Qt ?_);refine To 10 rfl ?_;refine Wz 1 ?_;refine Wd (Qt ?_);refine To 11 rfl ?_;refine Wz 1 ?_;refine Wd (Qt ?_);refine To 12 rfl ?_;refine Ws 0 5 ?_;refine Wd (Qt ?_);refine Te ?_;refine Qc (Nz 3 ?_);refine Wk 2 (Ba 3) ?_;refine Wj 0 ?_;refine Wj 0 ?_;refine Wj 0 ?_;refine Wj 0 ?_;refine Wt 0 rfl rfl (fun hg=>Nc (eg_ hg rfl) (s:=y2.1) (hs:=hw7)) ?_;refine Wj 0 ?_;refine Wk 1 Pa ?_;refine Wd (Qc (Cr ?_));refine QS.sel [17,1,4,4,4,4,4,4,4,4,4,4,4,4,4] rfl ?_;refine QS.weak (fun u hu=>II (y:=⟨nm,pl,y2.2.2.1,wh,y2.2.2.2.1,y2.2.2.2.2⟩) v117 hu) ?_;refine QS.sel [1,1,1,1,1,1,1,1,1,1,1,1,0,0] rfl ?_;exact out1 rfl rfl (fun u hu=>grX1 (G:={G with nts:=⟨v117,G.nts.l++[⟨nm,pl,y2.2.2.1,wh,y2.2.2.2.1,y2.2.2.2.2⟩]⟩}) (kd:=1) (by have h9:=M1 (kd:=kd) (v:=v117) (x:=⟨nm,pl,y2.2.2.1,wh,y2.2.2.2.1,y2.2.2.2.2⟩) hkd (Gd hr1 hr2 hr3 hr4 hyr) rfl;rw[Bool.not_not]at h9;exact h9) hu)
 refine WS.buildT1 cNote (a:=⟨nm,pl,y2.2.2.1,wh,y2.2.2.2.1,y2.2.2.2.2⟩) sl35 zv91 rfl (by decide) (fun _=>rfl) ?_;intro v116;refine Wd (Qt ?_);refine AT.two (i:=0) (j:=8) (by kernel_rfl) rfl rfl (by first|(intro h;exact absurd h (by decide))|exact fun _ _ h=>h|exact fun _ _ h=>h.sub (by repeat first|exact List.Sublist.refl _|apply List.Sublist.cons_cons|apply List.Sublist.cons)) rfl rfl ?_ ?_
 ·refine Wz 1 ?_;refine Wd (Qt ?_);refine To 8 rfl ?_;refine WS.appendT1 (C:=cNote) (a:=⟨nm,pl,y2.2.2.1,wh,y2.2.2.2.1,y2.2.2.2.2⟩) (j:=16) (jz:=0) sl35 zv91 rfl (by decide) rfl rfl rfl rfl (w:=un) hnx (by omega) (by omega) (fun _=>rfl) (fun _=>rfl) ?_;intro v117 hv117;refine Wd (Qt ?_);refine To 9 rfl ?_;refine Wz 1 ?_;refine Wd (Qt ?_);refine To 10 rfl ?_;refine Wz 1 ?_;refine Wd (Qt ?_);refine To 11 rfl ?_;refine Wz 1 ?_;refine Wd (Qt ?_);refine To 12 rfl ?_;refine Ws 0 5 ?_;refine Wd (Qt ?_);refine Te ?_;refine Qc (Nz 3 ?_);refine Wk 2 (Ba 3) ?_;refine Wj 0 ?_;refine Wj 0 ?_;refine Wj 0 ?_;refine Wj 0 ?_;refine Wt 0 rfl rfl (fun hg=>Nc (eg_ hg rfl) (s:=y2.1) (hs:=hw7)) ?_;refine Wj 0 ?_;refine Wk 1 Pa ?_;refine Wd (Qc (Cr ?_));refine QS.sel [17,1,4,4,4,4,4,4,4,4,4,4,4,4,4] rfl ?_;refine QS.weak (fun u hu=>II (y:=⟨nm,pl,y2.2.2.1,wh,y2.2.2.2.1,y2.2.2.2.2⟩) v117 hu) ?_;refine QS.sel [1,1,1,1,1,1,1,1,1,1,1,1,0,0] rfl ?_;exact out1 rfl rfl (fun u hu=>grX1 (G:={G with nts:=⟨v117,G.nts.l++[⟨nm,pl,y2.2.2.1,wh,y2.2.2.2.1,y2.2.2.2.2⟩]⟩}) (kd:=1) (by have h9:=M1 (kd:=kd) (v:=v117) (x:=⟨nm,pl,y2.2.2.1,wh,y2.2.2.2.1,y2.2.2.2.2⟩) hkd (Gd hr1 hr2 hr3 hr4 hyr) rfl;rw[Bool.not_not]at h9;exact h9) hu)
 refine WS.appendT1 (C:=cNote) (a:=⟨nm,pl,y2.2.2.1,wh,y2.2.2.2.1,y2.2.2.2.2⟩) (j:=16) (jz:=0) sl35 zv91 rfl (by decide) rfl rfl rfl rfl (w:=un) hnx (by omega) (by omega) (fun _=>rfl) (fun _=>rfl) ?_;intro v117 hv117;refine Wd (Qt ?_);refine To 0 rfl ?_;refine Wz 1 ?_;refine Wd (Qt ?_);refine To 9 rfl ?_;refine Wz 1 ?_;refine Wd (Qt ?_);refine To 10 rfl ?_;refine Wz 1 ?_;refine Wd (Qt ?_);refine To 11 rfl ?_;refine Wz 1 ?_;refine Wd (Qt ?_);refine To 12 rfl ?_;refine Ws 0 5 ?_;refine Wd (Qt ?_);refine Te ?_;refine Qc (Nz 3 ?_);refine Wk 2 (Ba 3) ?_;refine Wj 0 ?_;refine Wj 0 ?_;refine Wj 0 ?_;refine Wj 0 ?_;refine Wt 0 rfl rfl (fun hg=>Nc (eg_ hg rfl) (s:=y2.1) (hs:=hw7)) ?_;refine Wj 0 ?_;refine Wk 1 Pa ?_;refine Wd (Qc (Cr ?_));refine QS.sel [17,1,4,4,4,4,4,4,4,4,4,4,4,4,4] rfl ?_;refine QS.weak (fun u hu=>II (y:=⟨nm,pl,y2.2.2.1,wh,y2.2.2.2.1,y2.2.2.2.2⟩) v117 hu) ?_;refine QS.sel [1,1,1,1,1,1,1,1,1,1,1,1,0,0] rfl ?_;exact out1 rfl rfl (fun u hu=>grX1 (G:={G with nts:=⟨v117,G.nts.l++[⟨nm,pl,y2.2.2.1,wh,y2.2.2.2.1,y2.2.2.2.2⟩]⟩}) (kd:=1) (by have h9:=M1 (kd:=kd) (v:=v117) (x:=⟨nm,pl,y2.2.2.1,wh,y2.2.2.2.1,y2.2.2.2.2⟩) hkd (Gd hr1 hr2 hr3 hr4 hyr) rfl;rw[Bool.not_not]at h9;exact h9) hu)
end Go.Proofs.YtllebkdchemabaaGreatDoor
