/- Merged texts of this proof. -/
import Derived.Test.YtllebkdchemabaaGreatDoorZp
import Derived.Test.YtllebkdchemabaaGreatDoorZk
set_option maxHeartbeats 8000000
namespace Go.Proofs.YtllebkdchemabaaGreatDoor
open Go.RowKit Go.Proofs Tryz
set_option maxRecDepth 100000
set_option linter.unusedVariables false
set_option linter.unusedSimpArgs false
theorem IG {α:Type} [Inhabited α] (q:α->Bool) (l:List α):(idxF q l = -1/\∀j:Int,0<=j->j<l.length->q (nth l j)=false)\/(0<=idxF q l/\idxF q l<l.length/\q (nth l (idxF q l))=true/\∀j:Int,0<=j->j<idxF q l->q (nth l j)=false):=by
 have hn:∀j:Int,0<=j->(h:j.toNat<l.length)->nth l j=l[j.toNat]:=fun j h0 h=>by simp[nth,List.getD,h]
 unfold idxF;cases hf:l.findIdx? q with
 |none=>
  rw[List.findIdx?_eq_none_iff]at hf;exact .inl ⟨rfl,fun j h0 h1=>hf _ (Ai h0 h1)⟩
 |some i=>
  rw[List.findIdx?_eq_some_iff_getElem]at hf;obtain⟨h1,h2,h3⟩:=hf;refine .inr ⟨by simp only;omega,by simp only;omega,?_,fun j h0 h4=>?_⟩
  ·simp only;rw[hn _ (by omega) (by omega)];exact h2
  simp only at h4;rw[hn j h0 (by omega)];have:=h3 j.toNat (by omega)
  simpa using this
def trmB (t:ByteArray):ByteArray:=⟨(Lib.trimSuffix (bl t) [10]).toArray⟩
theorem YJ (t:ByteArray):trmB (t++(⟨#[10]⟩:ByteArray))=t:=(Ng 10 t).2
theorem Oj (t:ByteArray):if idxF (fun x=>B6 (trmB x)) (linS t)<0 then Dl t<0 else(0<=Dl t/\idxF (fun x=>B6 (trmB x)) (linS t)=Dl t)\/(Dl t<0/\idxF (fun x=>B6 (trmB x)) (linS t)=((linS t).length:Int)-1):=by
 have hl:=GO t;have hp:=AE 10 t;have hll:linN t<=(linS t).length/\((linS t).length:Int)<=linN t+1:=by unfold linN;rw[hl];split<;>omega
 have hb:=Gj t
 have key:∀j:Int,0<=j->j<linN t->B6 (trmB (nth (linS t) j))=B6 (nth (Ab 10 t).dropLast j):=fun j h0 h1=>by
  have h2:j+1<(Ab 10 t).length:=by unfold linN at h1;omega
  rw[UL h0 (by omega),SX h0 h2,YJ];congr 1;have e:=Ii (l:=Ab 10 t) h0 (by omega);refine(JF ?_).symm;rw[List.dropLast_eq_take,List.getElem?_take,if_pos (by omega)];exact e
 have hdl:((Ab 10 t).dropLast.length:Int)=linN t:=by rw[List.length_dropLast];unfold linN;omega
 rcases IG (fun x=>B6 (trmB x)) (linS t)with⟨e,h⟩|⟨h1,h2,h3,h4⟩
 ·rw[e,if_pos (by decide)];rcases IG B6 (Ab 10 t).dropLast with⟨e2,-⟩|⟨g1,g2,g3,-⟩
  ·unfold Dl;rw[e2];decide
  exfalso;rw[hdl]at g2;have h5:=h _ g1 (by omega);rw[key _ g1 g2,g3]at h5;cases h5
 rw[if_neg (by omega)];rcases IG B6 (Ab 10 t).dropLast with⟨e2,g⟩|⟨g1,g2,g3,g4⟩
 ·refine .inr ⟨by unfold Dl;rw[e2];decide,?_⟩;rcases(show idxF (fun x=>B6 (trmB x)) (linS t)<linN t\/linN t<=idxF (fun x=>B6 (trmB x)) (linS t) by omega)with h5|h5
  ·exfalso;have h6:=g _ h1 (by omega);rw[key _ h1 h5,h6]at h3;cases h3
  omega
 refine .inl ⟨g1,?_⟩;rw[hdl]at g2;show idxF _ _=idxF B6 _;rcases(show idxF (fun x=>B6 (trmB x)) (linS t)<idxF B6 (Ab 10 t).dropLast\/idxF B6 (Ab 10 t).dropLast<idxF (fun x=>B6 (trmB x)) (linS t)\/idxF (fun x=>B6 (trmB x)) (linS t)=idxF B6 (Ab 10 t).dropLast by omega)with h5|h5|h5
 ·exfalso;have h6:=g4 _ h1 h5;rw[key _ h1 (by omega),h6]at h3;cases h3
 ·exfalso;have h6:=h4 _ g1 h5;rw[key _ g1 g2,g3]at h6;cases h6
 exact h5
def GlI (t:ByteArray) (z:Int):Prop:=(0<=Dl t/\z=Dl t)\/(Dl t<0/\z=((linS t).length:Int)-1)
theorem GlI.miss {t:ByteArray} (h:idxF (fun x=>B6 (trmB x)) (linS t)<0):GlI t (((linS t).length:Int)-1):=by
 have h2:=Oj t;rw[if_pos h]at h2;exact .inr ⟨h2,rfl⟩
theorem GlI.hit {t:ByteArray} (h:¬idxF (fun x=>B6 (trmB x)) (linS t)<0):GlI t (idxF (fun x=>B6 (trmB x)) (linS t)):=by
 have h2:=Oj t;rw[if_neg h]at h2;exact h2
theorem OI (t:ByteArray):linN t<=(linS t).length/\((linS t).length:Int)<=linN t+1:=by
 have hl:=GO t;unfold linN;rw[hl];split<;>omega
variable {z:Int}
theorem GlI.bd {t:ByteArray} (h:GlI t z): -1<=z/\z<(linS t).length:=by
 have hb:=Gj t;have hl:=OI t;rcases h with⟨h1,rfl⟩|⟨h1,rfl⟩<;>omega
theorem GlI.text {t:ByteArray} (h:GlI t z):catS ((linS t).take (z+1).toNat)=Ct t:=by
 have hb:=Gj t;unfold Ct;rcases h with⟨h1,rfl⟩|⟨h1,rfl⟩
 ·have h2:(Dl t+1).toNat<(Ab 10 t).length:=by unfold linN at hb;omega
  rw[if_pos h1,V8 h2,LM h2]
 rw[if_neg (by omega),List.take_of_length_le (by omega),Kq]
theorem HZ (l:List ByteArray) (n:Nat):(catS (l.take n)).size<=(catS l).size:=by
 have e:∀l:List ByteArray,(catS l).size=(l.flatMap bl).length:=fun l=>List.size_toArray;rw[e,e]
 conv=>rhs;rw[<-List.take_append_drop n l,List.flatMap_append,List.length_append]
 omega
theorem GlI.sz {t:ByteArray} (h:GlI t z):(Ct t).size<=t.size:=by
 have h2:=HZ (linS t) (z+1).toNat;rw[h.text,Kq]at h2;exact h2
theorem GlI.start {t:ByteArray} (h:GlI t z) (hv:(CR (Ct t)).2.2=0):z+1=EE t:=by
 unfold EE;rcases h with⟨h1,rfl⟩|⟨h1,rfl⟩
 ·rw[if_pos h1]
 rw[if_neg (by omega)];have e:Ct t=t:=by unfold Ct;rw[if_neg (by omega)]
 rw[e]at hv;have hl:=GO t;rw[if_pos (TO hv)]at hl;unfold linN;omega
variable {r:Room} {kd i:Int}
theorem XR {n:Nat} (hj:RdJ n r) (h:(finP r kd i).2.2=0):RdJ n (finP r kd i).1:=by
 unfold finP at h⊢;split at h
 ·cases h
 split at h
 ·rename_i h1 h2;exact absurd h h2
 rename_i h1 h2;rw[if_neg h1,if_neg h2];exact hj
theorem RdJ.le {n m:Nat} (h:RdJ n r) (hm:n<=m):RdJ m r:=⟨Nat.le_trans h.pls hm,Nat.le_trans h.ths hm,Nat.le_trans h.prs hm,Nat.le_trans h.wys hm,Nat.le_trans h.acs hm,Nat.le_trans h.aus hm,h.nm⟩
theorem OX:∀{ts:List ByteArray} {n:Nat} {r:Room} {kd i:Int},RdJ n r->(∀t∈ts,t.size<=70000)->(CW r kd i ts).2.2=0->RdJ (n+ts.length) (CW r kd i ts).1
 |[],n,r,kd,i,hj,_,h=>by
  have e:CW r kd i []=finP r kd i:=by unfold CW;rfl
  rw[e]at h⊢;exact XR hj h
 |[t],n,r,kd,i,hj,_,h=>by
  rw[C7]at h⊢;split at h
  ·rename_i h1;rw[if_pos h1];exact(XR hj h).le (by omega)
  cases h
 |t::t2::ts,n,r,kd,i,hj,hz,h=>by
  cases hl:BC r kd t with
  |none=>rw[FZ (by simp) hl]at h;cases h
  |some x=>
   rw[FY (x:=x.2) (k:=x.1) (by simp) hl]at h⊢;have h2:=OX (hj.add x.2 fun nm hn=>Nat.le_trans (J4 hl nm hn) (hz t List.mem_cons_self)) (fun y hy=>hz y (List.mem_cons_of_mem _ hy)) h;exact h2.le (by simp only[List.length_cons];omega)
theorem RX {t:ByteArray} (ht:t.size<=40000) (h:(CR t).2.2=0):RdJ 40001 (CR t).1:=by
 have h1:=OX (ts:=Ab 10 t) RdJ.zero (fun x hx=>Nat.le_trans (A6 hx) (by omega)) h;exact h1.le (by have:=Bn 10 t;omega)
def kdI (d:Bool) (ns:List NoteD):Int:=if d=true then 2 else if ns.length=0 then 0 else 1
theorem ML (t:ByteArray):BN (Ab 32 t)=some (nth (Ab 32 t) 0,(Ab 32 t).drop 1):=by
 have:=AE 32 t;cases h:Ab 32 t with
 |nil=>rw[h]at this;simp at this
 |cons a r=>rfl
theorem IY (G:GP) (kd:Int) (t:ByteArray):EY G kd t=if seq (nth (Ab 32 t) 0) A4 then(if kd=0 then(Eq ((Ab 32 t).drop 1)).map fun x=>.lock x.1 x.2 else none)
  else if seq (nth (Ab 32 t) 0) DI then(if kd<=1 then(BP G.rm.pls.l G.rm.ths.l G.lks ((Ab 32 t).drop 1)).map .note else none)
  else if seq (nth (Ab 32 t) 0) B0 then(if kd<=1 then(IK ((Ab 32 t).drop 1)).map .tries else none)else none:=by
 unfold EY;rw[ML];rfl
theorem Nl {G:GP} {t:ByteArray} (h0:seq (nth (Ab 32 t) 0) A4=true):EY G kd t=if kd=0 then(Eq ((Ab 32 t).drop 1)).map fun x=>.lock x.1 x.2 else none:=by rw[IY,if_pos h0]
theorem M5 {G:GP} {t:ByteArray} (h0:seq (nth (Ab 32 t) 0) A4=false) (h1:seq (nth (Ab 32 t) 0) DI=true):EY G kd t=if kd<=1 then(BP G.rm.pls.l G.rm.ths.l G.lks ((Ab 32 t).drop 1)).map .note else none:=by rw[IY,if_neg (by rw[h0];decide),if_pos h1]
theorem Kc {G:GP} {t:ByteArray} (h0:seq (nth (Ab 32 t) 0) A4=false) (h1:seq (nth (Ab 32 t) 0) DI=false) (h2:seq (nth (Ab 32 t) 0) B0=true):EY G kd t=if kd<=1 then(IK ((Ab 32 t).drop 1)).map .tries else none:=by rw[IY,if_neg (by rw[h0];decide),if_neg (by rw[h1];decide),if_pos h2]
theorem N1 {G:GP} {t:ByteArray} (h0:seq (nth (Ab 32 t) 0) A4=false) (h1:seq (nth (Ab 32 t) 0) DI=false) (h2:seq (nth (Ab 32 t) 0) B0=false):EY G kd t=none:=by rw[IY,if_neg (by rw[h0];decide),if_neg (by rw[h1];decide),if_neg (by rw[h2];decide)]
def lineQ (G:Game) (t:ByteArray) (G':Game) (b:Bool):Prop:=
 if b=true then∃x,EY G.p (kdI false G.nts.l) t=some x/\G'.p=addG G.p x else EY G.p (kdI false G.nts.l) t=none
variable {G:Game}
theorem Jf3 (h:G.nts.l=[]):kdI false G.nts.l=0:=by rw[h];rfl
theorem Jf5 (h:G.nts.l≠[]):kdI false G.nts.l=1:=by
 unfold kdI;rw[if_neg (by decide),if_neg (fun h2=>h (List.length_eq_zero_iff.1 h2))]
theorem VQ (G:Game):kdI false G.nts.l<=1:=by
 by_cases h:G.nts.l=[]
 ·rw[Jf3 h];decide
 rw[Jf5 h];decide
variable {G':Game} {b:Bool}
theorem lineQ.code {t:ByteArray} (h0:seq (nth (Ab 32 t) 0) A4=true) (h:QB G ((Ab 32 t).drop 1) G' b):lineQ G t G' b:=by
 unfold lineQ;rw[Nl h0];unfold QB at h;split
 ·rename_i hb;rw[if_pos hb]at h;obtain⟨h1,x,h2,h3⟩:=h;exact⟨_,by rw[if_pos (Jf3 h1),h2];rfl,h3⟩
 rename_i hb;rw[if_neg hb]at h;rcases h with h|h
 ·rw[if_neg (by rw[Jf5 h];decide)]
 rw[h];split<;>rfl
theorem Jeo (G:Game):G.p.rm.pls.l=G.rm.pls.l:=Jie G.rm
theorem Jbx (G:Game):G.p.rm.ths.l=G.rm.ths.l:=Jgu G.rm
theorem lineQ.note {t:ByteArray} (h0:seq (nth (Ab 32 t) 0) A4=false) (h1:seq (nth (Ab 32 t) 0) DI=true) (h:I5 G ((Ab 32 t).drop 1) G' b):lineQ G t G' b:=by
 unfold lineQ;rw[M5 h0 h1,if_pos (VQ G),Jeo,Jbx];show if b=true then∃x,(BP G.rm.pls.l G.rm.ths.l G.lks.l ((Ab 32 t).drop 1)).map LnG.note=some x/\G'.p=addG G.p x else(BP G.rm.pls.l G.rm.ths.l G.lks.l ((Ab 32 t).drop 1)).map LnG.note=none
 unfold I5 at h;split
 ·rename_i hb;rw[if_pos hb]at h;obtain⟨n,h2,h3⟩:=h;exact⟨_,by rw[h2];rfl,h3⟩
 rename_i hb;rw[if_neg hb]at h;rw[h];rfl
theorem lineQ.tries {t:ByteArray} {n:Int} (h0:seq (nth (Ab 32 t) 0) A4=false) (h1:seq (nth (Ab 32 t) 0) DI=false) (h2:seq (nth (Ab 32 t) 0) B0=true) (h3:((Ab 32 t).drop 1).length=1) (hb:b=numO ((Ab 32 t).drop 1)) (hn:n=nth (numD ((Ab 32 t).drop 1)) 0):lineQ G t {G with tr:=n} b:=by
 unfold lineQ;rw[Kc h0 h1 h2,if_pos (VQ G)];subst hb hn
 generalize (Ab 32 t).drop 1=ws at h3
 match ws,h3 with
 |[a],_=>
  have e:numO [a]=(numB 3 a).isSome:=by simp[numO]
  have e2:IK [a]=numB 3 a:=rfl;rw[e,e2];show if(numB 3 a).isSome=true then∃x,(numB 3 a).map LnG.tries=some x/\({G with tr:=(numB 3 a).getD 0}:Game).p=addG G.p x else _
  cases hn:numB 3 a with
  |none=>rfl
  |some n=>exact⟨_,rfl,rfl⟩
theorem lineQ.tries0 {t:ByteArray} (h0:seq (nth (Ab 32 t) 0) A4=false) (h1:seq (nth (Ab 32 t) 0) DI=false) (h2:seq (nth (Ab 32 t) 0) B0=true) (h3:¬((Ab 32 t).drop 1).length=1):lineQ G t G' false:=by
 unfold lineQ;rw[Kc h0 h1 h2,if_pos (VQ G),if_neg (by decide),show IK ((Ab 32 t).drop 1)=none from if_neg h3];rfl
theorem lineQ.bad {t:ByteArray} (h0:seq (nth (Ab 32 t) 0) A4=false) (h1:seq (nth (Ab 32 t) 0) DI=false) (h2:seq (nth (Ab 32 t) 0) B0=false):lineQ G t G' false:=by
 unfold lineQ;rw[N1 h0 h1 h2,if_neg (by decide)]
theorem V2 {pls:Wds} {ths:List Thing} {lks:List LockD} {ws:Wds} {n:NoteP} (h:BP pls ths lks ws=some n):n.nm∈ws:=by
 unfold BP at h;obtain⟨⟨a,b⟩,h1,h2⟩:=Option.bind_eq_some_iff.1 h;obtain⟨_,_,h3⟩:=Option.bind_eq_some_iff.1 h2;obtain⟨_,_,h4⟩:=Option.bind_eq_some_iff.1 h3;obtain⟨_,_,h5⟩:=Option.bind_eq_some_iff.1 h4;obtain⟨_,_,h6⟩:=Option.map_eq_some_iff.1 h5;rw[<-h6];exact EN h1
theorem Lo {G:GP} {t:ByteArray} {x:LnG} (h:EY G kd t=some x):(seq (nth (Ab 32 t) 0) B0=false/\kd=0/\∃a c,x = .lock a c)\/(seq (nth (Ab 32 t) 0) B0=false/\∃n,x = .note n/\n.nm∈Ab 32 t)\/(seq (nth (Ab 32 t) 0) B0=true/\∃n,x = .tries n):=by
 have no:∀{a b c:ByteArray},seq a b=true->seq b c=false->seq a c=false:=fun h1 h2=>by rw[C9.1 h1];exact h2
 cases h0:seq (nth (Ab 32 t) 0) A4 with
 |true=>
  rw[Nl h0]at h;split at h
  ·rename_i hk;obtain⟨a,_,h2⟩:=Option.map_eq_some_iff.1 h;exact .inl ⟨no h0 (by decide+kernel),hk,_,_,h2.symm⟩
  cases h
 |false=>
  cases h1:seq (nth (Ab 32 t) 0) DI with
  |true=>
   rw[M5 h0 h1]at h;split at h
   ·obtain⟨a,h2,h3⟩:=Option.map_eq_some_iff.1 h;exact .inr (.inl ⟨no h1 (by decide+kernel),a,h3.symm,List.mem_of_mem_drop (V2 h2)⟩)
   cases h
  |false=>
   cases h2:seq (nth (Ab 32 t) 0) B0 with
   |true=>
    rw[Kc h0 h1 h2]at h;split at h
    ·obtain⟨a,_,h3⟩:=Option.map_eq_some_iff.1 h;exact .inr (.inr ⟨rfl,a,h3.symm⟩)
    cases h
   |false=>rw[N1 h0 h1 h2]at h;cases h
def game0:Game:=⟨room0,⟨.slice none 0 0,[]⟩,⟨.slice none 0 0,[]⟩,⟨.slice none 0 0,[]⟩,0⟩
def FS (r:Room):Game:={game0 with rm:=r}
def Gg (w:World) (x:GP×Int×Int):Ending->World->Prop:=fun e w'=>∃y:Game,(y.p=x.1/\∃u0,GameOk u0 y)/\RetF w (.tuple #[.agg (gcl y).toArray,.int .i64 x.2.1,.int .i64 x.2.2]) (roS fun u=>GameOk u y) e w'
theorem OH (u:World):GameOk u game0:=⟨HP u,SlT.nil _ _,SlT.nil _ _,SlT.nil _ _⟩
variable {w0 u:World} {L:List SA}
theorem Cj {x:GP×Int×Int} {n e:Int} (hx:x=(gp0,n,e)) (hu:St w0.heap.size w0 L u):Gg w0 x (.returned (.tuple #[.agg (gcl game0).toArray,.int .i64 n,.int .i64 e])) u:=by
 subst hx;exact⟨game0,⟨rfl,u,OH u⟩,retR (p:=fun u=>GameOk u game0) (fun _ u _=>OH u) u hu⟩
variable {gb:Nat} {T:TypeId} {cs:List Value}
theorem H8 {S:Nat->Prop} (h:Star (A5 gb T cs G++L) S u):GameOk u G:=by
 have he:Ks G u:=Star.ro (L:=A5 gb T cs G++L) (j:=4) rfl h;exact⟨he.1,⟨Star.osl (L:=A5 gb T cs G++L) (j:=1) rfl h,fun _ _=>trivial⟩,⟨Star.osl (L:=A5 gb T cs G++L) (j:=2) rfl h,he.2.1⟩,⟨Star.osl (L:=A5 gb T cs G++L) (j:=3) rfl h,he.2.2⟩⟩
theorem V5 {x:GP×Int×Int} (hx:x=(G.p,0,0)) (hu:St w0.heap.size w0 (A5 gb T cs G++L) u):Gg w0 x (.returned (.tuple #[.agg (gcl G).toArray,.int .i64 0,.int .i64 0])) u:=by
 subst hx;exact⟨G,⟨rfl,u,H8 hu.star⟩,retR (p:=fun u=>GameOk u G) (fun S u h=>H8 h) u hu⟩
variable {n0:Nat}
theorem gm0 {A:SA} {y:Room} (h:St n0 w0 [blk gb (gcl (FS y)) 37,roS (fun u=>RoomOk u y),A] u):St n0 w0 [gm gb (FS y),A] u:=by
 have h1:=(((h.osl0 (e:=91) (size:=11)).osl0 (e:=48) (size:=1)).osl0 (e:=85) (size:=2)).sel [4,0,0,0,0,0] rfl;have h2:=St.roMap (q:=Ks (FS y)) (fun u h=>⟨h,fun _ h=>(by cases h),fun _ h=>(by cases h)⟩) h1;exact St.pack (L1:=A5 gb 37 (gcl (FS y)) (FS y)) (h2.sel [4,1,1,1,0,0] rfl)
structure PgI (t0:ByteArray) (G:Game) (i:Int) (d:Bool):Prop where
 v:D2 t0=Hn G.p (kdI d G.nts.l) i ((Ab 10 t0).drop i.toNat)
 i0:0<=i
 i1:i<=linN t0
 rm:RdJ 40001 G.rm
 lks:G.lks.l.length<=i.toNat
 cds:G.cds.l.length<=i.toNat
 nts:G.nts.l.length<=i.toNat
 nm:∀x∈G.nts.l,x.nm.size<=70000
variable {t0:ByteArray}
theorem PgI.start {y:Room} (hz:GlI t0 z) (ht:t0.size<=40000) (he:y.e=(CR (Ct t0)).1.e) (h0:(CR (Ct t0)).2.2=0):PgI t0 (FS y) (z+1) false:=by
 have hb:=KN t0;have hs:=hz.start h0;have hsz:=hz.sz;refine⟨?_,by omega,by omega,(RX (by omega) h0).en he,Nat.zero_le _,Nat.zero_le _,Nat.zero_le _,fun _ h=>(by cases h)⟩;rw[Ox rfl h0,hs,<-he];rfl
theorem QL {α:Type} [Inhabited α] {l:List α} (h0:0<=i) (h1:i<l.length):l.drop i.toNat=nth l i::l.drop (i+1).toNat:=by
 have h2:i.toNat<l.length:=by omega
 rw[List.drop_eq_getElem_cons h2,show(i+1).toNat=i.toNat+1 by omega];simp[nth,List.getD,h2]
theorem PgI.next (h:PgI t0 G i false) (hi:i+1<(Ab 10 t0).length) (ht:t0.size<=40000) (hq:lineQ G (nth (Ab 10 t0) i) G' true):PgI t0 G' (i+1) (seq (nth (Ab 32 (nth (Ab 10 t0) i)) 0) B0):=by
 have hi0:=h.i0;unfold lineQ at hq;rw[if_pos rfl]at hq;obtain⟨x,hx,hG⟩:=hq;have hz:(nth (Ab 10 t0) i).size<=t0.size:=A6 (Ai hi0 (by omega));have hv:=h.v;rw[QL hi0 (by omega),Ol (x:=x) (by rw[List.length_drop];omega) hx,<-hG]at hv
 have e1:G'.rm.e=G.rm.e:=by
  have h2:=congrArg GP.rm hG;cases x<;>exact h2
 have e2:G'.lks.l=(addG G.p x).lks:=congrArg GP.lks hG;have e3:G'.cds.l.map Sl.l=(addG G.p x).cds:=congrArg GP.cds hG;have e4:G'.nts.l.map NoteD.p=(addG G.p x).nts:=congrArg GP.nts hG;have l3:G'.cds.l.length=(addG G.p x).cds.length:=by rw[<-e3,List.length_map]
 have l4:G'.nts.l.length=(addG G.p x).nts.length:=by rw[<-e4,List.length_map]
 have o1:=h.lks;have o2:=h.cds;have o3:=h.nts;have p1:G.p.cds.length=G.cds.l.length:=List.length_map _;have p2:G.p.nts.length=G.nts.l.length:=List.length_map _;have p3:G.p.lks.length=G.lks.l.length:=rfl;have hi1:i+1<=linN t0:=by unfold linN;omega
 have en:(i+1).toNat=i.toNat+1:=by omega
 have old:∀n∈G.p.nts,n.nm.size<=70000:=fun n hn=>by
  obtain⟨y,hy,rfl⟩:=List.mem_map.1 hn;exact h.nm y hy
 have nms:(∀n∈(addG G.p x).nts,n.nm.size<=70000)->∀y∈G'.nts.l,y.nm.size<=70000:=fun hn y hy=>hn y.p (by rw[<-e4];exact List.mem_map_of_mem hy);rcases Lo hx with⟨hs,hk,a,c,rfl⟩|⟨hs,n,rfl,hn⟩|⟨hs,n,rfl⟩
 ·rw[hs];have l2:G'.lks.l.length=G.lks.l.length+1:=by rw[e2];simp[addG,Game.p]
  have l5:(addG G.p (.lock a c)).cds.length=G.p.cds.length+1:=by simp[addG]
  have l6:(addG G.p (.lock a c)).nts=G.p.nts:=rfl
  have hk0:kdI false G'.nts.l=0:=by
   unfold kdI at hk⊢;rw[if_neg (by decide)]at hk⊢;split at hk
   ·rename_i h9;rw[if_pos (by rw[l4,l6,p2,h9])]
   cases hk
  refine⟨?_,by omega,hi1,h.rm.en e1,by omega,by omega,by rw[l4,l6];omega,nms old⟩;rw[hv,hk0];rfl
 ·rw[hs];have l2:G'.lks.l=G.lks.l:=e2;have l5:(addG G.p (.note n)).cds=G.p.cds:=rfl;have l6:(addG G.p (.note n)).nts.length=G.p.nts.length+1:=by simp[addG]
  have hk0:kdI false G'.nts.l=1:=by
   unfold kdI;rw[if_neg (by decide),if_neg (by omega)]
  refine⟨?_,by omega,hi1,h.rm.en e1,by rw[l2];omega,by rw[l3,l5];omega,by omega,nms fun m hm=>?_⟩
  ·rw[hv,hk0];rfl
  rcases List.mem_append.1 hm with hm|hm
  ·exact old m hm
  rw[List.mem_singleton]at hm;subst hm;have:=A6 hn;omega
 rw[hs];have l2:G'.lks.l=G.lks.l:=e2;have l5:(addG G.p (.tries n)).cds=G.p.cds:=rfl;have l6:(addG G.p (.tries n)).nts=G.p.nts:=rfl;refine⟨?_,by omega,hi1,h.rm.en e1,by rw[l2];omega,by rw[l3,l5];omega,by rw[l4,l6];omega,nms old⟩;rw[hv];rfl
variable {d:Bool}
theorem PgI.bad (h:PgI t0 G i d) (hi:i<(linS t0).length) (hq:i+1<(Ab 10 t0).length->d=false->lineQ G (nth (Ab 10 t0) i) G' false):D2 t0=(gp0,i+1,4):=by
 have hi0:=h.i0;have hi1:=h.i1;have hll:=OI t0;have hv:=h.v;have hp:=AE 10 t0;have h1:i<(Ab 10 t0).length:=by unfold linN at hi1;omega
 rw[QL hi0 h1]at hv
 by_cases h2:i+1<(Ab 10 t0).length
 ·rw[hv];refine Pj (by rw[List.length_drop];omega) ?_;cases d with
  |false=>exact hq h2 rfl
  |true=>
   have e:kdI true G.nts.l=2:=rfl;rw[e];cases hx:EY G.p 2 (nth (Ab 10 t0) i)with
   |none=>rfl
   |some x=>
    exfalso;rw[IY]at hx;rw[if_neg (show¬(2:Int)=0 by decide),if_neg (show¬(2:Int)<=1 by decide),if_neg (show¬(2:Int)<=1 by decide)]at hx;simp at hx
 rw[show(Ab 10 t0).drop (i+1).toNat=[]from List.drop_eq_nil_of_le (by omega),GK,if_neg]at hv
 ·exact hv
 rintro⟨h3,_⟩;have hl:=GO t0
 have h4:seq (Hk t0) ⟨#[]⟩=true:=by
  unfold Hk;rw[show((Ab 10 t0).length:Int)-1=i by omega];exact h3
 rw[if_pos h4]at hl;omega
theorem PgI.fin (h:PgI t0 G i d) (hi:¬i<(linS t0).length):D2 t0=if d=true then finG G.p else(gp0,((linS t0).length:Int)+1,4):=by
 have hi0:=h.i0;have hi1:=h.i1;have hll:=OI t0;have hv:=h.v;have hp:=AE 10 t0;have hl:=GO t0;have e:i=linN t0:=by omega
 have h4:seq (Hk t0) ⟨#[]⟩=true:=by
  cases hs:seq (Hk t0) ⟨#[]⟩with
  |true=>rfl
  |false=>rw[hs,if_neg (by decide)]at hl;unfold linN at hi1;omega
 rw[if_pos h4]at hl;rw[QL hi0 (by unfold linN at e;omega),show(Ab 10 t0).drop (i+1).toNat=[]from List.drop_eq_nil_of_le (by unfold linN at e;omega),GK]at hv
 have h5:seq (nth (Ab 10 t0) i) ⟨#[]⟩=true:=by
  unfold Hk at h4;rw[show i=((Ab 10 t0).length:Int)-1 by unfold linN at e;omega];exact h4
 rw[hv];cases d with
 |true=>rw[if_pos ⟨h5,rfl⟩,if_pos rfl]
 |false=>
  rw[if_neg (by
   rintro⟨_,h6⟩;have:=VQ G
   omega),if_neg (by decide),show i=((linS t0).length:Int) by unfold linN at e;omega]
theorem PgI.gmb (h:PgI t0 G i d) (ht:t0.size<=40000):GmB G/\G.rm.ths.l.length<=70000/\NmG G:=by
 have hi1:=h.i1;have hl:=Bn 10 t0;have o1:=h.lks;have o2:=h.cds;have o3:=h.nts;have hn:i.toNat<=40001:=by unfold linN at hi1;omega
 exact⟨⟨by omega,by omega,by omega⟩,Nat.le_trans h.rm.ths (by decide),⟨h.rm.nm,fun x hx=>⟨h.nm x hx,trivial⟩⟩⟩
theorem St.game (h:St n0 w0 (A5 gb T cs G++L) u):GameOk u G:=H8 h.star
theorem J5 (h:RoomOk u r):∀v∈Room.cells r,v.oneCell'=true:=fun v hv=>by
 simp[Room.cells]at hv;rcases hv with rfl|rfl|rfl|rfl|rfl|rfl|rfl|rfl
 ·exact Sl.one h.pls
 ·exact Sl.one h.ths
 ·exact Sl.one h.prs
 ·exact Sl.one h.wys
 ·exact Sl.one h.acs
 ·exact Sl.one h.aus
 ·rfl
 exact Sl.one h.gl
theorem Oe (h:GameOk u G):∀v∈gcl G,v.oneCell'=true:=fun v hv=>by
 have e:gcl G=Room.cells G.rm++[G.lks.v,G.cds.v,G.nts.v,.int .i64 G.tr]:=rfl;rw[e]at hv;rcases List.mem_append.1 hv with hv|hv
 ·exact J5 h.rm v hv
 simp at hv;rcases hv with rfl|rfl|rfl|rfl
 ·exact Sl.one h.lks
 ·exact Sl.one h.cds
 ·exact Sl.one h.nts
 rfl
theorem V0 {l:List ByteArray} {x:ByteArray} (h:x∈l):x.size<=(catS l).size:=by
 obtain⟨a,b,rfl⟩:=List.append_of_mem h;have e:(catS (a++x::b)).size=((a++x::b).flatMap bl).length:=List.size_toArray;have e2:(bl x).length=x.size:=Bp x;rw[e,List.flatMap_append,List.flatMap_cons,List.length_append,List.length_append];omega
theorem Jhn {e:TypeId} {v:Value} {xs:List ByteArray} (h:St n0 w0 (oT cStr e v xs::L) u):St n0 w0 (roT cStr ⟨v,xs⟩::L) u:=
 St.toRo (A:=oT cStr e v xs) (p:=fun u=>SlT cStr u ⟨v,xs⟩) (fun S u h=>⟨Star.osl (L:=[oT cStr e v xs]) (j:=0) rfl ⟨S,fun _ h=>h,h,trivial⟩,fun _ _=>trivial⟩) h
theorem Jb3 {t x:ByteArray} (h:x∈linS t):x.size<=t.size:=by
 have h2:=V0 h;rw[Kq]at h2;exact h2
theorem Vx {t:ByteArray} (v:Value) (hs:seq (nth (aftS 10 t) (((aftS 10 t).length:Int)-1)) ⟨#[]⟩=true) (h:SlT cStr u ⟨v,aftS 10 t⟩):SlT cStr u ⟨sub2 1 v 0 (((aftS 10 t).length:Int)-1).toNat,linS t⟩:=by
 have hp:=AE 10 t;have ha:=EI 10 t;have h2:=h.cut (lo:=0) (hi:=(((aftS 10 t).length:Int)-1).toNat) (by omega) (by show _<=(aftS 10 t).length;omega)
 have h3:seq (Hk t) ⟨#[]⟩=true:=by
  rw[HQ (by omega) (by omega)]at hs;unfold Hk;rw[<-ha];exact hs
 have e:linS t=(aftS 10 t).take (((aftS 10 t).length:Int)-1).toNat:=by
  unfold linS;rw[if_pos h3,List.dropLast_eq_take];congr 1;omega
 rw[e];exact h2
theorem Va {t:ByteArray} {v:Value} (hs:seq (nth (aftS 10 t) (((aftS 10 t).length:Int)-1)) ⟨#[]⟩=false) (h:SlT cStr u ⟨v,aftS 10 t⟩):SlT cStr u ⟨v,linS t⟩:=by
 have hp:=AE 10 t;have ha:=EI 10 t
 have h3:seq (Hk t) ⟨#[]⟩=false:=by
  rw[HQ (by omega) (by omega)]at hs;unfold Hk;rw[<-ha];exact hs
 have e:linS t=aftS 10 t:=if_neg (by rw[h3];decide);rw[e];exact h
theorem IV {c:UInt8}:∀{l x:List UInt8},x∈AO c l->c∉x
 |[],x,h=>by
  rw[AO,List.mem_singleton]at h;subst h;simp
 |b::l,x,h=>by
  have ih:=fun y hy=>IV (c:=c) (l:=l) (x:=y) hy;rw[AO]at h;split at h
  ·rcases List.mem_cons.1 h with rfl|h
   ·simp
   exact ih x h
  rename_i hb;cases hs:AO c l with
  |nil=>have:=C4 c l;rw[hs]at this;simp at this
  |cons y ys=>
   rw[hs]at h ih;rcases List.mem_cons.1 h with rfl|h
   ·intro hm;rcases List.mem_cons.1 hm with e|hm
    ·exact hb e.symm
    exact ih y (by simp) hm
   exact ih x (by simp[h])
theorem MW {c:UInt8} {t x:ByteArray} (h:x∈Ab c t):c∉bl x:=by
 obtain⟨y,hy,rfl⟩:=List.mem_map.1 h;have:=IV hy
 simpa using this
theorem Jgd (t0:ByteArray) (i:Int) (w:World) (h0:0<=i) (h1:i<(linS t0).length) (ht:t0.size<=100000):
  Calls prog 25 #[.string (nth (linS t0) i),.string ⟨#[10]⟩] w (RetB w (.tuple #[.string (nth (Ab 10 t0) i),.bool (decide (i+1<((Ab 10 t0).length:Int)))])):=by
 have hl:=GO t0
 have hin:i<(Ab 10 t0).length:=by
  rw[hl]at h1;split at h1<;>omega
 have hm:=Ai (xs:=Ab 10 t0) h0 hin;have hz:=A6 hm;rw[UL h0 h1]
 by_cases h:i+1<((Ab 10 t0).length:Int)
 ·rw[SX h0 h,decide_eq_true h];have q:=XE 10 (nth (Ab 10 t0) i++(⟨#[10]⟩:ByteArray)) w (by rw[ByteArray.size_append];have:(⟨#[10]⟩:ByteArray).size=1:=rfl;omega);rw[(Ng 10 _).1,(Ng 10 _).2]at q;exact q
 rw[HQ h0 (by omega),decide_eq_false h];have q:=XE 10 (nth (Ab 10 t0) i) w (by omega);have hs:=Jdf (MW hm);rw[hs,Lib.trimSuffix,if_neg (by rw[hs];decide)]at q;exact q
theorem ZD (t0:ByteArray) (w:World) (ht:t0.size<=1000000):
  Calls prog 20 #[.string t0] w (RetB w (.bool (B6 (trmB t0)))):=by
 refine En func20 ?_;refine Nz 1 ?_;refine Nx 1 ?_;refine Wk 1 (Cb rfl rfl Jhf (fun u hu=>Tp 10 t0 u ht)) ?_;refine Nx 1 ?_;refine Wk 1 (Ah rfl rfl) ?_;refine We 0 ?_;refine Wf 0 rfl rfl (fun hg=>Cb rfl (ec_ (eg_ hg rfl) (ec_ rfl en_)) Jg5 (fun u hu=>Vv _ _ u)) ?_;refine Wk 1 Po ?_;exact Wd (Qc (Cr (out1 rfl rfl (Af rfl))))
theorem Wi (a:Addr) (t0:ByteArray) (w:World) (g:Sl ByteArray) (hG:GOk w g) (gk:Sl ByteArray) (hK:KOk w gk) (hM:MaxOk w) (hW8:WOk w) (hU:U8Ok w) (hE:EOk w a) (ht:t0.size<=40000):
  Calls prog 6 #[.string t0] w (Gg w (D2 t0)):=by
 have hsl:=Bn 10 t0;have hsp:=AE 10 t0;have hal:=EI 10 t0;have hll:=OI t0;have hlN:linN t0=((Ab 10 t0).length:Int)-1:=rfl;refine En func6 ?_;refine Nz 0 ?_;refine Wq 2 zv37 fun b2 hb2=>?_;refine Nv 1 ?_;refine Wk 1 (Al underlying9 rfl) ?_;refine Wp ?_ ?_<;>intro hc1
 ·exact absurd hc1 (by omega)
 refine Ck (Qc (Nz 1 ?_));refine Wc rfl rfl Jhy (fun u hu=>YW 10 t0 u (hM.st hu) (by omega)) (fun _=>rfl) ?_;intro v19 hv19;refine WS.weak (fun u hu=>Jhn hu) ?_;refine Wz 1 ?_;refine Wd (Qc ?_);refine CS.cut (σ:=Value) [20,21,22,23,24,25,26,27,28,29,30,31] (fun s=>[(5,s)]) (fun s=>[blk b2 (gcl game0) 37,roT cStr ⟨v19,aftS 10 t0⟩]) (fun s=>∀u,SlT cStr u ⟨v19,aftS 10 t0⟩->SlT cStr u ⟨s,linS t0⟩) (fun _ _=>rfl) ?_ ?_
 ·refine Cs ?_;refine CS.roE (j:=0) rfl fun hwx=>?_;obtain⟨uw,hw⟩:=hwx
  have hAu:((⟨v19,aftS 10 t0⟩:Sl ByteArray).l.length:Int)=(Ab 10 t0).length:=by
   show((aftS 10 t0).length:Int)=_;omega
  refine Ny 2 ?_;refine Wk 0 (Nc (s:=⟨v19,aftS 10 t0⟩)) ?_;refine Wk 0 Zb ?_;refine Wk 0 (Xc (s:=⟨v19,aftS 10 t0⟩) (h0:=by show(0:Int)<=((aftS 10 t0).length:Int)-1;omega) (h1:=by show((aftS 10 t0).length:Int)-1<((aftS 10 t0).length:Int);omega)) ?_;refine Wk 0 (Vb 0 rfl (s:=⟨v19,aftS 10 t0⟩) (h:=⟨by show(0:Int)<=((aftS 10 t0).length:Int)-1;omega,by show((aftS 10 t0).length:Int)-1<((aftS 10 t0).length:Int);omega⟩)) ?_;refine Wk 0 (Ah rfl rfl) ?_;refine Wp ?_ ?_<;>intro hc2
  ·refine Ny 2 ?_;refine Wk 0 (Nc (s:=⟨v19,aftS 10 t0⟩)) ?_;refine Wk 0 Zb ?_;refine Wk 1 (Cl sl23 rfl rfl hw.sp (by show(0:Int)<=((aftS 10 t0).length:Int)-1;omega) (by show((aftS 10 t0).length:Int)-1<=((aftS 10 t0).length:Int);omega)) ?_;refine Wd ?_;refine QS.sel [1,0] rfl ?_;exact QS.head ((sub2 1 v19 0 (((aftS 10 t0).length:Int)-1).toNat)) rfl rfl (fun u h=>Vx v19 hc2 h)
  refine Ck ?_;refine QS.sel [1,0] rfl ?_;exact QS.head (v19) rfl rfl (fun u h=>Va hc2 h)
 intro ls t hs;have hlp:=hs;have hLu:((⟨ls,linS t0⟩:Sl ByteArray).l.length:Int)=((linS t0).length:Int):=rfl;refine CS.roE (j:=1) rfl fun hwx=>?_;obtain⟨uw,hw⟩:=hwx;have hwl:=hlp uw hw;refine Nz 1 ?_;refine Wk 1 (Cb rfl rfl Jgh (fun u hu=>Ji ⟨ls,linS t0⟩ u (hlp u (hu.ro (j:=1) rfl)) _ [] (fun x=>B6 (trmB x)) Jhl (fun u2 _ i h0 h1=>ZD (nth (linS t0) i) u2 (Nat.le_trans (Jb3 (Ai h0 h1)) (by omega))))) ?_;refine Wd (Qc ?_);refine CS.cut (σ:=Int) [34,35,36,37,38] (fun s=>[(6,.int .i64 s)]) (fun s=>[blk b2 (gcl game0) 37,roT cStr ⟨v19,aftS 10 t0⟩]) (fun s=>GlI t0 s) (fun _ _=>rfl) ?_ ?_
 ·refine Nz 2 ?_;refine Wp ?_ ?_<;>intro hc3
  ·refine Ny 1 ?_;refine Wk 0 (Nc (s:=⟨ls,linS t0⟩)) ?_;refine Wk 1 Zb ?_;exact Wd (QS.head ((((linS t0).length:Int)-1)) rfl rfl (GlI.miss hc3))
  exact Ck (QS.head ((idxF (fun x=>B6 (trmB x)) (linS t0))) rfl rfl (GlI.hit hc3))
 intro z t hs;have hzg:=hs;have hzb:=hzg.bd;have hzz:=hzg.sz;have hcl:((⟨ls,linS t0⟩:Sl ByteArray).cut 1 0 (z+1).toNat).l=(linS t0).take (z+1).toNat:=rfl;have hct:catS ((⟨ls,linS t0⟩:Sl ByteArray).cut 1 0 (z+1).toNat).l=Ct t0:=by rw[hcl];exact hzg.text
 refine Nz 2 ?_;refine Wk 0 Za ?_;refine Wk 0 (Cl sl23 rfl rfl hwl.sp (by omega) (by show z+1<=((linS t0).length:Int);omega)) ?_;refine Wk 0 (Cb rfl rfl Jge (fun u hu=>hct▸Jax ((⟨ls,linS t0⟩:Sl ByteArray).cut 1 0 (z+1).toNat) u ((hlp u (hu.ro (j:=1) rfl)).cut (lo:=0) (hi:=(z+1).toNat) (Nat.zero_le _) (by show _<=(linS t0).length;omega)) (by rw[hcl];rw[List.length_take];omega) (by rw[hct];omega))) ?_;refine Wc rfl rfl Jh4 (fun u hu=>Y0 (Ct t0) u g (hG.st hu) gk (hK.st hu) (hM.st hu) (by omega)) (fun _=>rfl) ?_;rintro y ⟨hy1,uy,hy2⟩;refine Wz 5 ?_;refine WS.storeP rfl (j:=1) rfl (vs:=Room.cells y) rfl rfl (J5 hy2) tk32 rfl rfl ?_;refine Wz 2 ?_;refine Nv 2 ?_;refine Wp ?_ ?_<;>intro hc4
 ·have hbad:=KZ rfl hc4;refine Nz 0 ?_;refine Wk 2 (Db H9 zv37) ?_;refine Wv 2 1 ?_;exact Wd (Qc (Cr (Qr (outR (B9 rfl (Ag (j:=1) rfl rfl tk37) rfl rfl) (fun u hu=>Cj hbad hu)))))
 have hst:=PgI.start hzg ht hy1 (by omega);refine Ck (Qc (Nz 1 ?_));refine Nv 1 ?_;refine Wk 1 Za ?_;refine Nu ?_;refine CS.sel [1,0,0] rfl ?_;refine CS.weak (fun u hu=>gm0 (y:=y) hu) ?_;refine CS.loopM (σ:=Game×Int×Bool) (rsL [4,4,8,12,57,126]) (fun s=>[(3,.int .i64 s.2.1),(7,.bool s.2.2)]) (fun s=>[gm b2 s.1,roT cStr ⟨v19,aftS 10 t0⟩]) (fun s=>PgI t0 s.1 s.2.1 s.2.2) (fun s=>((linS t0).length-s.2.1).toNat) (FS y,z+1,false) (fun _ _=>rfl) rfl rfl hst ?_;intro q t hs;have hqi:=hs;have hi0:=hqi.i0;have hi1:=hqi.i1;have hgb:=hqi.gmb ht;refine Cs (Nz 2 ?_);refine Wk 1 (Nc (s:=⟨ls,linS t0⟩)) ?_;refine Wp ?_ ?_<;>intro hc5
 ·have hlt:q.2.1<(linS t0).length:=by omega
  have hin:q.2.1<(Ab 10 t0).length:=by omega
  have hTz:(nth (Ab 10 t0) q.2.1).size<=t0.size:=A6 (Ai hi0 hin);have hWz:∀x∈(Ab 32 (nth (Ab 10 t0) q.2.1)),x.size<=(nth (Ab 10 t0) q.2.1).size:=fun x hx=>A6 hx;have hWp:=AE 32 (nth (Ab 10 t0) q.2.1);have hWn:=Bn 32 (nth (Ab 10 t0) q.2.1);refine Ck (Qc (Cs (Ce (Nz 2 ?_))));refine Wk 0 (Xc (s:=⟨ls,linS t0⟩) (h0:=hi0) (h1:=by show q.2.1<((linS t0).length:Int);omega)) ?_;refine Wk 0 (Da (s:=⟨ls,linS t0⟩) (jj:=1) rfl hlp rfl ⟨hi0,by show q.2.1<((linS t0).length:Int);omega⟩ tk9) ?_;refine Wk 5 (Cb rfl rfl Jhh (fun u hu=>Jgd t0 q.2.1 u hi0 (by omega) (by omega))) ?_;refine Nx 1 ?_;refine Wc rfl rfl U0 (fun u hu=>M9 32 (nth (Ab 10 t0) q.2.1) u (hM.st hu) (by omega)) (fun _=>rfl) ?_;rintro vW ⟨uW,hvW⟩;have hpc:∀u,SlT cStr u ⟨vW,(Ab 32 (nth (Ab 10 t0) q.2.1))⟩->SlT cStr u ((⟨vW,(Ab 32 (nth (Ab 10 t0) q.2.1))⟩:Sl ByteArray).cut 1 1 (Ab 32 (nth (Ab 10 t0) q.2.1)).length):=fun u h=>h.cut (lo:=1) (hi:=(Ab 32 (nth (Ab 10 t0) q.2.1)).length) (by omega) (Nat.le_refl _)
  have hwl1:((⟨vW,(Ab 32 (nth (Ab 10 t0) q.2.1))⟩:Sl ByteArray).cut 1 1 (Ab 32 (nth (Ab 10 t0) q.2.1)).length).l=(Ab 32 (nth (Ab 10 t0) q.2.1)).drop 1:=by
   show((Ab 32 (nth (Ab 10 t0) q.2.1)).drop 1).take ((Ab 32 (nth (Ab 10 t0) q.2.1)).length-1)=_;exact List.take_of_length_le (by rw[List.length_drop];exact Nat.le_refl _)
  have hzc:∀x∈((⟨vW,(Ab 32 (nth (Ab 10 t0) q.2.1))⟩:Sl ByteArray).cut 1 1 (Ab 32 (nth (Ab 10 t0) q.2.1)).length).l,(x.size:Int)<=65536:=fun x hx=>by rw[hwl1]at hx;have:=hWz x (List.mem_of_mem_drop hx);omega
  have hnc:((⟨vW,(Ab 32 (nth (Ab 10 t0) q.2.1))⟩:Sl ByteArray).cut 1 1 (Ab 32 (nth (Ab 10 t0) q.2.1)).length).l.length<=65537:=by rw[hwl1,List.length_drop];omega
  refine Wz 1 ?_;refine Nx 0 ?_;refine Wk 1 (AX tk71 rfl fun u hu=>hE.st hu) ?_;refine Wd (Qc ?_);refine CS.cut (σ:=Game×Value) [12,74,75,76,77,78,79,80,81,82,83,84,85,86,87,88,89,90,91,92,93,94,95,96,97,98,99,100,101,102,103,104,105] (fun s=>[(11,s.2)]) (fun s=>[gm b2 s.1,roS (fun u=>ErrX a u s.2),roT cStr ⟨vW,(Ab 32 (nth (Ab 10 t0) q.2.1))⟩,roT cStr ⟨v19,aftS 10 t0⟩]) (fun s=>lineQ q.1 (nth (Ab 10 t0) q.2.1) s.1 (noE s.2)/\(s.2 = .nilIface\/∃t y,s.2 = .iface t y)) (fun _ _=>rfl) ?_ ?_
  ·refine Nz 1 ?_;refine Wk 0 (Xc (s:=⟨vW,(Ab 32 (nth (Ab 10 t0) q.2.1))⟩) (h0:=by decide) (h1:=by show(0:Int)<((Ab 32 (nth (Ab 10 t0) q.2.1)).length:Int);omega)) ?_;refine Wk 0 (Vb 0 rfl (s:=⟨vW,(Ab 32 (nth (Ab 10 t0) q.2.1))⟩) (h:=⟨by decide,by show(0:Int)<((Ab 32 (nth (Ab 10 t0) q.2.1)).length:Int);omega⟩)) ?_;refine Wd (Qc (Ce (Nz 0 ?_)));refine Wk 1 (Ah rfl rfl) ?_;refine Wp ?_ ?_<;>intro hc6
   ·refine Ny 1 ?_;refine Wk 0 (Bf sl23 rfl rfl hvW.sp (by decide) (by show(1:Int)<=((Ab 32 (nth (Ab 10 t0) q.2.1)).length:Int);omega)) ?_;refine WS.sel [1,0,0] rfl ?_;refine WS.callS rfl rfl Jhd (fun u hu=>QQ (roT cStr ⟨v19,aftS 10 t0⟩) a hE b2 q.1 ((⟨vW,(Ab 32 (nth (Ab 10 t0) q.2.1))⟩:Sl ByteArray).cut 1 1 (Ab 32 (nth (Ab 10 t0) q.2.1)).length) hzc hnc hgb.1 _ hpc hU hu) (fun _=>rfl) ?_;rintro⟨G2,ev⟩ ⟨hq2,hev⟩;refine Wz 1 ?_;exact Wd (Qb (QS.head ((G2,ev)) rfl rfl ⟨lineQ.code hc6 (by rw[<-hwl1];exact hq2),hev⟩))
   refine Nz 0 ?_;refine Wk 1 (Ah rfl rfl) ?_;refine Wp ?_ ?_<;>intro hc7
   ·refine Ny 1 ?_;refine Wk 0 (Bf sl23 rfl rfl hvW.sp (by decide) (by show(1:Int)<=((Ab 32 (nth (Ab 10 t0) q.2.1)).length:Int);omega)) ?_;refine WS.sel [1,0,0] rfl ?_;refine WS.callS rfl rfl Jhv (fun u hu=>Jfo (roT cStr ⟨v19,aftS 10 t0⟩) a hE b2 q.1 ((⟨vW,(Ab 32 (nth (Ab 10 t0) q.2.1))⟩:Sl ByteArray).cut 1 1 (Ab 32 (nth (Ab 10 t0) q.2.1)).length) hzc hnc hgb.1 _ hpc hM hW8 hgb.2.1 hu) (fun _=>rfl) ?_;rintro⟨G2,ev⟩ ⟨hq2,hev⟩;refine Wz 1 ?_;exact Wd (Qb (QS.head ((G2,ev)) rfl rfl ⟨lineQ.note hc6 hc7 (by rw[<-hwl1];exact hq2),hev⟩))
   refine Nz 0 ?_;refine Wk 1 (Ah rfl rfl) ?_;refine Wp ?_ ?_<;>intro hc8
   ·refine Nz 1 ?_;refine Nx 1 ?_;refine Wk 0 (Bf sl23 rfl rfl hvW.sp (by decide) (by show(1:Int)<=((Ab 32 (nth (Ab 10 t0) q.2.1)).length:Int);omega)) ?_;refine Wc rfl rfl Yu (fun u hu=>N0 a ((⟨vW,(Ab 32 (nth (Ab 10 t0) q.2.1))⟩:Sl ByteArray).cut 1 1 (Ab 32 (nth (Ab 10 t0) q.2.1)).length) u (hE.st hu) (hpc u (hu.ro (j:=0) rfl)) (fun x hx↦Int.le_trans (hzc x hx) (by decide)) (by omega)) (fun _=>rfl) ?_;rintro⟨v1,e1⟩ ⟨⟨h1,he1⟩,u1,hv1⟩;refine WS.unpack ?_;have hvo1:=Sl.one hv1;have heo1:=oneE he1;refine Wz 5 ?_;refine Nx 1 ?_;refine Wk 1 (Nc (s:=⟨v1,numD ((⟨vW,(Ab 32 (nth (Ab 10 t0) q.2.1))⟩:Sl ByteArray).cut 1 1 (Ab 32 (nth (Ab 10 t0) q.2.1)).length).l⟩)) ?_;refine Wp ?_ ?_<;>intro hc9
    ·have hn1:¬((Ab 32 (nth (Ab 10 t0) q.2.1)).drop 1).length=1:=by
      rw[<-hwl1,<-FU];omega
     refine Ny 1 ?_;refine Wk 0 (AX tk71 rfl fun u hu=>hE.st hu) ?_;refine WS.buildE2 a (b:=e1) (c:=errV a) Me zv71 rfl rfl he1 (.inr ⟨_,_,rfl⟩) (fun _=>rfl) ?_;intro v100;refine Wc rfl rfl RD (fun u hu=>Le a ⟨v100,[e1,errV a]⟩ u (Bk hu (j:=0) rfl (okE (hu.ro (j:=2) rfl) (.inr .line))) (by simp)) (fun _=>rfl) ?_;rintro x ⟨hx1,hx2⟩;refine WS.sel [0,2,3,2,2] rfl ?_;refine WS.weak (fun u hu=>Jen (fun _=>.inr .line) hu) ?_;refine Wz 1 ?_;refine Wd (Qb ?_);refine QS.sel [1,0,0,0] rfl ?_
     exact QS.head ((q.1,x)) rfl rfl ⟨by
      have h9:noE x=false:=by rw[hx1];simp[noE,errV]
      simp only[h9];exact lineQ.tries0 hc6 hc7 hc8 hn1,hx2⟩
    have hn1:((Ab 32 (nth (Ab 10 t0) q.2.1)).drop 1).length=1:=by
     rw[<-hwl1,<-FU];omega
    refine CS.sel [3,0,0,0,0] rfl ?_;refine CS.unpack (L1:=A5 b2 37 (gcl q.1) q.1) ?_;refine Ny 1 ?_;refine Wk 0 (Xc (s:=⟨v1,numD ((⟨vW,(Ab 32 (nth (Ab 10 t0) q.2.1))⟩:Sl ByteArray).cut 1 1 (Ab 32 (nth (Ab 10 t0) q.2.1)).length).l⟩) (h0:=by decide) (h1:=by show(0:Int)<((numD ((⟨vW,(Ab 32 (nth (Ab 10 t0) q.2.1))⟩:Sl ByteArray).cut 1 1 (Ab 32 (nth (Ab 10 t0) q.2.1)).length).l).length:Int);omega)) ?_;refine Wk 1 (Vb 5 rfl (s:=⟨v1,numD ((⟨vW,(Ab 32 (nth (Ab 10 t0) q.2.1))⟩:Sl ByteArray).cut 1 1 (Ab 32 (nth (Ab 10 t0) q.2.1)).length).l⟩) (h:=⟨by decide,by show(0:Int)<((numD ((⟨vW,(Ab 32 (nth (Ab 10 t0) q.2.1))⟩:Sl ByteArray).cut 1 1 (Ab 32 (nth (Ab 10 t0) q.2.1)).length).l).length:Int);omega⟩)) ?_;refine Ws 0 0 ?_;refine Wd (Qb ?_);refine QS.sel [0,0,0,0,0,1,1,1] rfl ?_;refine QS.weak (fun u hu=>St.pack (L1:=A5 b2 37 (gcl {q.1 with tr:=nth (numD ((⟨vW,(Ab 32 (nth (Ab 10 t0) q.2.1))⟩:Sl ByteArray).cut 1 1 (Ab 32 (nth (Ab 10 t0) q.2.1)).length).l) 0}) {q.1 with tr:=nth (numD ((⟨vW,(Ab 32 (nth (Ab 10 t0) q.2.1))⟩:Sl ByteArray).cut 1 1 (Ab 32 (nth (Ab 10 t0) q.2.1)).length).l) 0}) hu) ?_;exact QS.head (({q.1 with tr:=nth (numD ((⟨vW,(Ab 32 (nth (Ab 10 t0) q.2.1))⟩:Sl ByteArray).cut 1 1 (Ab 32 (nth (Ab 10 t0) q.2.1)).length).l) 0},e1)) rfl rfl ⟨by simp only[h1];exact lineQ.tries hc6 hc7 hc8 hn1 (by rw[hwl1]) (by rw[hwl1]),he1⟩
   refine Ck (Qb ?_);refine QS.sel [1,0,0] rfl ?_;refine QS.weak (fun u hu=>hu.roTrue (p:=fun u=>ErrX a u (errV a)) (fun u=>.inr .line)) ?_;refine QS.sel [1,0,0,0] rfl ?_;exact QS.head ((q.1,errV a)) rfl rfl ⟨lineQ.bad hc6 hc7 hc8,.inr ⟨_,_,rfl⟩⟩
  intro y t hs;obtain⟨hy3,hy4⟩:=hs;refine Cs (Cs ?_);rcases Bool.eq_false_or_eq_true ((!decide (q.2.1+1<((Ab 10 t0).length:Int))||q.2.2))with hb|hb
  ·refine CS.unpack (L1:=A5 b2 37 (gcl y.1) y.1) ?_;refine Ny 3 ?_;refine We 0 ?_;refine Wk 0 Po ?_;refine Wk 0 (AR (v:=.bool true) (congrArg (fun b=>some (Value.bool b)) hb)) ?_;refine Wf 0 rfl rfl (fun hg=>Fy_ (by cases hg)) ?_;refine Wf 0 rfl rfl (fun hg=>Fy_ (by cases hg)) ?_;refine Wf 0 rfl rfl (fun hg=>Fz_ (by cases hg)) ?_;refine Wk 1 Po ?_;refine Wf 0 rfl rfl (fun hg=>Fy_ (by cases hg)) ?_;refine Wf 0 rfl rfl (fun hg=>Fz_ (by cases hg)) ?_;refine Wk 0 Po ?_;refine Wp ?_ ?_<;>intro hc10
   ·have hbad2:=hqi.bad (G':=y.1) hlt (fun h1 h2=>absurd hb (by rw[h2,decide_eq_true h1];decide));refine Nz 0 ?_;refine Wk 1 (Db H9 zv37) ?_;refine Wk 0 Za ?_;refine Wv 2 0 ?_;exact Wd (Qc (Cr (Qr (Qs (Qr (Qr (Qs (Qr (outR (B9 rfl (Ag (j:=0) rfl rfl tk37) rfl rfl) (fun u hu=>Cj hbad2 hu))))))))))
   exact absurd hc10 (by simp)
  refine CS.unpack (L1:=A5 b2 37 (gcl y.1) y.1) ?_;refine Ny 3 ?_;refine We 0 ?_;refine Wk 0 Po ?_;refine Wk 0 (AR (v:=.bool false) (congrArg (fun b=>some (Value.bool b)) hb)) ?_;refine We 0 ?_;refine Wf 0 rfl rfl (fun hg=>AX tk71 rfl fun u hu=>hE.st hu) ?_;refine WS.callFg rfl rfl rfl Jgq (fun u hu=>Jg2 a y.2 u (hu.ro (j:=5) rfl)) (fun _=>rfl) ?_;rintro b hbn;refine Wk 1 Po ?_;refine We 0 ?_;refine Wf 0 rfl rfl (fun hg=>Er (by kernel_rfl) (eg_ hg rfl) hy4) ?_;refine Wk 0 Po ?_;refine Wp ?_ ?_<;>intro hc10
  ·have hne:noE y.2=false:=by
    have h9:=hc10;simp at h9;rcases h9 with h|h
    ·exact hbn h
    exact h
   have hbad2:=hqi.bad (G':=y.1) hlt (fun _ _=>by rw[hne]at hy3;exact hy3);refine Nz 0 ?_;refine Wk 1 (Db H9 zv37) ?_;refine Wk 0 Za ?_;refine Wv 2 1 ?_;exact Wd (Qc (Cr (Qr (Qs (Qr (Qr (Qs (Qr (outR (B9 rfl (Ag (j:=1) rfl rfl tk37) rfl rfl) (fun u hu=>Cj hbad2 hu))))))))))
  have hny:noE y.2=true:=by
   have h9:=hc10.2
   simpa using h9
  have hb2:=hb;rw[Bool.or_eq_false_iff]at hb2;have hlt2:q.2.1+1<((Ab 10 t0).length:Int):=by simpa using hb2.1
  have hnx:PgI t0 y.1 (q.2.1+1) (seq (nth (Ab 32 (nth (Ab 10 t0) q.2.1)) 0) B0):=PgI.next (by have h9:=hqi;rw[hb2.2]at h9;exact h9) hlt2 ht (by rw[hny]at hy3;exact hy3);refine Ck (Qc (Ny 1 ?_));refine Wk 0 (Xc (s:=⟨vW,(Ab 32 (nth (Ab 10 t0) q.2.1))⟩) (h0:=by decide) (h1:=by show(0:Int)<((Ab 32 (nth (Ab 10 t0) q.2.1)).length:Int);omega)) ?_;refine Wk 0 (Vb 7 rfl (s:=⟨vW,(Ab 32 (nth (Ab 10 t0) q.2.1))⟩) (h:=⟨by decide,by show(0:Int)<((Ab 32 (nth (Ab 10 t0) q.2.1)).length:Int);omega⟩)) ?_;refine Wk 1 (Ah rfl rfl) ?_;refine Wd (Qb (Qc (Ny 1 ?_)));refine Wk 1 Za ?_;refine Wd ?_;refine QS.sel [1,1,1,1,1,3] rfl ?_;refine QS.weak (fun u hu=>St.pack (L1:=A5 b2 37 (gcl y.1) y.1) hu) ?_;exact QS.head ((y.1,q.2.1+1,seq (nth (Ab 32 (nth (Ab 10 t0) q.2.1)) 0) B0)) rfl rfl ⟨hnx,by simp only;omega⟩
 have hfin:=hqi.fin (by omega);refine Cv (Qe (Qe (Qx (Qc (Cs (Nz 2 ?_))))));refine Wp ?_ ?_<;>intro hc11
 ·have hbad3:D2 t0=(gp0,((linS t0).length:Int)+1,4):=by rw[hfin,if_neg (by simpa using hc11)]
  refine Cs ?_;refine CS.unpack (L1:=A5 b2 37 (gcl q.1) q.1) ?_;refine Ny 0 ?_;refine Wk 1 (Db H9 zv37) ?_;refine Wk 0 (Nc (s:=⟨ls,linS t0⟩)) ?_;refine Wk 0 Za ?_;refine Wv 2 0 ?_;exact Wd (Qc (Cr (Qr (outR (B9 rfl (Ag (j:=0) rfl rfl tk37) rfl rfl) (fun u hu=>Cj hbad3 hu)))))
 have hdn:q.2.2=true:=by simpa using hc11
 refine Ck (Qc (Cs (Cs ?_)));refine CS.unpack (L1:=A5 b2 37 (gcl q.1) q.1) ?_;refine Ny 0 ?_;refine Wk 0 (Bb 0) ?_;refine Wk 1 (Cb rfl rfl Yq (fun u hu=>Je q.1 u (St.game (gb:=b2) (cs:=gcl q.1) (G:=q.1) (L:=[roT cStr ⟨v19,aftS 10 t0⟩]) hu) g (hG.st hu) hgb.2.2)) ?_;refine Nx 2 ?_;refine Wp ?_ ?_<;>intro hc12
 ·have hbad4:D2 t0=(gp0,0,Bo q.1.p):=by rw[hfin,if_pos hdn,finG,if_pos hc12]
  refine Nz 0 ?_;refine Wk 1 (Db H9 zv37) ?_;refine Wv 2 0 ?_;exact Wd (Qc (Cr (Qr (outR (B9 rfl (Ag (j:=0) rfl rfl tk37) rfl rfl) (fun u hu=>Cj hbad4 hu)))))
 have hgood:D2 t0=(q.1.p,0,0):=by rw[hfin,if_pos hdn,finG,if_neg (by omega)]
 refine Ck (Qc (Cs ?_));refine CS.stE fun hst2=>?_;obtain⟨uu,huu⟩:=hst2;have hone:=Oe (St.game (gb:=b2) (cs:=gcl q.1) (G:=q.1) (L:=[roT cStr ⟨v19,aftS 10 t0⟩]) huu);refine Ny 0 ?_;refine Wk 0 (Bb 0) ?_;refine WS.storeP rfl (j:=0) rfl (vs:=gcl q.1) rfl rfl hone tk37 rfl rfl ?_;refine Wz 2 ?_;exact Wd (Qc (Cr (outR (B9 rfl (Ag (j:=0) rfl rfl tk37) rfl rfl) (fun u hu=>V5 (gb:=b2) hgood (hu.sel [0,0,0,0,0,0] rfl)))))
end Go.Proofs.YtllebkdchemabaaGreatDoor
