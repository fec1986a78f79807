/- Merged texts of this proof (walks and plain laws), printed by a program of the prover. -/
import Derived.Test.YtmoojmgihdgceaaGreatDoorXi
import Derived.Test.YtmoojmgihdgceaaGreatDoorXd
set_option maxHeartbeats 8000000
namespace Go.Proofs.YtmoojmgihdgceaaGreatDoor
open Go.RowKit Go.Proofs Tryz
set_option maxRecDepth 100000
set_option linter.unusedVariables false
set_option linter.unusedSimpArgs false
theorem BM {P:Program} {n0:Nat} {w0:World} {L:List SA} {l:List Value} {d:Option Tmp} {ty:TypeId} {ps:String} {af:Array Edge} {g:Option (Nat×Bool)} {T:TypeId} {x:Operand} {b i k:Nat} {c:List Value} {e:TypeId} {v:Value}
 (hx:evo l x=some (.pointer (some ⟨b,i,none⟩))) (hb:∀u,St n0 w0 L u→BlkAt u b c e) (hv:c[i]? = some v) (hT:tk P T=some (false,k)):Det P (St n0 w0 L) ⟨d,.load T x,ty,ps,af,g⟩ l v:=Fi hT hx fun u hu=>by rw[CJ (hb u hu)];exact hv
theorem E3 {G:Game} (h:(Af G.p).1=0):(Ac G.p).1=0∧GrAll G.p (Ac G.p).2 (Af G.p).2.1 (Af G.p).2.2:=KO (fun x hx m hm=>Er hx hm) CC h
abbrev DR (G:Game) (d:List Int):Prop:=K8 G.p (Af G.p).2.1 (Af G.p).2.2 d
def RetE (w:World) (G:Game) (f:Value→Value):Ending→World→Prop:=fun e w'=>∃y:Sl Int,(DR G y.l∧∃u0,SlT cInt u0 y)∧RetF w (f y.v) (roT cInt y) e w'
theorem E2 (G:Game) (w:World) (hG:GameOk w G) (hn:NearG G) (g:Sl ByteArray) (hW:GOk w g) (ht:Lib.TabIs prog w "internal/strconv.uint64pow10" .u64 Lib.pow10Tab) (hE:(Af G.p).1=0):
  Calls prog 23 #[.agg (gcl G).toArray] w (fun e w'=>∃y:GraphD×Nat×Sl Int,((DR G y.2.2.l∧(y.1.xs,y.1.ed)=(Af G.p).2)∧∃u0,GraphOk u0 y.1∧MzOk y.1 u0 y.2.1 y.2.2)∧RetF w (.tuple #[.pointer (some ⟨y.2.1,0,none⟩),.int .i64 0]) (roS fun u=>GraphOk u y.1∧MzOk y.1 u y.2.1 y.2.2) e w'):=by
 refine En func23 ?_;refine Nz 0 ?_;refine Wr 2 fun b1 hb1=>?_;refine Nx 0 ?_;refine Wk 0 (Bb 0) ?_;refine Wc rfl rfl V3 (fun u hu=>Hz G u (hG.st hu) hn g (hW.st hu) (D2 ht hu)) (fun _=>rfl) ?_;rintro X ⟨hXv,uX,hX⟩;have oXp:=Sl.one hX.ps;have oXe:=Sl.one hX.es;refine Wz 3 ?_;refine Wq 0 zv69 fun b4 hb4=>?_;refine Wv 1 0 ?_;refine Nv 2 ?_;refine Wp ?_ ?_<;>intro hc1
 ·exact absurd hE hc1
 have hXp2:X.xs=(Af G.p).2.1:=congrArg Prod.fst hXv;have hXe2:X.ed=(Af G.p).2.2:=congrArg Prod.snd hXv;have hgr:GrAll G.p (Ac G.p).2 X.xs X.ed:=by rw[hXp2,hXe2];exact(E3 hE).2
 refine Ck (Qc (Nz 0 ?_));refine Wk 0 (Bb 2) ?_;refine Wk 0 (Bb 0) ?_;refine Wc rfl rfl Jas (fun u hu=>QI G u (hG.st hu) hn g (hW.st hu) X (hu.ro (j:=1) rfl) _ hgr) (fun _=>rfl) ?_;rintro⟨mb,d⟩ ⟨hd,um,hm⟩;refine Wz 2 ?_;exact Wd (Qc (Cr (out2 rfl rfl rfl (fun u hu=>⟨(X,mb,d),⟨⟨by rw[hXp2,hXe2]at hd;exact hd,hXv⟩,u,hu.ro (j:=2) rfl,hu.ro (j:=0) rfl⟩,retR (fun S u h=>⟨Star.ro (j:=2) rfl h,Star.ro (j:=0) rfl h⟩) u hu⟩))))
theorem RB (G:Game) (w:World) (hG:GameOk w G) (hn:NearG G) (g:Sl ByteArray) (hW:GOk w g) (ht:Lib.TabIs prog w "internal/strconv.uint64pow10" .u64 Lib.pow10Tab) (hE:¬(Af G.p).1=0):
  Calls prog 23 #[.agg (gcl G).toArray] w (RetB w (.tuple #[.pointer none,.int .i64 (Af G.p).1])):=by
 refine En func23 ?_;refine Nz 0 ?_;refine Wr 2 fun b1 hb1=>?_;refine Nx 0 ?_;refine Wk 0 (Bb 0) ?_;refine Wc rfl rfl V3 (fun u hu=>Hz G u (hG.st hu) hn g (hW.st hu) (D2 ht hu)) (fun _=>rfl) ?_;rintro X ⟨hXv,uX,hX⟩;have oXp:=Sl.one hX.ps;have oXe:=Sl.one hX.es;refine Wz 3 ?_;refine Wq 0 zv69 fun b4 hb4=>?_;refine Wv 1 0 ?_;refine Nv 2 ?_;refine Wp ?_ ?_<;>intro hc1
 ·refine Nz 3 ?_;exact Wd (Qc (Cr (Qr (out2 rfl rfl rfl (Ab rfl)))))
 exact absurd hc1 hE
theorem V0 (G:Game) (w:World) (hG:GameOk w G) (hn:NearG G) (g:Sl ByteArray) (hW:GOk w g) (ht:Lib.TabIs prog w "internal/strconv.uint64pow10" .u64 Lib.pow10Tab) (hE:(Af G.p).1=0):
  Calls prog 34 #[.agg (gcl G).toArray] w (RetE w G fun v=>.tuple #[v,.int .i64 0]):=by
 refine En func34 ?_;refine Nz 0 ?_;refine Wr 2 fun b1 hb1=>?_;refine Nx 0 ?_;refine Wk 0 (Bb 0) ?_;refine Wc rfl rfl QC (fun u hu=>E2 G u (hG.st hu) hn g (hW.st hu) (D2 ht hu) hE) (fun _=>rfl) ?_;rintro⟨X,mb,d⟩ ⟨⟨hd,hXv⟩,um,hX,hm⟩;have od:=Sl.one hm.2;refine Wz 5 ?_;refine Nv 2 ?_;refine Wp ?_ ?_<;>intro hc1
 ·exact absurd trivial hc1
 refine Ck (Qc (Nz 3 ?_));refine Wk 2 (BM (i:=3) rfl (fun u hu=>(hu.ro (j:=0) rfl).2.1) rfl tk37) ?_;exact Wd (Qc (Cr (out2 rfl rfl rfl (fun u hu=>⟨d,⟨hd,u,(hu.ro (j:=0) rfl).2.2⟩,retR (fun S u h=>(Star.ro (j:=0) rfl h).2.2) u hu⟩))))
theorem IV (xs ys:List Int) (v z:Value) (w:World) (hx:SlI w v xs) (hy:SlI w z ys):
  Calls prog 38 #[v,z] w (RetB w (.bool (decide (xs=ys)))):=by
 have lx:=hx.le;have ly:=hy.le;refine En func38 ?_;refine Nz 1 ?_;refine Nv 1 ?_;refine Wk 1 Na ?_;refine Wk 1 Na ?_;refine Wp ?_ ?_<;>intro hc1
 ·refine Nz 1 ?_;exact Wd (Qc (Cr (Qr (out1 rfl rfl (Ab (H8 fun h=>hc1 (by rw[h])))))))
 refine Ck (Qc (Cs (Nz 1 ?_)));refine Wk 1 Na ?_;refine Nu ?_;refine CS.loopM (σ:=Int) (rsL [4,5,14,25]) (fun s=>[(13,.int .i64 s)]) (fun _=>_) (fun s=>0≤s∧s≤xs.length∧∀j:Int,0≤j→j<s→nth xs j=nth ys j) (fun s=>(xs.length-s).toNat) 0 (fun _ _=>rfl) rfl rfl ⟨by omega,by omega,fun j _ _=>by omega⟩ ?_;intro a t hs;obtain⟨ha1,ha2,ha3⟩:=hs;refine Nz 1 ?_;refine Wd (Qc (Cs (Cn ?_ ?_)))<;>intro hc2
 ·refine Ck (Qc (Cs (Ce (Nz 2 ?_))));refine Wd (Qc (Cs (Dr mixed 2 ?_)));refine Dk 0 Xa ?_;refine Dk 2 Ia ?_;refine Dk 0 Xa ?_;refine Dk 1 Ia ?_;refine Dd (Qc (Cn ?_ ?_))<;>intro hc3
  ·refine Nz 1 ?_;exact Wd (Qc (Cr (Qs (Qr (Qr (Qs (Qr (out1 rfl rfl (Ab (H8 fun h=>hc3 (by rw[h])))))))))))
  refine Ck (Qb (Qc (Ny 0 ?_)));refine Wk 1 Za ?_;refine Wd ?_
  exact QS.head (a+1) rfl rfl ⟨⟨by omega,by omega,fun j h0 h1=>by
     rcases(show j<a∨j=a by omega)with h|h
     ·exact ha3 j h0 h
     rw[h];exact hc3⟩,by omega⟩
 refine Cv (Qe (Qe (Qx (Qc (Nz 1 ?_)))));exact Wd (Qc (Cr (out1 rfl rfl (Ab (P7 (UN hc2 (by omega) ha3))))))
theorem T8 (x y:Sl Bool) (w:World) (hx:SlT cBool w x) (hy:SlT cBool w y):
  Calls prog 39 #[x.v,y.v] w (RetB w (.bool (decide (x.l=y.l)))):=by
 have lx:=hx.le;have ly:=hy.le;refine En func39 ?_;refine Nz 1 ?_;refine Nv 1 ?_;refine Wk 1 Nc ?_;refine Wk 1 Nc ?_;refine Wp ?_ ?_<;>intro hc1
 ·refine Nz 1 ?_;exact Wd (Qc (Cr (Qr (out1 rfl rfl (Ab (H8 fun h=>hc1 (by rw[h])))))))
 refine Ck (Qc (Cs (Nz 1 ?_)));refine Wk 1 Nc ?_;refine Nu ?_;refine CS.loopM (σ:=Int) (rsL [4,5,14,25]) (fun s=>[(13,.int .i64 s)]) (fun _=>_) (fun s=>0≤s∧s≤x.l.length∧∀j:Int,0≤j→j<s→nth x.l j=nth y.l j) (fun s=>(x.l.length-s).toNat) 0 (fun _ _=>rfl) rfl rfl ⟨by omega,by omega,fun j _ _=>by omega⟩ ?_;intro a t hs;obtain⟨ha1,ha2,ha3⟩:=hs;refine Nz 1 ?_;refine Wd (Qc (Cs (Cn ?_ ?_)))<;>intro hc2
 ·refine Ck (Qc (Cs (Ce (Nz 2 ?_))));refine Wd (Qc (Cs (Dr mixed 2 ?_)));refine Dk 0 Xc ?_;refine Dk 2 Ub ?_;refine Dk 0 Xc ?_;refine Dk 0 Ub ?_;refine Dk 0 (Kv rfl rfl underlying4) ?_;refine Dd (Qc (Cn ?_ ?_))<;>intro hc3
  ·refine Nz 1 ?_;exact Wd (Qc (Cr (Qs (Qr (Qr (Qs (Qr (out1 rfl rfl (Ab (H8 fun h=>hc3 (by rw[h])))))))))))
  refine Ck (Qb (Qc (Ny 0 ?_)));refine Wk 1 Za ?_;refine Wd ?_
  exact QS.head (a+1) rfl rfl ⟨⟨by omega,by omega,fun j h0 h1=>by
     rcases(show j<a∨j=a by omega)with h|h
     ·exact ha3 j h0 h
     rw[h];exact hc3⟩,by omega⟩
 refine Cv (Qe (Qe (Qx (Qc (Nz 1 ?_)))));exact Wd (Qc (Cr (out1 rfl rfl (Ab (P7 (UN hc2 (by omega) ha3))))))
theorem Tv (x:Sl Pos) (w:World) (hx:SlT cPos w x) (fn:FuncId) (cap:List Value) (hent:Ent prog fn) (F:Pos→Bool) (hF:∀(q:Pos) (u:World),Below w.heap.size w u→PosOk u q→Calls prog fn ([.agg #[q.st.ths.v,q.st.prs.v,q.st.pls.v,q.rd.v]]++cap:List Value).toArray u (RetB u (.bool (F q)))) (n:Int) (hn:0≤n∧n<x.l.length) (h1:∀j:Int,0≤j→j<n→F (nth x.l j)=false) (h2:F (nth x.l n)=true):
  Calls prog 36 #[x.v,.func (.func fn) #[] cap.toArray] w (RetB w (.int .i64 n)):=by
 have lx:=hx.le;refine En func36 ?_;refine Nz 1 ?_;refine Nv 1 ?_;refine Wk 1 Nc ?_;refine Nu ?_;refine CS.loopM (σ:=Int) (rsL [4,5,9,18]) (fun s=>[(8,.int .i64 s)]) (fun _=>_) (fun s=>0≤s∧s≤n) (fun s=>(x.l.length-s).toNat) 0 (fun _ _=>rfl) rfl rfl ⟨by omega,by omega⟩ ?_;intro i t hs;obtain⟨hi1,hi2⟩:=hs;refine Nz 1 ?_;refine Wd (Qc (Cs (Cn ?_ ?_)))<;>intro hc1
 ·have hel:PosOk w (nth x.l i):=hx.at hi1 (by omega);refine Ck (Qc (Cs (Ce (Nz 2 ?_))));refine Nx 3 ?_;refine Wk 0 Xc ?_;refine Wk 0 (PS rfl hx rfl ⟨by omega,by omega⟩ rfl tk98) ?_;refine Wk 0 (Cb rfl rfl hent (fun u hu=>hF (nth x.l i) u hu.below (hel.toSt hu))) ?_;refine Wp ?_ ?_<;>intro hc2
  ·have hin:i=n:=by
    by_cases hlt:i<n
    ·rw[h1 i hi1 hlt]at hc2;cases hc2
    omega
   refine Nz 2 ?_;exact Wd (Qc (Cr (Qs (Qr (Qr (Qs (Qr (out1 rfl rfl (Ab (by rw[hin]))))))))))
  have hin:i<n:=by
   by_cases he:i=n
   ·rw[he,h2]at hc2;cases hc2
   omega
  refine Ck (Qb (Qc (Ny 0 ?_)));refine Wk 1 Za ?_;exact Wd (QS.head (i+1) rfl rfl ⟨⟨by omega,by omega⟩,by omega⟩)
 refine Cv (Qe (Qe (Qx (Qc (Nz 1 ?_)))));refine Wd (Qc (Cr ?_));exfalso;omega
theorem St.seenK {n0:Nat} {w0 u:World} {T Z R:SA} {y:Pos} {l:List Pos} (h:St n0 w0 [T,(roS fun u=>PosOk u y∧∀p∈l,PosOk u p),Z,R] u):St n0 w0 [T,(roS fun u=>PosOk u y∧∀p∈l++[y],PosOk u p),Z,R] u:=
 ((St.roMap (fun _ hu=>⟨hu.1,fun p hp=>(List.mem_append.1 hp).elim (hu.2 p) fun e=>by rw[List.mem_singleton.1 e];exact hu.1⟩) (h.sel [1,0,0,0] rfl)).sel [1,0,0,0] rfl)
theorem Pp {w u:World} (R:SA) (Z:List Pos→SA) (G:Game) (hG:GameOk w G) (hn:NearG G) (g:Sl ByteArray) (hW:GOk w g) (fb:Nat) (y:Pos) (hyx:y.x=(Ac G.p).2) (hB:(Ac G.p).1=0) (l:Sl Entr) (hk:SlT cEntry w l) (fn:FuncId) (cap:List Value) (hent:Ent prog fn) (hmv:∀(acc:List Pos) (z:Pos) (f:Film) (u:World),z.x=f.x→posG G.p f.x=0→acc.length≤1000→St w.heap.size w [blk fb (fcl G z f) 100,(roS fun u=>PosOk u z∧∀p∈y::acc,PosOk u p),Z acc,R] u→Calls prog fn cap.toArray u (fun e u'=>e = .returned (.tuple #[])∧St w.heap.size w [blk fb (fcl G z f) 100,(roS fun u=>PosOk u z∧∀p∈y::(acc++[z]),PosOk u p),Z (acc++[z]),R] u')) (hu:St w.heap.size w [blk fb (fcl G y (A4 G.p)) 100,(roS fun u=>PosOk u y∧∀p∈y::[],PosOk u p),Z [],R] u):
  Calls prog 31 #[.pointer (some ⟨fb,0,none⟩),l.v,.func (.func fn) #[] cap.toArray] u (fun e u'=>∃q:Pos×Film×List Pos,(q.1.x=q.2.1.x∧(∃u0,PosOk u0 q.1)∧((AC G.p l.l).1=0→q.2.1=(AC G.p l.l).2.2∧CU G.p l.l (A4 G.p)=q.2.2.map Pos.x))∧e = .returned (.tuple #[.int .i64 (AC G.p l.l).2.1,.int .i64 (AC G.p l.l).1])∧St w.heap.size w [blk fb (fcl G q.1 q.2.1) 100,(roS fun u=>PosOk u q.1∧∀p∈y::q.2.2,PosOk u p),Z q.2.2,R] u'):=by
 have lls:=hk.le;have hyok:PosOk u y:=(hu.ro (j:=1) rfl).1;refine Ei hu func31 ?_;refine Nz 2 ?_;refine Nv 1 ?_;refine Wk 1 Nc ?_;refine Wp ?_ ?_<;>intro hc1
 ·have hfv:(AC G.p l.l)=(2,0,A4 G.p):=PZ hB (by omega);refine Nz 2 ?_;exact Wd (Qc (Cr (Qr (out2 rfl rfl rfl (fun u hu=>⟨(y,(A4 G.p),[]),⟨hyx,⟨u,(hu.ro (j:=1) rfl).1⟩,fun h9↦by rw[hfv]at h9;simp at h9⟩,by rw[hfv],hu.sel [0,0,0,0] rfl⟩)))))
 have hL:¬500<(l.l.length:Int):=by omega
 refine Ck (Qc (Nz 1 ?_));refine Nv 1 ?_;refine Wk 1 Nc ?_;refine Nu ?_;refine CS.loopM (σ:=Int×Pos×Film×Int×List Pos) (rsL [6,7,9,10,17,44]) (fun s=>[(16,.int .i64 s.1),(8,.int .i64 s.2.2.2.1)]) (fun s=>[blk fb (fcl G s.2.1 s.2.2.1) 100,(roS fun u=>PosOk u s.2.1∧∀p∈y::s.2.2.2.2,PosOk u p),Z s.2.2.2.2,R]) (fun s=>0≤s.1∧s.1≤l.l.length∧(∃u0,PosOk u0 s.2.1)∧s.2.1.x=s.2.2.1.x∧FilmOk G s.2.2.1 s.2.2.2.1 s.1∧B9 G.p l.l 0 0 (A4 G.p)=B9 G.p (l.l.drop s.1.toNat) s.1 s.2.2.2.1 s.2.2.1∧CU G.p l.l (A4 G.p)=s.2.2.2.2.map Pos.x++CU G.p (l.l.drop s.1.toNat) s.2.2.1∧s.2.2.2.2.length≤s.1.toNat) (fun s=>(l.l.length-s.1).toNat) (0,y,A4 G.p,0,[]) (fun _ _=>rfl) rfl rfl ⟨by simp,by simp,⟨_,hyok⟩,hyx,LL hB,by simp,by simp,by simp⟩ ?_;intro s t hs;obtain⟨hs1,hs2,⟨us,hsok⟩,hs4,hs5,hs6,hs7,hs8⟩:=hs;refine Nz 1 ?_;refine Wd (Qc (Cs (Cn ?_ ?_)))<;>intro hc2
 ·refine Ck (Qc (Cs (Ce (Nz 1 ?_))));refine Wk 0 Xc ?_;refine Wk 0 Ua ?_;refine Wq 1 zv51 fun b10 hb10=>?_;refine Wv 0 0 ?_;refine Wd (Qc (Cs (Cs ?_)));rcases Bool.eq_false_or_eq_true (!(decide (s.2.2.2.1≤(nth l.l s.1).t)&&decide ((nth l.l s.1).t≤1000000)))with hb|hb
  ·refine Ny 1 ?_;refine Wk 1 (Ba 0) ?_;refine Wk 1 (Cb rfl rfl J2 (fun u hu=>CE _ _ _ u)) ?_;refine Wk 0 (Bp (v:=.bool true) (congrArg (fun b=>some (Value.bool b)) hb)) ?_;refine Wf 0 rfl rfl (fun hg=>Fy_ (by cases hg)) ?_;refine Wf 0 rfl rfl (fun hg=>Fy_ (by cases hg)) ?_;refine Wf 0 rfl rfl (fun hg=>Fy_ (by cases hg)) ?_;refine Wf 0 rfl rfl (fun hg=>Fz_ (by cases hg)) ?_;refine Wk 0 Po ?_;refine Wp ?_ ?_<;>intro hc3
   ·have hTn:Cj s.2.2.2.1 (nth l.l s.1)=false:=by unfold Cj;simp at hb⊢;omega
    have hbd:(Cj s.2.2.2.1 (nth l.l s.1)&&(A6 G.p s.2.2.1 (nth l.l s.1)).isSome)=false:=by rw[hTn];rfl
    have hfv:(AC G.p l.l)=(120,s.1,A4 G.p):=Jh hB hL (by rw[hs6,AO hs1 (by omega),EY hbd]);refine Nz 3 ?_;exact Wd (Qc (Cr (Qr (Qs (Qr (Qr (Qs (Qr (out2 rfl rfl rfl (fun u hu=>(by exact⟨(s.2.1,s.2.2.1,s.2.2.2.2),⟨hs4,⟨u,(hu.ro (j:=2) rfl).1⟩,fun h9↦by rw[hfv]at h9;simp at h9⟩,by rw[hfv],hu.sel [1,1,1,1] rfl⟩)))))))))))
   exact absurd hc3 (by simp)
  have hT:Cj s.2.2.2.1 (nth l.l s.1)=true:=by unfold Cj;simpa using hb
  refine Ny 1 ?_;refine Wk 1 (Ba 0) ?_;refine Wk 1 (Cb rfl rfl J2 (fun u hu=>CE _ _ _ u)) ?_;refine Wk 0 (Bp (v:=.bool false) (congrArg (fun b=>some (Value.bool b)) hb)) ?_;refine We 0 ?_;refine We 0 ?_;refine WS.callSg (want:=false) (j:=5) rfl rfl rfl YL (fun u hu=>Rz (fun u=>∀p∈y::s.2.2.2.2,PosOk u p) [_] [_,_] G hG hn g hW fb s.2.1 s.2.2.1 hs4 (nth l.l s.1) s.2.2.2.1 s.1 hs5 hT (by omega) hu) (fun _=>rfl) ?_;rintro⟨y2,f2⟩ ⟨hy2x,⟨uy2,hy2ok⟩,hf2⟩;dsimp only at hf2 hy2x hy2ok;refine We 0 ?_;refine Wk 0 Po ?_;refine Wp ?_ ?_<;>intro hc3
  ·have hbd:(Cj s.2.2.2.1 (nth l.l s.1)&&(A6 G.p s.2.2.1 (nth l.l s.1)).isSome)=false:=by rw[hT,Bool.true_and];simpa using hc3
   have hfv:(AC G.p l.l)=(120,s.1,A4 G.p):=Jh hB hL (by rw[hs6,AO hs1 (by omega),EY hbd]);refine Nz 3 ?_;exact Wd (Qc (Cr (Qr (Qs (Qr (Qr (Qs (Qr (out2 rfl rfl rfl (fun u hu=>(by exact⟨(y2,f2,s.2.2.2.2),⟨hy2x,⟨u,(hu.ro (j:=2) rfl).1⟩,fun h9↦by rw[hfv]at h9;simp at h9⟩,by rw[hfv],hu.sel [1,1,1,1] rfl⟩)))))))))))
  have hgd:(A6 G.p s.2.2.1 (nth l.l s.1)).isSome=true:=by first|exact hc3|simpa using hc3
  obtain⟨f3,hf3⟩:=Option.isSome_iff_exists.1 hgd;obtain rfl:=hf2 f3 hf3;have hF2:=hs5.next hT hf3;refine Ck (Qc (Nz 1 ?_));refine Wk 1 (Ba 0) ?_;refine Nx 1 ?_;refine Wk 2 (Ba 0) ?_;refine Wj 0 ?_;refine Wt 0 rfl rfl (fun hg=>LV (eg_ hg rfl) rfl underlying1) ?_;refine Wk 0 Pa ?_;refine Wp ?_ ?_<;>intro hc4
  ·have hk1:(nth l.l s.1).k=1:=by first|exact hc4|simpa using hc4
   refine Ny 1 ?_;refine WS.sel [1,1,1,1] rfl ?_;refine WS.callS (β:=Unit) (p:=fun _=>True) (v:=fun _=>.tuple #[]) (L':=fun _=>[blk fb (fcl G y2 f2) 100,(roS fun u=>PosOk u y2∧∀p∈y::(s.2.2.2.2++[y2]),PosOk u p),Z (s.2.2.2.2++[y2]),R]) rfl rfl hent (fun u hu=>Calls.mono (hmv s.2.2.2.2 y2 f2 u hy2x hF2.pos (by omega) hu) fun e u2 h=>⟨(),trivial,h.1,h.2⟩) (fun _=>rfl) ?_;rintro⟨⟩ -;refine Wd (Qb (Qc (Ny 0 ?_)));refine Wk 1 Za ?_;exact Wd (QS.head ((s.1+1,y2,f2,(nth l.l s.1).t,s.2.2.2.2++[y2])) rfl rfl ⟨⟨by simp;omega,by simp;omega,⟨_,hy2ok⟩,hy2x,hF2,by rw[hs6,AO hs1 (by omega),CO hT hf3],by rw[hs7,AO hs1 (by omega),Hi hf3 hk1,←hy2x];simp,by simp;omega⟩,by simp;omega⟩)
  have hk1:¬(nth l.l s.1).k=1:=by first|exact hc4|simpa using hc4
  refine Ck (Qb (Qc (Ny 0 ?_)));refine Wk 1 Za ?_;refine Wd ?_;refine QS.sel [1,1,1,1] rfl ?_;exact QS.head ((s.1+1,y2,f2,(nth l.l s.1).t,s.2.2.2.2)) rfl rfl ⟨⟨by simp;omega,by simp;omega,⟨_,hy2ok⟩,hy2x,hF2,by rw[hs6,AO hs1 (by omega),CO hT hf3],by rw[hs7,AO hs1 (by omega),Hw hf3 hk1],by simp;omega⟩,by simp;omega⟩
 have hrl:B9 G.p l.l 0 0 (A4 G.p) = .ok s.2.2.1:=by rw[hs6,List.drop_of_length_le (by omega),B9]
 have hfv:(AC G.p l.l)=(0,0,s.2.2.1):=Pr hB hL hrl;refine Cv (Qe (Qe (Qx (Qc (Nz 2 ?_)))));exact Wd (Qc (Cr (out2 rfl rfl rfl (fun u hu=>⟨(s.2.1,s.2.2.1,s.2.2.2.2),⟨hs4,⟨u,(hu.ro (j:=1) rfl).1⟩,fun h9↦by rw[hfv];exact⟨rfl,by rw[hs7,List.drop_of_length_le (by omega),CU,List.append_nil]⟩⟩,by rw[hfv],hu.sel [0,0,0,0] rfl⟩))))
end Go.Proofs.YtmoojmgihdgceaaGreatDoor
