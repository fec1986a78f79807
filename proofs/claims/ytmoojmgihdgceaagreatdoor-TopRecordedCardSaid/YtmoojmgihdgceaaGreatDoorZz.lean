/- Merged texts of this proof (walks and plain laws), printed by a program of the prover. -/
import Derived.Test.YtmoojmgihdgceaaGreatDoorZu
import Derived.Test.YtmoojmgihdgceaaGreatDoorZb
set_option maxHeartbeats 8000000
namespace Go.Proofs.YtmoojmgihdgceaaGreatDoor
open Go.RowKit Go.Proofs Tryz
set_option maxRecDepth 100000
set_option linter.unusedVariables false
set_option linter.unusedSimpArgs false
def HI (x:PX):Pos:=⟨⟨⟨.slice none 0 0,x.1.1⟩,⟨.slice none 0 0,x.1.2.1⟩,⟨.slice none 0 0,x.1.2.2⟩⟩,⟨.slice none 0 0,x.2⟩⟩
theorem RY {n:Nat} {k:Int}:k∈Ca n↔0≤k∧k<n:=by
 unfold Ca;rw[List.mem_map];constructor
 ·rintro⟨i,hi,rfl⟩;rw[List.mem_range]at hi;exact⟨by omega,by omega⟩
 intro h;exact⟨k.toNat,by rw[List.mem_range];omega,by omega⟩
theorem CC {G:Game} (h:(Ac G.p).1=0):posG G.p (Ac G.p).2=0:=by
 have hbv:BeginV G.p.rm=BeginV G.rm:=(G.p_alike.BeginV).symm
 have hc:Bj G.p=0:=by
  by_cases hc:Bj G.p=0
  ·exact hc
  unfold Ac at h;rw[if_neg hc]at h;exact h
 have hV:=GE hc
 by_cases hb:(BeginV G.rm).1=0
 ·have e:Ac G.p=(0,(BeginV G.rm).2,BT G.p (BeginV G.rm).2 (List.replicate G.p.nts.length false)):=(if_pos hc).trans (by rw[hbv];exact if_pos hb);rw[e];exact Ui (p:=HI ((BeginV G.rm).2,BT G.p (BeginV G.rm).2 (List.replicate G.p.nts.length false))) hc (GO hV.ck hb) (by show(BT G.p _ _).length=_;rw[Do,List.length_replicate,Game.p_nlen])
 have e:Ac G.p=((BeginV G.rm).1,noP):=(if_pos hc).trans (by rw[hbv];exact if_neg hb);rw[e]at h;exact absurd h hb
theorem Fa {G:Game} {p:Pos} {m:Move} (h:(Ap G.p p.x m).1=0):AE G.p p.x m=true∧(Ap G.p p.x m).2=AM G.p p.x m∧posG G.p (Ap G.p p.x m).2=0:=by
 have hq:=T5 h;have hP:=BJ hq
 have hb:AE G.p p.x m=true:=by
  unfold Ap at h;rw[if_pos hq]at h;split at h
  ·assumption
  cases h
 have e:Ap G.p p.x m=(0,AM G.p p.x m):=(if_pos hq).trans (if_pos hb);refine⟨hb,by rw[e],?_⟩;rw[e];have h2:=SG (m:=m) hP;rw[Bw hb]at h2;exact Ui (p:=HI (AM G.p p.x m)) (V8 hq) h2.1 h2.2
theorem Um {G:GP} {x:PX} {m:Move} (hq:posG G x=0):(Ap G x m).1=0↔AE G x m=true:=by
 unfold Ap;rw[if_pos hq]
 by_cases h:AE G x m=true
 ·rw[if_pos h];exact⟨fun _=>h,fun _=>rfl⟩
 rw[if_neg h];exact⟨fun q=>absurd q (by decide),fun q=>absurd q h⟩
structure FilmOk (G:Game) (f:Film) (last n:Int):Prop where
 pos:posG G.p f.x=0
 pa0:0≤f.pa
 pa1:f.pa≤last
 si:f.st=true→f.pa≤f.si∧f.si≤last
 en:f.en = -1∨(0≤f.en∧f.en≤last)
 hi:0≤f.hi∧f.hi≤n
theorem LL {G:Game} (h:(Ac G.p).1=0):FilmOk G (A4 G.p) 0 0:=by
 refine⟨CC h,Int.le_refl _,Int.le_refl _,(fun q=>by cases q),?_,⟨Int.le_refl _,Int.le_refl _⟩⟩;unfold A4
 by_cases hd:Cl G.p (Ac G.p).2=true
 ·rw[if_pos hd];exact .inr ⟨Int.le_refl _,Int.le_refl _⟩
 rw[if_neg hd];exact .inl rfl
theorem Ru {last:Int} {e:Entr} (h:Cj last e=true):last≤e.t∧e.t≤1000000:=by
 unfold Cj at h
 simpa using h
theorem FilmOk.next {G:Game} {f f':Film} {e:Entr} {last n:Int} (h:FilmOk G f last n) (ht:Cj last e=true) (hs:A6 G.p f e=some f'):FilmOk G f' e.t (n+1):=by
 obtain⟨t1,t2⟩:=Ru ht;obtain⟨h1,h2,h3,h4,h5,h6,h7⟩:=h;have hen:f.en = -1∨(0≤f.en∧f.en≤e.t):=by omega
 have hsi:f.st=true→f.pa≤f.si∧f.si≤e.t:=fun q=>by have:=h4 q;omega
 obtain⟨_,h|h|h|h|h⟩:=Ch hs
 ·obtain⟨k,c1,c2,rfl⟩:=h;refine⟨(Fa (p:=HI f.x) c2).2.2,h2,by show f.pa≤e.t;omega,fun q=>absurd (c1.symm.trans q) (by decide),?_,by show 0≤f.hi∧f.hi≤n+1;omega⟩;show(if _ then e.t-f.pa else f.en) = -1∨(0≤(if _ then e.t-f.pa else f.en)∧(if _ then e.t-f.pa else f.en)≤e.t)
  by_cases hc:f.en<0∧Cl G.p (Ap G.p f.x e.m).2=true
  ·rw[if_pos hc];omega
  rw[if_neg hc];exact hen
 ·obtain⟨k,c1,c2,rfl⟩:=h;refine⟨h1,h2,by show f.pa≤e.t;omega,hsi,hen,?_⟩;show 0≤(if f.en<0 then f.hi+1 else f.hi)∧(if f.en<0 then f.hi+1 else f.hi)≤n+1
  by_cases hc:f.en<0
  ·rw[if_pos hc];omega
  rw[if_neg hc];omega
 ·obtain⟨k,c1,rfl⟩:=h;exact⟨h1,h2,by show f.pa≤e.t;omega,fun _=>⟨by show f.pa≤e.t;omega,Int.le_refl _⟩,hen,by show 0≤f.hi∧f.hi≤n+1;omega⟩
 ·obtain⟨k,c1,rfl⟩:=h;obtain⟨s1,s2⟩:=hsi c1;exact⟨h1,by show 0≤f.pa+(e.t-f.si);omega,by show f.pa+(e.t-f.si)≤e.t;omega,(fun q=>by cases q),hen,by show 0≤f.hi∧f.hi≤n+1;omega⟩
 obtain⟨k,c1,rfl⟩:=h;exact⟨h1,h2,by omega,hsi,hen,by omega⟩
theorem FL {G:GP} {l:List Entr} (h:(AC G l).1=0):(Ac G).1=0∧¬500<(l.length:Int)∧∃f,B9 G l 0 0 (A4 G) = .ok f∧AC G l=(0,0,f):=by
 unfold AC at h⊢
 by_cases hb:(Ac G).1=0
 ·rw[if_pos hb]at h⊢
  by_cases hl:500<(l.length:Int)
  ·rw[if_pos hl]at h;cases h
  rw[if_neg hl]at h⊢;cases hr:B9 G l 0 0 (A4 G)with
  |ok f=>exact⟨hb,hl,f,rfl,rfl⟩
  |error i=>rw[hr]at h;cases h
 rw[if_neg hb]at h;exact absurd h hb
def Q7 (G:GP):List Timed→Int→PX→List Entr→PX→Prop
 |[],_,x,new,y=>new=[]∧y=x
 |m::ms,last,x,new,y=>(last≤m.t∧m.t≤1000000)∧(Ap G x m.m).1=0∧∃rest,new=⟨m.t,1,m.m,0,0⟩::(Ez m.t x.1.1 (Ap G x m.m).2.1.1++rest)∧Q7 G ms m.t (Ap G x m.m).2 rest y
theorem UK {G:GP}:∀(ms:List Timed) (i last:Int) (x:PX) (out:List Entr),(recF G ms i last x out).1=0→∃new,(recF G ms i last x out).2.2.1=out++new∧Q7 G ms last x new (recF G ms i last x out).2.2.2
 |[],i,last,x,out,_=>⟨[],(List.append_nil _).symm,rfl,rfl⟩
 |m::ms,i,last,x,out,h=>by
  unfold recF at h⊢
  by_cases ht:(decide (last≤m.t)&&decide (m.t≤1000000))=true
  ·rw[if_pos ht]at h⊢
   by_cases hs:(Ap G x m.m).1=0
   ·rw[if_pos hs]at h⊢;obtain⟨new,h1,h2⟩:=UK ms (i+1) m.t (Ap G x m.m).2 _ h;refine⟨⟨m.t,1,m.m,0,0⟩::(Ez m.t x.1.1 (Ap G x m.m).2.1.1++new),by rw[h1];simp,by simpa using ht,hs,new,rfl,h2⟩
   rw[if_neg hs]at h;cases h
  rw[if_neg ht]at h;cases h
theorem CO {G:GP} {e:Entr} {l:List Entr} {i last:Int} {f f':Film} (ht:Cj last e=true) (hs:A6 G f e=some f'):B9 G (e::l) i last f=B9 G l (i+1) e.t f':=by
 rw[B9,if_pos ht,hs]
theorem H9 {G:GP} {f:Film} {t:Int} {rest:List Entr}:∀(S:List Entr) (i:Int),(∀e∈S,e.t=t∧Cj t e=true∧A6 G f e=some f)→B9 G (S++rest) i t f=B9 G rest (i+S.length) t f
 |[],i,_=>by simp
 |e::S,i,h=>by
  obtain⟨h1,h2,h3⟩:=h e List.mem_cons_self;rw[List.cons_append,CO h2 h3,h1,H9 S (i+1) fun x hx=>h x (List.mem_cons_of_mem _ hx)];congr 1;simp only[List.length_cons];omega
theorem Jx {t:Int} {old new:List Int} {e:Entr} (h:e∈Ez t old new):e.t=t∧e.k=5∧e.m=mv0∧0≤e.a∧e.a<new.length∧e.b=nth new e.a:=by
 unfold Ez at h;obtain⟨k,hk,rfl⟩:=List.mem_map.1 h;have:=RY.1 (List.mem_filter.1 hk).1;exact⟨rfl,rfl,rfl,this.1,this.2,rfl⟩
theorem H5 {G:GP} {f:Film} {t:Int} {old:List Int} (ht:t≤1000000) {e:Entr} (h:e∈Ez t old f.x.1.1):e.t=t∧Cj t e=true∧A6 G f e=some f:=by
 obtain⟨h1,h2,h3,h4,h5,h6⟩:=Jx h;refine⟨h1,by unfold Cj;rw[h1];simp;exact ht,?_⟩;have hf:DQ e=true:=by unfold DQ;rw[h2,h3];rfl
 unfold A6;rw[if_pos hf,if_neg (by omega),if_neg (by omega),if_neg (by omega),if_neg (by omega),if_pos ⟨h4,by omega,h6.symm⟩]
theorem OO {G:GP} {f:Film} {m:Timed} (hst:f.st=false) (hs:(Ap G f.x m.m).1=0):
  A6 G f ⟨m.t,1,m.m,0,0⟩=some {f with x:=(Ap G f.x m.m).2,en:=if f.en<0∧Cl G (Ap G f.x m.m).2=true then m.t-f.pa else f.en}:=by
 unfold A6;rw[if_pos (show DQ ⟨m.t,1,m.m,0,0⟩=true from rfl),if_pos rfl,if_pos ⟨hst,hs⟩]
theorem HX {G:Game} {x:PX} (h:posG G.p x=0):x.1.1.length=G.rm.ths.l.length:=(BJ (p:=HI x) h).inn.lt
theorem R9 {G:GP} {ms:List Timed} (h:(AB G ms).1=0):(Ac G).1=0∧((AB G ms).2.2.length:Int)≤500∧∃y,Q7 G ms 0 (Ac G).2 (AB G ms).2.2 y:=by
 unfold AB at h⊢
 by_cases hb:(Ac G).1=0
 ·rw[if_pos hb]at h⊢
  by_cases hr:(recF G ms 0 0 (Ac G).2 []).1=0
  ·rw[if_pos hr]at h⊢
   by_cases hl:500<((recF G ms 0 0 (Ac G).2 []).2.2.1.length:Int)
   ·rw[if_pos hl]at h;cases h
   rw[if_neg hl]at h⊢;obtain⟨new,h1,h2⟩:=UK ms 0 0 _ _ hr;rw[List.nil_append]at h1;refine⟨hb,by show((recF G ms 0 0 (Ac G).2 []).2.2.1.length:Int)≤500;omega,(recF G ms 0 0 (Ac G).2 []).2.2.2,?_⟩;show Q7 G ms 0 (Ac G).2 (recF G ms 0 0 (Ac G).2 []).2.2.1 _;rw[h1];exact h2
  rw[if_neg hr]at h;exact absurd h hr
 rw[if_neg hb]at h;exact absurd h hb
theorem EI:agq2 prog 51=some [(0,0),(1,0),(2,0),(3,0),(4,0),(5,0),(6,0)]:=by kernel_rfl
theorem CQ (x y:Entr):cmps (cEntry.cells x) (cEntry.cells y) [(0,0),(1,0),(2,0),(3,0),(4,0),(5,0),(6,0)]=some (decide (x=y)):=by
 cases x with
 |mk xt xk xm xa xb=>
  cases y with
  |mk yt yk ym ya yb=>
   cases xm;cases ym
   simp only[cmps,cmp1,cEntry,List.getElem?_cons_zero,List.getElem?_cons_succ,Entr.mk.injEq,Move.mk.injEq];simp[and_assoc]
def RetT {α:Type} (C:Cel α) (w:World) (x:List α) (f:Value→Value):Ending→World→Prop:=fun e w'=>∃v:Value,(∃u0,SlT C u0 ⟨v,x⟩)∧RetF w (f v) (roT C ⟨v,x⟩) e w'
theorem retT {α:Type} {C:Cel α} {w0 u:World} {L:List SA} {e:TypeId} {j:Nat} {v:Value} {xs:List α} {f:Value→Value} (hC:∀u,∀a∈xs,C.ok u a) (hj:L[j]? = some (oT C e v xs)) (hu:St w0.heap.size w0 L u):RetT C w0 xs f (.returned (f v)) u:=
 ⟨v,⟨u,CF hu hj (hC u)⟩,retR (fun S u h=>⟨Star.osl hj h,hC u⟩) u hu⟩
theorem S0 {α:Type} {C:Cel α} {w0 u:World} {L:List SA} {f:Value→Value} (hu:St w0.heap.size w0 L u):RetT C w0 [] f (.returned (f (.slice none 0 0))) u:=
 ⟨_,⟨u,SlT.nil C u⟩,retR (fun S u h=>SlT.nil C u) u hu⟩
theorem CE (n lo hi:Int) (w:World):
  Calls prog 28 #[.int .i64 n,.int .i64 lo,.int .i64 hi] w (RetB w (.bool (decide (lo≤n)&&decide (n≤hi)))):=by
 refine En func28 ?_;refine Nz 1 ?_;refine Nx 4 ?_;refine Wj 0 ?_;refine Wj 0 ?_;refine Wj 0 ?_;refine Wk 1 Pa ?_;exact Wd (Qc (Cr (out1 rfl rfl (Ab (by simp)))))
theorem Jaz (G:Game) (y:Pos) (f:Film) (fb:Nat) (e:TypeId) (w:World) (hb:BlkAt w fb (fcl G y f) e) (n:Int) (h1:0≤f.pa∧f.pa≤1000000) (h2:0≤n∧n≤1000000) (h3:f.st=false):
  Calls prog 106 #[.pointer (some ⟨fb,0,none⟩),.int .i64 n] w (RetB w (.int .i64 (n-f.pa))):=by
 refine En func106 ?_;refine Nz 1 ?_;refine Nv 3 ?_;refine Wk 0 Ga ?_;refine Wp ?_ ?_<;>intro hc1
 ·exact absurd (h3.symm.trans hc1) (by decide)
 refine Ck (Qc (Nz 4 ?_));refine Wk 0 Ga ?_;refine Wk 1 Zb ?_;exact Wd (Qc (Cr (out1 rfl rfl (Ab rfl))))
theorem Uw (G:Game) (w:World) (hG:GameOk w G) (hn:NearG G) (g:Sl ByteArray) (hW:GOk w g) (y:Pos) (hy:PosOk w y) (f:Film) (hyx:y.x=f.x) (hq:posG G.p f.x=0) (fb:Nat) (e:TypeId) (hb:BlkAt w fb (fcl G y f) e):
  Calls prog 65 #[.pointer (some ⟨fb,0,none⟩)] w (RetB w (.bool (Cl G.p f.x))):=by
 have hP:=BJ (p:=y) (by rw[hyx];exact hq);have hS:stL G.rm y.st.x=0:=CR.2 ⟨hP.ck,hP.inn⟩;have hgc:D6 G.rm.ths.l G.rm.gl.l=true:=Jk (BH (Fu hP.ck)).2;have hhv:HoldsV G.rm y.st.x G.rm.gl.l=(0,Bt y.st.x.1 G.rm.gl.l):=(if_pos hS).trans (if_pos hgc);have hdx:Cl G.p f.x=Bt y.st.x.1 G.rm.gl.l:=by unfold Cl;rw[←hyx,←G.p_alike.gl];rfl
 refine En func65 ?_;refine Nz 1 ?_;refine Wd (Qc (Cs (Dr mixed 4 ?_)));refine Dk 4 (FF (n:=8) (cs:=[G.rm.pls.v,G.rm.ths.v,G.rm.prs.v,G.rm.wys.v,G.rm.acs.v,G.rm.aus.v,.int .i64 G.rm.ply,G.rm.gl.v]) rfl hb rfl rfl tk31) ?_;refine Dk 0 (FF (n:=3) (cs:=[y.st.ths.v,y.st.prs.v,y.st.pls.v]) rfl hb rfl rfl tk95) ?_;refine Dk 5 (Cb rfl rfl Yo (fun u hu=>(by have q:=Qf G.rm u (hG.rm.st hu) g (hW.st hu) hn.rm y.st (hy.st.st hu);rw[hhv]at q;exact q))) ?_;refine Dd (Qc (Nz 3 ?_));refine Wj 0 ?_;refine Wk 1 Pa ?_;exact Wd (Qc (Cr (out1 rfl rfl (Ab (by rw[hdx];simp)))))
theorem St.mergeK {n0:Nat} {w0 u:World} {T R:SA} {z y:Pos} {K:World→Prop} (h:St n0 w0 [T,(roS fun u=>PosOk u z),(roS fun u=>PosOk u y∧K u),R] u):St n0 w0 [T,(roS fun u=>PosOk u z∧K u),R] u:=
 ((St.roAnd (h.sel [1,1,0,0] rfl)).roMap fun _ hu=>⟨hu.1,hu.2.2⟩).sel [1,0,0] rfl
theorem MX {w u:World} (K:World→Prop) (R:SA) (G:Game) (hG:GameOk w G) (hn:NearG G) (g:Sl ByteArray) (hW:GOk w g) (fb:Nat) (y:Pos) (f:Film) (hyx:y.x=f.x) (hq:posG G.p f.x=0) (m:Move) (hu:St w.heap.size w [blk fb (fcl G y f) 100,(roS fun u=>PosOk u y∧K u),R] u):
  Calls prog 30 #[.pointer (some ⟨fb,0,none⟩),.agg #[.int .i64 m.p,.int .i64 m.k,.int .i64 m.n]] u (fun e u'=>∃z:Pos,(z.x=(if(Ap G.p f.x m).1=0 then(Ap G.p f.x m).2 else f.x)∧∃u0,PosOk u0 z)∧e = .returned (.bool (decide ((Ap G.p f.x m).1=0)))∧St w.heap.size w [blk fb (fcl G z f) 100,(roS fun u=>PosOk u z∧K u),R] u'):=by
 refine Ei hu func30 ?_;refine Nz 0 ?_;refine Wr 1 fun b3 hb3=>?_;refine Wd (Qc (Cs ?_));refine CS.drawnAll (k:=16) mixed rfl rfl ?_;refine Ar [0,1,2] ?_;refine Ak 3 [4,5,6] rfl (Bc 1) ?_;refine Ak 7 [] rfl (Bc 1) ?_;refine Ak 8 [] rfl (Bb 0) ?_;refine AS.two (i:=9) (j:=13) (by kernel_rfl) rfl rfl (by exact fun _ h=>h) rfl rfl ?_ ?_
 ·refine Wc rfl rfl TC (fun u hu=>(by have q:=Iv G u (hG.st hu) g (hW.st hu) hn y (hu.ro (j:=2) rfl).1 m;rw[hyx]at q;exact q)) (fun _=>rfl) ?_;rintro z ⟨hzx,uz,hzok⟩;obtain⟨hza,hzb,hzc⟩:=hzok.st.ones;have hzd:=Sl.one hzok.rd;refine Wd (Qa ?_);refine Ar [10,11,12] ?_;refine Ao 13 rfl ?_;refine Wq 0 zv98 fun b5 hb5=>?_;refine Wd (Qa ?_);refine Ao 14 rfl ?_;refine Wv 0 0 ?_;refine Wd (Qa ?_);refine Ar [15] ?_;refine Ae ?_;refine Qc (Cs (Nz 2 ?_));refine Wp ?_ ?_<;>intro hc1
  ·refine Nz 1 ?_;exact Wd (Qc (Cr (Qr (out1 rfl rfl (fun u hu=>⟨y,⟨by rw[if_neg hc1];exact hyx,u,(hu.ro (j:=4) rfl).1⟩,by rw[decide_eq_false hc1],hu.sel [3,3,3] rfl⟩)))))
  refine Ck (Qc (Nz 1 ?_));refine Wk 2 (Bb 0) ?_;refine WS.storeP rfl (j:=3) rfl rfl rfl (by simp[hza,hzb,hzc,hzd]) tk98 rfl rfl ?_;refine Nx 1 ?_;exact Wd (Qc (Cr (out1 rfl rfl (fun u hu=>⟨z,⟨by rw[if_pos hc1];exact hzx,u,hu.ro (j:=1) rfl⟩,by rw[decide_eq_true hc1],(hu.sel [3,1,2,2] rfl).mergeK⟩))))
 refine Wq 0 zv98 fun b5 hb5=>?_;refine Wd (Qa ?_);refine Ao 9 rfl ?_;refine Wc rfl rfl TC (fun u hu=>(by have q:=Iv G u (hG.st hu) g (hW.st hu) hn y (hu.ro (j:=3) rfl).1 m;rw[hyx]at q;exact q)) (fun _=>rfl) ?_;rintro z ⟨hzx,uz,hzok⟩;obtain⟨hza,hzb,hzc⟩:=hzok.st.ones;have hzd:=Sl.one hzok.rd;refine Wd (Qa ?_);refine Ar [10,11,12] ?_;refine Ao 14 rfl ?_;refine Wv 0 1 ?_;refine Wd (Qa ?_);refine Ar [15] ?_;refine Ae ?_;refine Qc (Cs (Nz 2 ?_));refine Wp ?_ ?_<;>intro hc2
 ·refine Nz 1 ?_;exact Wd (Qc (Cr (Qr (out1 rfl rfl (fun u hu=>⟨y,⟨by rw[if_neg hc2];exact hyx,u,(hu.ro (j:=4) rfl).1⟩,by rw[decide_eq_false hc2],hu.sel [3,3,3] rfl⟩)))))
 refine Ck (Qc (Nz 1 ?_));refine Wk 2 (Bb 1) ?_;refine WS.storeP rfl (j:=3) rfl rfl rfl (by simp[hza,hzb,hzc,hzd]) tk98 rfl rfl ?_;refine Nx 1 ?_;exact Wd (Qc (Cr (out1 rfl rfl (fun u hu=>⟨z,⟨by rw[if_pos hc2];exact hzx,u,hu.ro (j:=0) rfl⟩,by rw[decide_eq_true hc2],(hu.sel [3,0,2,2] rfl).mergeK⟩))))
theorem Vl {w u:World} (R:SA) (G:Game) (hG:GameOk w G) (hn:NearG G) (g:Sl ByteArray) (hW:GOk w g) (fb:Nat) (y:Pos) (f:Film) (hyx:y.x=f.x) (hq:posG G.p f.x=0) (m:Move) (hu:St w.heap.size w [blk fb (fcl G y f) 100,roS fun u=>PosOk u y,R] u):
  Calls prog 30 #[.pointer (some ⟨fb,0,none⟩),.agg #[.int .i64 m.p,.int .i64 m.k,.int .i64 m.n]] u (fun e u'=>∃z:Pos,(z.x=(if(Ap G.p f.x m).1=0 then(Ap G.p f.x m).2 else f.x)∧∃u0,PosOk u0 z)∧e = .returned (.bool (decide ((Ap G.p f.x m).1=0)))∧St w.heap.size w [blk fb (fcl G z f) 100,roS fun u=>PosOk u z,R] u'):=by
 have q:=MX (fun _=>True) R G hG hn g hW fb y f hyx hq m (by simpa only[and_true]using hu)
 simpa only[and_true]using q
theorem K9 {G:GP} {f:Film} {x:Entr} (hk:x.k=1):A6 G f x=if(x.a=0∧x.b=0)∧f.st=false∧(Ap G f.x x.m).1=0 then some {f with x:=(Ap G f.x x.m).2,en:=if f.en<0∧Cl G (Ap G f.x x.m).2=true then x.t-f.pa else f.en}else none:=by
 have hf:DQ x=(decide (x.a=0)&&decide (x.b=0)):=by unfold DQ;rw[if_pos hk]
 unfold A6;rw[hf]
 by_cases h1:x.a=0∧x.b=0
 ·rw[if_pos (by simp[h1])]
  by_cases h2:f.st=false∧(Ap G f.x x.m).1=0
  ·rw[if_pos hk,if_pos h2];exact(if_pos ⟨h1,h2⟩).symm
  rw[if_pos hk,if_neg h2,if_neg fun q=>h2 q.2]
 rw[if_neg (by simp;intro a b;exact h1 ⟨a,b⟩),if_neg fun q=>h1 q.1]
theorem Jr {G:GP} {f:Film} {x:Entr} (hk:x.k=2):A6 G f x=if(x.m=mv0∧x.b=0)∧f.st=false∧0≤x.a∧x.a≤1000 then some {f with hi:=if f.en<0 then f.hi+1 else f.hi}else none:=by
 have hf:DQ x=(decide (x.m=mv0)&&decide (x.b=0)):=by unfold DQ;rw[if_neg (by omega),if_pos hk]
 unfold A6;rw[hf]
 by_cases h1:x.m=mv0∧x.b=0
 ·rw[if_pos (by simp[h1]),if_neg (by omega),if_pos hk]
  by_cases h2:f.st=false∧0≤x.a∧x.a≤1000
  ·rw[if_pos h2];exact(if_pos ⟨h1,h2⟩).symm
  rw[if_neg h2,if_neg fun q=>h2 q.2]
 rw[if_neg (by simp;intro a b;exact h1 ⟨a,b⟩),if_neg fun q=>h1 q.1]
theorem OQ {G:GP} {f:Film} {x:Entr} (hk:x.k=3):A6 G f x=if(x.m=mv0∧x.a=0∧x.b=0)∧f.st=false then some {f with st:=true,si:=x.t}else none:=by
 have hf:DQ x=(decide (x.m=mv0)&&(decide (x.a=0)&&decide (x.b=0))):=by unfold DQ;rw[if_neg (by omega),if_neg (by omega),if_pos (by omega)]
 unfold A6;rw[hf]
 by_cases h1:x.m=mv0∧x.a=0∧x.b=0
 ·rw[if_pos (by simp[h1]),if_neg (by omega),if_neg (by omega),if_pos hk]
  by_cases h2:f.st=false
  ·rw[if_pos h2];exact(if_pos ⟨h1,h2⟩).symm
  rw[if_neg h2,if_neg fun q=>h2 q.2]
 rw[if_neg (by simp;intro a b c;exact h1 ⟨a,b,c⟩),if_neg fun q=>h1 q.1]
theorem Q4 {G:GP} {f:Film} {x:Entr} (hk:x.k=4):A6 G f x=if(x.m=mv0∧x.a=0∧x.b=0)∧f.st=true then some {f with st:=false,pa:=f.pa+(x.t-f.si)}else none:=by
 have hf:DQ x=(decide (x.m=mv0)&&(decide (x.a=0)&&decide (x.b=0))):=by unfold DQ;rw[if_neg (by omega),if_neg (by omega),if_pos (by omega)]
 unfold A6;rw[hf]
 by_cases h1:x.m=mv0∧x.a=0∧x.b=0
 ·rw[if_pos (by simp[h1]),if_neg (by omega),if_neg (by omega),if_neg (by omega),if_pos hk]
  by_cases h2:f.st=true
  ·rw[if_pos h2];exact(if_pos ⟨h1,h2⟩).symm
  rw[if_neg h2,if_neg fun q=>h2 q.2]
 rw[if_neg (by simp;intro a b c;exact h1 ⟨a,b,c⟩),if_neg fun q=>h1 q.1]
theorem QV {G:GP} {f:Film} {x:Entr} (hk:x.k=5):A6 G f x=if x.m=mv0∧0≤x.a∧x.a≤(f.x.1.1.length:Int)-1∧nth f.x.1.1 x.a=x.b then some f else none:=by
 have hf:DQ x=decide (x.m=mv0):=by unfold DQ;rw[if_neg (by omega),if_neg (by omega),if_neg (by omega),if_pos hk]
 unfold A6;rw[hf]
 by_cases h1:x.m=mv0
 ·rw[if_pos (by simp[h1]),if_neg (by omega),if_neg (by omega),if_neg (by omega),if_neg (by omega)]
  by_cases h2:0≤x.a∧x.a≤(f.x.1.1.length:Int)-1∧nth f.x.1.1 x.a=x.b
  ·rw[if_pos h2];exact(if_pos ⟨h1,h2⟩).symm
  rw[if_neg h2,if_neg fun q=>h2 q.2]
 rw[if_neg (by simp[h1]),if_neg fun q=>h1 q.1]
theorem Vo {G:GP} {f:Film} {x:Entr} (h1:¬x.k=1) (h2:¬x.k=2) (h3:¬x.k=3) (h4:¬x.k=4) (h5:¬x.k=5):A6 G f x=none:=by
 cases h:A6 G f x with
 |none=>rfl
 |some f'=>
  have:=O3 (Ch h).1;omega
theorem St.out2 {n0:Nat} {w0 u:World} {A B:List SA} {t a:SA} (h:St n0 w0 (A++[t,a]++B) u):St n0 w0 [t,a,YtmoojmgihdgceaaGreatDoor.star (A++B)] u:=by
 have h1:St n0 w0 ((A++B)++[t,a]) u:=h.perm (by
  rw[List.append_assoc,List.append_assoc]
  exact List.Perm.append_left A List.perm_append_comm)
 have h2:=h1.pack
 exact h2.perm (by
  show([YtmoojmgihdgceaaGreatDoor.star (A++B)]++[t,a]).Perm ([t,a]++[YtmoojmgihdgceaaGreatDoor.star (A++B)])
  exact List.perm_append_comm)
theorem St.in2 {n0:Nat} {w0 u:World} {A B:List SA} {t a:SA} (h:St n0 w0 [t,a,YtmoojmgihdgceaaGreatDoor.star (A++B)] u):St n0 w0 (A++[t,a]++B) u:=by
 have h1:St n0 w0 (YtmoojmgihdgceaaGreatDoor.star (A++B)::[t,a]) u:=h.perm (by
  show([t,a]++[YtmoojmgihdgceaaGreatDoor.star (A++B)]).Perm ([YtmoojmgihdgceaaGreatDoor.star (A++B)]++[t,a])
  exact List.perm_append_comm)
 have h2:=h1.unpack
 exact h2.perm (by
  rw[List.append_assoc,List.append_assoc]
  exact List.Perm.append_left A List.perm_append_comm)
theorem Sy {w u:World} (A B:List SA) (G:Game) (hG:GameOk w G) (hn:NearG G) (g:Sl ByteArray) (hW:GOk w g) (fb:Nat) (y:Pos) (f:Film) (hyx:y.x=f.x) (hq:posG G.p f.x=0) (m:Move) (hu:St w.heap.size w (A++[blk fb (fcl G y f) 100,roS fun u=>PosOk u y]++B) u):
  Calls prog 30 #[.pointer (some ⟨fb,0,none⟩),.agg #[.int .i64 m.p,.int .i64 m.k,.int .i64 m.n]] u (fun e u'=>∃z:Pos,(z.x=(if(Ap G.p f.x m).1=0 then(Ap G.p f.x m).2 else f.x)∧∃u0,PosOk u0 z)∧e = .returned (.bool (decide ((Ap G.p f.x m).1=0)))∧St w.heap.size w (A++[blk fb (fcl G z f) 100,roS fun u=>PosOk u z]++B) u'):=by
 refine Calls.mono (Vl (star (A++B)) G hG hn g hW fb y f hyx hq m hu.out2) ?_;rintro e u' ⟨z,h1,h2,h3⟩;exact⟨z,h1,h2,h3.in2⟩
theorem QU {w u:World} (K:World→Prop) (A B:List SA) (G:Game) (hG:GameOk w G) (hn:NearG G) (g:Sl ByteArray) (hW:GOk w g) (fb:Nat) (y:Pos) (f:Film) (hyx:y.x=f.x) (hq:posG G.p f.x=0) (m:Move) (hu:St w.heap.size w (A++[blk fb (fcl G y f) 100,(roS fun u=>PosOk u y∧K u)]++B) u):
  Calls prog 30 #[.pointer (some ⟨fb,0,none⟩),.agg #[.int .i64 m.p,.int .i64 m.k,.int .i64 m.n]] u (fun e u'=>∃z:Pos,(z.x=(if(Ap G.p f.x m).1=0 then(Ap G.p f.x m).2 else f.x)∧∃u0,PosOk u0 z)∧e = .returned (.bool (decide ((Ap G.p f.x m).1=0)))∧St w.heap.size w (A++[blk fb (fcl G z f) 100,(roS fun u=>PosOk u z∧K u)]++B) u'):=by
 refine Calls.mono (MX K (star (A++B)) G hG hn g hW fb y f hyx hq m hu.out2) ?_;rintro e u' ⟨z,h1,h2,h3⟩;exact⟨z,h1,h2,h3.in2⟩
theorem FQ {α:Type} {c:Prop} [Decidable c] {a:α}:(if c then some a else none).isSome=decide c:=by
 by_cases h:c
 ·rw[if_pos h,decide_eq_true h];rfl
 rw[if_neg h,decide_eq_false h];rfl
theorem Gr {α:Type} [Inhabited α] {P:Program} {n0:Nat} {w0:World} {L:List SA} {l:List Value} {d:Option Tmp} {ty:TypeId} {ps:String} {af:Array Edge} {g:Option (Nat×Bool)} {C:Cel α} {X:World→Prop} {T:TypeId} {z:Nat} (jj:Nat) {x:Operand} {y:Value} {s:Sl α} {i:Int}
  (hj':L[jj]? = some (roS X)) (hX:∀u,X u→SlT C u s) (hx:evo l x=some (.pointer (some (sla s.v (i.toNat*1))))) (hk:C.k=1) (h:0≤i∧i<s.l.length)
  (hc:(C.cells (nth s.l i))[0]? = some y) (hT:tk P T=some (false,z)):Det P (St n0 w0 L) ⟨d,.load T x,ty,ps,af,g⟩ l y:=by
 exact B7 (k:=1) hx (fun _ hu=>hk▸(hX _ (St.ro hj' hu)).sp) (by have:=BK C h.1 h.2 0 (by omega);rw[hk,Nat.add_zero]at this;rw[this];exact hc) hT
theorem LD {w u:World} (K:World→Prop) (R:SA) (G:Game) (hG:GameOk w G) (hn:NearG G) (g:Sl ByteArray) (hW:GOk w g) (fb:Nat) (y:Pos) (f:Film) (hyx:y.x=f.x) (x:Entr) (last n:Int) (hF:FilmOk G f last n) (htm:Cj last x=true) (hnn:n≤1000) (hu:St w.heap.size w [blk fb (fcl G y f) 100,(roS fun u=>PosOk u y∧K u),R] u):
  Calls prog 67 #[.pointer (some ⟨fb,0,none⟩),.agg #[.int .i64 x.t,.int .i64 x.k,.int .i64 x.m.p,.int .i64 x.m.k,.int .i64 x.m.n,.int .i64 x.a,.int .i64 x.b]] u (fun e u'=>∃q:Pos×Film,(q.1.x=q.2.x∧(∃u0,PosOk u0 q.1)∧∀f',(A6 G.p f x)=some f'→q.2=f')∧e = .returned (.bool (A6 G.p f x).isSome)∧St w.heap.size w [blk fb (fcl G q.1 q.2) 100,(roS fun u=>PosOk u q.1∧K u),R] u'):=by
 have hq:=hF.pos;obtain⟨t1,t2⟩:=Ru htm;have hp0:=hF.pa0;have hp1:=hF.pa1;have hsi:=hF.si;have hhi:=hF.hi;have hyT:=(hu.ro (j:=1) rfl).1.st.ths;have hyle:=hyT.le;have hyl:f.x.1.1=y.st.ths.l:=by rw[←hyx];rfl
 refine Ei hu func67 ?_;refine Nz 0 ?_;refine Wr 1 fun b3 hb3=>?_;refine Nx 0 ?_;refine Wk 0 (Bb 0) ?_;refine Wq 0 zv51 fun b5 hb5=>?_;refine Wv 0 0 ?_;refine Nx 1 ?_;refine Ws 1 0 ?_;refine Ws 0 0 ?_;refine Nv 1 ?_;refine Wk 0 (Ba 1) ?_;refine Wd (Qc (Ce (Nz 2 ?_)));refine Wp ?_ ?_<;>intro hc1
 ·refine Nz 0 ?_;refine Wk 1 (Db W3 zv49) ?_;refine WS.storeP rfl (j:=0) rfl rfl rfl (by simp[Value.oneCell']) tk49 rfl rfl ?_;refine Wd (Qc (Cs (Cs ?_)));rcases Bool.eq_false_or_eq_true ((!decide ((⟨0,0,mv0,x.a,x.b⟩:Entr)=(⟨0,0,mv0,0,0⟩:Entr)))||f.st)with hb|hb
  ·refine Ny 0 ?_;refine Wk 0 (Bb 0) ?_;refine Wk 0 (Db IH zv51) ?_;refine Wk 1 (Es EI rfl rfl (CQ (⟨0,0,mv0,x.a,x.b⟩:Entr) (⟨0,0,mv0,0,0⟩:Entr))) ?_;refine We 0 ?_;refine We 0 ?_;refine We 0 ?_;refine We 0 ?_;refine Wk 0 Po ?_;refine Wk 0 (Bp (v:=.bool true) (congrArg (fun b=>some (Value.bool b)) hb)) ?_;refine Wf 0 rfl rfl (fun hg=>Fy_ (by cases hg)) ?_;refine Wf 0 rfl rfl (fun hg=>Fy_ (by cases hg)) ?_;refine Wf 0 rfl rfl (fun hg=>Fy_ (by cases hg)) ?_;refine Wf 0 rfl rfl (fun hg=>Fy_ (by cases hg)) ?_;refine Wf 0 rfl rfl (fun hg=>Fz_ (by cases hg)) ?_;refine Wk 0 Po ?_;refine Wp ?_ ?_<;>intro hc2
   ·have hno:A6 G.p f x=none:=by
     rw[K9 hc1,if_neg (by rintro⟨h1,h2,h3⟩;simp[h1.1,h1.2,h2]at hb)]
    refine Nz 1 ?_;exact Wd (Qc (Cr (Qr (Qs (Qr (out1 rfl rfl (fun u hu=>(by exact⟨(y,f),⟨hyx,⟨u,(hu.ro (j:=3) rfl).1⟩,fun f9 h9↦by rw[hno]at h9;cases h9⟩,by rw[hno];rfl,hu.sel [2,2,2] rfl⟩))))))))
   exact absurd hc2 (by simp)
  refine Ny 0 ?_;refine Wk 0 (Bb 0) ?_;refine Wk 0 (Db IH zv51) ?_;refine Wk 1 (Es EI rfl rfl (CQ (⟨0,0,mv0,x.a,x.b⟩:Entr) (⟨0,0,mv0,0,0⟩:Entr))) ?_;refine We 0 ?_;refine We 0 ?_;refine We 0 ?_;refine We 0 ?_;refine Wk 0 Po ?_;refine Wk 0 (Bp (v:=.bool false) (congrArg (fun b=>some (Value.bool b)) hb)) ?_;refine We 0 ?_;refine We 0 ?_;refine Wf 0 rfl rfl (fun hg=>Bc 1) ?_;refine WS.callSg (want:=false) (j:=9) rfl rfl rfl Zj (fun u hu=>QU K [_,_] [R] G hG hn g hW fb y f hyx hq x.m hu) (fun _=>rfl) ?_;rintro z ⟨hzx,uz,hzok⟩;obtain⟨hza,hzb,hzc⟩:=hzok.st.ones;have hzd:=Sl.one hzok.rd;refine We 0 ?_;refine Wk 0 Po ?_;refine Wp ?_ ?_<;>intro hc2
  ·have hS:¬(Ap G.p f.x x.m).1=0:=by first|exact hc2|simpa using hc2
   have hzx2:z.x=f.x:=by rw[hzx,if_neg hS]
   have hno:A6 G.p f x=none:=by
    rw[K9 hc1,if_neg (by rintro⟨h1,h2,h3⟩;exact hS h3)]
   refine Nz 1 ?_;exact Wd (Qc (Cr (Qr (Qs (Qr (out1 rfl rfl (fun u hu=>(by exact⟨(z,f),⟨hzx2,⟨u,(hu.ro (j:=3) rfl).1⟩,fun f9 h9↦by rw[hno]at h9;cases h9⟩,by rw[hno];rfl,hu.sel [2,2,2] rfl⟩))))))))
  have hS:(Ap G.p f.x x.m).1=0:=by first|exact hc2|simpa using hc2
  have hzx2:z.x=(Ap G.p f.x x.m).2:=by rw[hzx,if_pos hS]
  have hgd:=Fa (p:=HI f.x) hS;have hab:x.a=0∧x.b=0:=by simp at hb;exact hb.1
  have hst:f.st=false:=by simp at hb;exact hb.2
  have hso:=(K9 (G:=G.p) (f:=f) hc1).trans (if_pos ⟨hab,hst,hS⟩);refine Ck (Qc (Cs (Nz 3 ?_)));refine Wk 2 (Ba 2) ?_;refine Wj 0 ?_;refine Wt 0 rfl rfl (fun hg=>Cb rfl (ec_ (eg_ hg rfl) en_) Zn (fun u hu=>Uw G u (hG.st hu) hn g (hW.st hu) z (hu.ro (j:=3) rfl).1 {f with x:=(Ap G.p f.x x.m).2} hzx2 hgd.2.2 fb _ (AD hu (j:=2) rfl))) ?_;refine Wk 0 Pa ?_;refine Wp ?_ ?_<;>intro hc3
  ·have hen:f.en<0∧Cl G.p (Ap G.p f.x x.m).2=true:=by simpa using hc3
   rw[if_pos hen]at hso;refine Ny 3 ?_;refine Wk 0 (Ba 1) ?_;refine Wk 2 (Cb rfl rfl YG (fun u hu=>Jaz G z f fb _ u (AD hu (j:=2) rfl) x.t ⟨hp0,by omega⟩ ⟨by omega,t2⟩ hst)) ?_;refine Ws 0 2 ?_;refine Nx 1 ?_;exact Wd (Qc (Cr (Qs (Qr (out1 rfl rfl (fun u hu=>(by exact⟨(z,{f with x:=(Ap G.p f.x x.m).2,en:=x.t-f.pa}),⟨hzx2,⟨u,(hu.ro (j:=3) rfl).1⟩,fun f9 h9↦by rw[hso]at h9;exact Option.some.inj h9⟩,by rw[hso];rfl,hu.sel [2,2,2] rfl⟩)))))))
  have hen:¬(f.en<0∧Cl G.p (Ap G.p f.x x.m).2=true):=by have h9:=hc3;simp at h9;rintro⟨h7,h8⟩;rw[h8]at h9;rcases h9 with h9|h9;omega;cases h9
  rw[if_neg hen]at hso;refine Ck (Qc (Nz 1 ?_));exact Wd (Qc (Cr (Qs (Qr (out1 rfl rfl (fun u hu=>(by exact⟨(z,{f with x:=(Ap G.p f.x x.m).2,en:=f.en}),⟨hzx2,⟨u,(hu.ro (j:=3) rfl).1⟩,fun f9 h9↦by rw[hso]at h9;exact Option.some.inj h9⟩,by rw[hso];rfl,hu.sel [2,2,2] rfl⟩)))))))
 refine Nz 2 ?_;refine Wp ?_ ?_<;>intro hc4
 ·refine Nz 1 ?_;refine Ws 0 0 ?_;refine Nv 3 ?_;refine Wk 1 (Ba 2) ?_;refine Wp ?_ ?_<;>intro hc5
  ·refine Ny 3 ?_;refine Wk 0 (Ba 2) ?_;refine Wk 2 Za ?_;refine Ws 0 2 ?_;refine Nx 0 ?_;refine Wk 0 (Bb 0) ?_;refine Wk 0 (Db IH zv51) ?_;refine Wk 1 (FP EI rfl rfl (CQ (⟨0,0,x.m,0,x.b⟩:Entr) (⟨0,0,mv0,0,0⟩:Entr))) ?_;refine Wj 0 ?_;refine Wj 0 ?_;refine Wj 0 ?_;refine Wj 0 ?_;refine Wj 0 ?_;refine Wk 1 Pa ?_;refine Wj 0 ?_;refine Wj 0 ?_;refine Wt 0 rfl rfl (fun hg=>Cb rfl (ec_ (eg_ hg rfl) (ec_ rfl (ec_ rfl en_))) J2 (fun u hu=>CE _ _ _ u)) ?_;refine Wk 1 Pa ?_;exact Wd (Qc (Cr (Qs (Qr (out1 rfl rfl (fun u hu=>(by exact⟨(y,{f with hi:=f.hi+1}),⟨hyx,⟨u,(hu.ro (j:=3) rfl).1⟩,fun f9 h9↦by rw[Jr hc4,if_pos hc5]at h9;split at h9;exact Option.some.inj h9;cases h9⟩,by rw[Jr hc4];exact congrArg (fun b↦Ending.returned (Value.bool b)) (by rw[FQ,Bool.eq_iff_iff];simp<;>grind),hu.sel [2,2,2] rfl⟩)))))))
  refine Ck (Qc (Nz 0 ?_));refine Wk 0 (Bb 0) ?_;refine Wk 0 (Db IH zv51) ?_;refine Wk 1 (FP EI rfl rfl (CQ (⟨0,0,x.m,0,x.b⟩:Entr) (⟨0,0,mv0,0,0⟩:Entr))) ?_;refine Wj 0 ?_;refine Wj 0 ?_;refine Wj 0 ?_;refine Wj 0 ?_;refine Wj 0 ?_;refine Wk 1 Pa ?_;refine Wj 0 ?_;refine Wj 0 ?_;refine Wt 0 rfl rfl (fun hg=>Cb rfl (ec_ (eg_ hg rfl) (ec_ rfl (ec_ rfl en_))) J2 (fun u hu=>CE _ _ _ u)) ?_;refine Wk 1 Pa ?_;exact Wd (Qc (Cr (Qs (Qr (out1 rfl rfl (fun u hu=>(by exact⟨(y,{f with hi:=f.hi}),⟨hyx,⟨u,(hu.ro (j:=3) rfl).1⟩,fun f9 h9↦by rw[Jr hc4,if_neg hc5]at h9;split at h9;exact Option.some.inj h9;cases h9⟩,by rw[Jr hc4];exact congrArg (fun b↦Ending.returned (Value.bool b)) (by rw[FQ,Bool.eq_iff_iff];simp<;>grind),hu.sel [2,2,2] rfl⟩)))))))
 refine Nz 2 ?_;refine Wp ?_ ?_<;>intro hc6
 ·refine Cs (Nz 0 ?_);refine Wk 0 (Bb 0) ?_;refine Wk 0 (Db IH zv51) ?_;refine Wk 1 (Es EI rfl rfl (CQ (⟨0,0,x.m,x.a,x.b⟩:Entr) (⟨0,0,mv0,0,0⟩:Entr))) ?_;refine We 0 ?_;refine We 0 ?_;refine We 0 ?_;refine We 0 ?_;refine Wk 0 Po ?_;refine Wp ?_ ?_<;>intro hc7
  ·have hno:A6 G.p f x=none:=by
    rw[OQ hc6,if_neg (by rintro⟨h1,h2⟩;simp[h1.1,h1.2.1,h1.2.2,h2]at hc7)]
   refine Nz 1 ?_;exact Wd (Qc (Cr (Qr (Qs (Qr (out1 rfl rfl (fun u hu=>(by first|exact⟨(y,f),⟨hyx,⟨u,(hu.ro (j:=3) rfl).1⟩,fun f9 h9↦by rw[hno]at h9;cases h9⟩,by rw[hno];rfl,hu.sel [2,2,2] rfl⟩))))))))
  have hh:(x.m=mv0∧x.a=0∧x.b=0)∧f.st=false:=by have h9:=hc7;simp at h9;grind
  have hso:=(OQ (G:=G.p) (f:=f) hc6).trans (if_pos hh);refine Ck (Qc (Cs ?_));refine CS.drawnBut 2 (k:=10) mixed rfl rfl rfl ?_;refine Ar [0,1,2] ?_;refine Ak 3 [4,5] rfl (Ba 1) ?_;refine Ao 6 rfl ?_;refine Ws 0 2 ?_;refine Wd (Qa ?_);refine Ar [7,8] ?_;refine Ao 9 rfl ?_;refine Ws 0 2 ?_;refine Wd (Qa ?_);refine Ae ?_;refine Qc (Nz 1 ?_);exact Wd (Qc (Cr (Qs (Qr (out1 rfl rfl (fun u hu=>(by first|exact⟨(y,{f with st:=true,si:=x.t}),⟨hyx,⟨u,(hu.ro (j:=3) rfl).1⟩,fun f9 h9↦by rw[hso]at h9;exact Option.some.inj h9⟩,by rw[hso];rfl,hu.sel [2,2,2] rfl⟩)))))))
 refine Nz 2 ?_;refine Wp ?_ ?_<;>intro hc8
 ·refine Cs (Nz 0 ?_);refine Wk 0 (Bb 0) ?_;refine Wk 0 (Db IH zv51) ?_;refine Wk 1 (Es EI rfl rfl (CQ (⟨0,0,x.m,x.a,x.b⟩:Entr) (⟨0,0,mv0,0,0⟩:Entr))) ?_;refine We 0 ?_;refine We 0 ?_;refine We 0 ?_;refine We 0 ?_;refine We 0 ?_;refine Wk 0 Po ?_;refine Wp ?_ ?_<;>intro hc9
  ·have hno:A6 G.p f x=none:=by
    rw[Q4 hc8,if_neg (by rintro⟨h1,h2⟩;simp[h1.1,h1.2.1,h1.2.2,h2]at hc9)]
   refine Nz 1 ?_;exact Wd (Qc (Cr (Qr (Qs (Qr (out1 rfl rfl (fun u hu=>(by first|exact⟨(y,f),⟨hyx,⟨u,(hu.ro (j:=3) rfl).1⟩,fun f9 h9↦by rw[hno]at h9;cases h9⟩,by rw[hno];rfl,hu.sel [2,2,2] rfl⟩))))))))
  have hh:(x.m=mv0∧x.a=0∧x.b=0)∧f.st=true:=by have h9:=hc9;simp at h9;grind
  have hso:=(Q4 (G:=G.p) (f:=f) hc8).trans (if_pos hh);obtain⟨s1,s2⟩:=hsi hh.2;refine Ck (Qc (Nz 3 ?_));refine Ws 0 2 ?_;refine Wd (Qc (Cs ?_));refine CS.drawnTill 14 (k:=15) mixed rfl rfl ?_;refine Tr 15 [0,1,2] ?_;refine Tk 15 3 [4] rfl (Ba 2) ?_;refine Tk 15 5 [6,7,8] rfl (Ba 1) ?_;refine Tk 15 9 [] rfl (Ba 2) ?_;refine Tk 15 10 [] rfl Zb ?_;refine Tk 15 11 [12,13] rfl Za ?_;refine To 14 rfl ?_;refine Ws 0 2 ?_;refine Wd (Qt ?_);refine Te ?_;refine Qc (Nz 1 ?_);exact Wd (Qc (Cr (Qs (Qr (out1 rfl rfl (fun u hu=>(by first|exact⟨(y,{f with st:=false,pa:=f.pa+(x.t-f.si)}),⟨hyx,⟨u,(hu.ro (j:=3) rfl).1⟩,fun f9 h9↦by rw[hso]at h9;exact Option.some.inj h9⟩,by rw[hso];rfl,hu.sel [2,2,2] rfl⟩)))))))
 refine Nz 2 ?_;refine Wp ?_ ?_<;>intro hc10
 ·refine Nz 1 ?_;refine Ws 1 0 ?_;refine Ws 0 0 ?_;refine Wd (Qc (Cs (Dr mixed 0 ?_)));refine Dk 0 (Bb 0) ?_;refine Dk 0 (Db IH zv51) ?_;refine Dk 1 (FP EI rfl rfl (CQ (⟨0,0,x.m,0,0⟩:Entr) (⟨0,0,mv0,0,0⟩:Entr))) ?_;refine Dj 0 ?_;refine Dj 0 ?_;refine Dj 0 ?_;refine Dj 0 ?_;refine Dj 0 ?_;refine Dj 0 ?_;refine Dj 0 ?_;refine Dj 0 ?_;refine Dt 0 rfl rfl (fun hg=>Gs (s:=y.st.ths) sl37 (eg_ hg rfl) hyT) ?_;refine Dj 0 ?_;refine Dt 0 rfl rfl (fun hg=>Cb rfl (ec_ (eg_ hg rfl) (ec_ rfl (ec_ (eg_ hg rfl) en_))) J2 (fun u hu=>CE _ _ _ u)) ?_;refine Dk 1 Pa ?_;refine Dj 0 ?_;refine Dj 0 ?_;refine Dj 0 ?_;refine Dj 0 ?_;refine Dj 0 ?_;refine Dj 0 ?_;refine Dj 0 ?_;refine Dj 0 ?_;refine Dt 0 rfl rfl (fun hg=>E1 (s:=y.st.ths) sl37 (eg_ hg rfl) (eg_ hg rfl) hyT rfl (by(try simp only[bq]at hg);omega) (by(try simp only[bq]at hg);omega)) ?_;refine Dt 0 rfl rfl (fun hg=>Gr 3 (s:=y.st.ths) rfl (fun _ h↦h.1.st.ths) (eg_ hg rfl) rfl ⟨by(try simp only[bq]at hg);omega,by(try simp only[bq]at hg);omega⟩ rfl tk3) ?_;refine Dj 0 ?_;refine Dj 0 ?_;refine Dj 0 ?_;refine Dk 1 Pa ?_;exact Dd (Qc (Cr (Qs (Qr (out1 rfl rfl (fun u hu=>(by first|exact⟨(y,f),⟨hyx,⟨u,(hu.ro (j:=3) rfl).1⟩,fun f9 h9↦by rw[QV hc10]at h9;split at h9;exact Option.some.inj h9;cases h9⟩,by rw[QV hc10,hyl];exact congrArg (fun b↦Ending.returned (Value.bool b)) (by rw[FQ,Bool.eq_iff_iff];simp<;>grind),hu.sel [2,2,2] rfl⟩)))))))
 have hno:=Vo (G:=G.p) (f:=f) hc1 hc4 hc6 hc8 hc10;refine Ck (Qb (Qc (Nz 1 ?_)));exact Wd (Qc (Cr (out1 rfl rfl (fun u hu=>(by first|exact⟨(y,f),⟨hyx,⟨u,(hu.ro (j:=3) rfl).1⟩,fun f9 h9↦by rw[hno]at h9;cases h9⟩,by rw[hno];rfl,hu.sel [2,2,2] rfl⟩)))))
theorem VC {w u:World} (R:SA) (G:Game) (hG:GameOk w G) (hn:NearG G) (g:Sl ByteArray) (hW:GOk w g) (fb:Nat) (y:Pos) (f:Film) (hyx:y.x=f.x) (x:Entr) (last n:Int) (hF:FilmOk G f last n) (htm:Cj last x=true) (hnn:n≤1000) (hu:St w.heap.size w [blk fb (fcl G y f) 100,roS fun u=>PosOk u y,R] u):
  Calls prog 67 #[.pointer (some ⟨fb,0,none⟩),.agg #[.int .i64 x.t,.int .i64 x.k,.int .i64 x.m.p,.int .i64 x.m.k,.int .i64 x.m.n,.int .i64 x.a,.int .i64 x.b]] u (fun e u'=>∃q:Pos×Film,(q.1.x=q.2.x∧(∃u0,PosOk u0 q.1)∧∀f',(A6 G.p f x)=some f'→q.2=f')∧e = .returned (.bool (A6 G.p f x).isSome)∧St w.heap.size w [blk fb (fcl G q.1 q.2) 100,roS fun u=>PosOk u q.1,R] u'):=by
 have q:=LD (fun _=>True) R G hG hn g hW fb y f hyx x last n hF htm hnn (by simpa only[and_true]using hu)
 simpa only[and_true]using q
theorem Rz {w u:World} (K:World→Prop) (A B:List SA) (G:Game) (hG:GameOk w G) (hn:NearG G) (g:Sl ByteArray) (hW:GOk w g) (fb:Nat) (y:Pos) (f:Film) (hyx:y.x=f.x) (x:Entr) (last n:Int) (hF:FilmOk G f last n) (htm:Cj last x=true) (hnn:n≤1000) (hu:St w.heap.size w (A++[blk fb (fcl G y f) 100,(roS fun u=>PosOk u y∧K u)]++B) u):
  Calls prog 67 #[.pointer (some ⟨fb,0,none⟩),.agg #[.int .i64 x.t,.int .i64 x.k,.int .i64 x.m.p,.int .i64 x.m.k,.int .i64 x.m.n,.int .i64 x.a,.int .i64 x.b]] u (fun e u'=>∃q:Pos×Film,(q.1.x=q.2.x∧(∃u0,PosOk u0 q.1)∧∀f',(A6 G.p f x)=some f'→q.2=f')∧e = .returned (.bool (A6 G.p f x).isSome)∧St w.heap.size w (A++[blk fb (fcl G q.1 q.2) 100,(roS fun u=>PosOk u q.1∧K u)]++B) u'):=by
 refine Calls.mono (LD K (star (A++B)) G hG hn g hW fb y f hyx x last n hF htm hnn hu.out2) ?_;rintro e u' ⟨z,h1,h2,h3⟩;exact⟨z,h1,h2,h3.in2⟩
end Go.Proofs.YtmoojmgihdgceaaGreatDoor
