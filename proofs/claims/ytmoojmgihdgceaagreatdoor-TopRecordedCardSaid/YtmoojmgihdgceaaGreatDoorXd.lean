/- Merged texts of this proof (walks and plain laws), printed by a program of the prover. -/
import Derived.Test.YtmoojmgihdgceaaGreatDoorZz
import Derived.Test.YtmoojmgihdgceaaGreatDoorZu
set_option maxHeartbeats 8000000
namespace Go.Proofs.YtmoojmgihdgceaaGreatDoor
open Go.RowKit Go.Proofs Tryz
set_option maxRecDepth 100000
set_option linter.unusedVariables false
set_option linter.unusedSimpArgs false
theorem Hb {G:GP} {e:Entr} {l:List Entr} {i last:Int} {f F:Film} (h:B9 G (e::l) i last f = .ok F):Cj last e=true∧∃f',A6 G f e=some f'∧B9 G l (i+1) e.t f' = .ok F:=by
 unfold B9 at h;split at h
 ·rename_i ht;cases hs:A6 G f e with
  |none=>rw[hs]at h;cases h
  |some f'=>rw[hs]at h;exact⟨ht,f',rfl,h⟩
 cases h
theorem EY {G:GP} {e:Entr} {l:List Entr} {i last:Int} {f:Film} (h:(Cj last e&&(A6 G f e).isSome)=false):B9 G (e::l) i last f = .error i:=by
 unfold B9;split
 ·rename_i ht;cases hs:A6 G f e with
  |none=>rfl
  |some f'=>rw[hs,ht]at h;cases h
 rfl
theorem O4 {G:GP} {l:List Entr} (h:¬(Ac G).1=0):AC G l=((Ac G).1,0,A4 G):=if_neg h
theorem PZ {G:GP} {l:List Entr} (h:(Ac G).1=0) (h2:500<(l.length:Int)):AC G l=(2,0,A4 G):=(if_pos h).trans (if_pos h2)
theorem Jh {G:GP} {l:List Entr} {i:Int} (h:(Ac G).1=0) (h2:¬500<(l.length:Int)) (h3:B9 G l 0 0 (A4 G) = .error i):AC G l=(120,i,A4 G):=by
 unfold AC;rw[if_pos h,if_neg h2,h3]
theorem Pr {G:GP} {l:List Entr} {f:Film} (h:(Ac G).1=0) (h2:¬500<(l.length:Int)) (h3:B9 G l 0 0 (A4 G) = .ok f):AC G l=(0,0,f):=by
 unfold AC;rw[if_pos h,if_neg h2,h3]
theorem Wy {G:GP} {e:Entr} {l:List Entr} {f f':Film} (h:A6 G f e=some f') (hk:e.k=1):Ft G (e::l) f=f'.x.1.1::Ft G l f':=by
 rw[Ft,h];exact if_pos hk
theorem Vh {G:GP} {e:Entr} {l:List Entr} {f f':Film} (h:A6 G f e=some f') (hk:¬e.k=1):Ft G (e::l) f=Ft G l f':=by
 rw[Ft,h];exact if_neg hk
def C9 (t:Int) (old new:List Int) (k:Int):List Entr:=((Ca k.toNat).filter fun j=>!decide (nth new j=nth old j)).map fun j=>⟨t,5,mv0,j,nth new j⟩
theorem N5 {t:Int} {old new:List Int} {k:Int} (h:k=new.length):C9 t old new k=Ez t old new:=by subst h;rfl
theorem Im {t:Int} {old new:List Int} {k:Int} (h0:0≤k) (h:¬nth new k=nth old k):C9 t old new k++[⟨t,5,mv0,k,nth new k⟩]=C9 t old new (k+1):=by
 unfold C9;rw[FA h0,List.filter_append,List.map_append,List.filter_cons,if_pos (by rw[decide_eq_false h];rfl)];rfl
theorem Jv {t:Int} {old new:List Int} {k:Int} (h0:0≤k) (h:nth new k=nth old k):C9 t old new k=C9 t old new (k+1):=by
 unfold C9;rw[FA h0,List.filter_append,List.filter_cons,if_neg (by rw[decide_eq_true h];decide)];simp
theorem H6 {t:Int} {old new:List Int} {k:Int}:(C9 t old new k).length≤k.toNat:=by
 unfold C9;rw[List.length_map];exact Nat.le_trans (List.length_filter_le _ _) (by rw[Sx];exact Nat.le_refl _)
theorem L6 {G:GP} {m:Timed} {ms:List Timed} {i last:Int} {x:PX} {out:List Entr} (ht:last≤m.t∧m.t≤1000000) (hs:(Ap G x m.m).1=0):
  recF G (m::ms) i last x out=recF G ms (i+1) m.t (Ap G x m.m).2 (out++⟨m.t,1,m.m,0,0⟩::Ez m.t x.1.1 (Ap G x m.m).2.1.1):=by
 rw[recF,if_pos (by simpa using ht),if_pos hs]
theorem PH {G:GP} {m:Timed} {ms:List Timed} {i last:Int} {x:PX} {out:List Entr} (ht:last≤m.t∧m.t≤1000000) (hs:¬(Ap G x m.m).1=0):recF G (m::ms) i last x out=(29,i,[],x):=by
 rw[recF,if_pos (by simpa using ht),if_neg hs]
theorem PG {G:GP} {m:Timed} {ms:List Timed} {i last:Int} {x:PX} {out:List Entr} (ht:¬(last≤m.t∧m.t≤1000000)):recF G (m::ms) i last x out=(1,i,[],x):=by
 rw[recF,if_neg (by simpa using ht)]
theorem SS {G:GP} {ms:List Timed} (h:¬(Ac G).1=0):AB G ms=((Ac G).1,0,[]):=if_neg h
theorem ML {G:GP} {ms:List Timed} {e i:Int} {o:List Entr} {x:PX} (h:(Ac G).1=0) (he:¬e=0) (hr:recF G ms 0 0 (Ac G).2 []=(e,i,o,x)):AB G ms=(e,i,[]):=by
 unfold AB;rw[if_pos h,hr];exact if_neg he
theorem TP {G:GP} {ms:List Timed} {o:List Entr} {x:PX} (h:(Ac G).1=0) (hr:recF G ms 0 0 (Ac G).2 []=(0,0,o,x)) (hl:500<(o.length:Int)):AB G ms=(2,0,[]):=by
 unfold AB;rw[if_pos h,hr];exact(if_pos rfl).trans (if_pos hl)
theorem TD {G:GP} {ms:List Timed} {o:List Entr} {x:PX} (h:(Ac G).1=0) (hr:recF G ms 0 0 (Ac G).2 []=(0,0,o,x)) (hl:¬500<(o.length:Int)):AB G ms=(0,0,o):=by
 unfold AB;rw[if_pos h,hr];exact(if_pos rfl).trans (if_neg hl)
theorem VB {G:GP} {l:List Entr} (h:¬(AC G l).1=0):B1 G l=((AC G l).1,0,0):=if_neg h
theorem Pu {G:GP} {l:List Entr} (h:(AC G l).1=0) (he:¬(AC G l).2.2.en<0):B1 G l=(0,(AC G l).2.2.en,(AC G l).2.2.hi):=(if_pos h).trans (if_neg he)
theorem HW {G:GP} {l:List Entr} (h:(AC G l).1=0) (he:(AC G l).2.2.en<0):B1 G l=(3,0,0):=(if_pos h).trans (if_pos he)
section
variable {P:Program} {C:World→Prop} {l:List Value} {d:Option Tmp} {ty:TypeId} {ps:String} {af:Array Edge} {g:Option (Nat×Bool)}
theorem LV {T T':TypeId} {x y:Operand} {fn:Go.Fn} {a c:Array Value} {qs rs:Array TypeId} {vd:Bool} (hx:evo l x=some (.func fn a c)) (hy:evo l y=some .nilFunc) (hT:P.underlying T=some (.func qs rs vd)):
  Det P C ⟨d,.binOp .neq T x y T',ty,ps,af,g⟩ l (.bool true):=fun u _=>by
 (replace hx:=Am hx;replace hy:=Am hy)
 have h:∀d:Nat,(Op.equalIn (d+1) T (.func fn a c) .nilFunc).run P u = .ok false u:=fun d=>by simp[Op.equalIn,run_underlying hT]
 simp[execOp,Av,hx,hy,eqGuard,binOp,Op.equal,Op.maxDepth,h 9999]
end
theorem Td {w u:World} (A B:List SA) (G:Game) (hG:GameOk w G) (hn:NearG G) (g:Sl ByteArray) (hW:GOk w g) (fb:Nat) (y:Pos) (f:Film) (hyx:y.x=f.x) (x:Entr) (last n:Int) (hF:FilmOk G f last n) (htm:Cj last x=true) (hnn:n≤1000) (hu:St w.heap.size w (A++[blk fb (fcl G y f) 100,roS fun u=>PosOk u y]++B) u):
  Calls prog 67 #[.pointer (some ⟨fb,0,none⟩),.agg #[.int .i64 x.t,.int .i64 x.k,.int .i64 x.m.p,.int .i64 x.m.k,.int .i64 x.m.n,.int .i64 x.a,.int .i64 x.b]] u (fun e u'=>∃q:Pos×Film,(q.1.x=q.2.x∧(∃u0,PosOk u0 q.1)∧∀f',(A6 G.p f x)=some f'→q.2=f')∧e = .returned (.bool (A6 G.p f x).isSome)∧St w.heap.size w (A++[blk fb (fcl G q.1 q.2) 100,roS fun u=>PosOk u q.1]++B) u'):=by
 refine Calls.mono (VC (star (A++B)) G hG hn g hW fb y f hyx x last n hF htm hnn hu.out2) ?_;rintro e u' ⟨z,h1,h2,h3⟩;exact⟨z,h1,h2,h3.in2⟩
theorem C8 (G:Game) (w:World) (hG:GameOk w G) (hn:NearG G) (g:Sl ByteArray) (hW:GOk w g) (hB:(Ac G.p).1=0):
  Calls prog 27 #[.agg (gcl G).toArray] w (fun e w'=>∃x:Nat×Pos,(x.2.x=(Ac G.p).2∧∃u0,PosOk u0 x.2)∧RetF w (.tuple #[.pointer (some ⟨x.1,0,none⟩),.int .i64 0]) (star [blk x.1 (fcl G x.2 (A4 G.p)) 100,roS fun u=>PosOk u x.2]) e w'):=by
 have o1:=Sl.one hG.rm.pls;have o2:=Sl.one hG.rm.ths;have o3:=Sl.one hG.rm.prs;have o4:=Sl.one hG.rm.wys;have o5:=Sl.one hG.rm.acs;have o6:=Sl.one hG.rm.aus;have o7:=Sl.one hG.rm.gl;have o8:=Sl.one hG.lks;have o9:=Sl.one hG.cds;have o10:=Sl.one hG.nts;refine En func27 ?_;refine Nz 0 ?_;refine Wr 2 fun b1 hb1=>?_;refine Nx 0 ?_;refine Wk 0 (Bb 0) ?_;refine Wc rfl rfl U3 (fun u hu=>Jj G u (hG.st hu) g (hW.st hu) hn) (fun _=>rfl) ?_;rintro y ⟨hyx,uy,hyok⟩;obtain⟨hya,hyb,hyc⟩:=hyok.st.ones;have hyd:=Sl.one hyok.rd;refine Wz 3 ?_;refine Wq 0 zv98 fun b4 hb4=>?_;refine Wv 1 0 ?_;refine Nv 2 ?_;refine Wp ?_ ?_<;>intro hc1
 ·exact absurd hB hc1
 refine Ck (Qc (Nz 0 ?_));refine Wk 0 (Bb 2) ?_;refine Wk 0 (Bb 0) ?_;refine Wk 0 (Aw Zk Jaw (pcs:=[(0,(gcl G)),(1,[y.st.ths.v,y.st.prs.v,y.st.pls.v,y.rd.v]),(5,[.int .i64 (-1)])]) rfl (CellsOf.agg (CellsOf.agg (CellsOf.one rfl CellsOf.nil))) rfl) ?_;refine Wr 1 fun b18 hb18=>?_;refine Nv 1 ?_;refine Wk 0 (Cb rfl rfl Zn (fun u hu=>Uw G u (hG.st hu) hn g (hW.st hu) y (hu.ro (j:=2) rfl) {(A4 G.p)with en:= -1} hyx (CC hB) b18 _ (AD hu (j:=0) rfl))) ?_;refine Wp ?_ ?_<;>intro hc2
 ·have he:(A4 G.p).en=0:=if_pos hc2;refine Ny 3 ?_;refine Ws 0 0 ?_;refine Nx 3 ?_;exact Wd (Qc (Cr (out2 rfl rfl rfl (fun u hu=>⟨(b18,y),⟨hyx,uy,hyok⟩,by(try unfold fcl);rw[he];exact G4 (hu.sel [0,1] rfl) (List.Perm.refl _)⟩))))
 have he:(A4 G.p).en = -1:=if_neg (fun h=>by have h9:Cl G.p (A4 G.p).x=true:=h;rw[hc2]at h9;cases h9);refine Ck (Qc (Nz 3 ?_));exact Wd (Qc (Cr (out2 rfl rfl rfl (fun u hu=>⟨(b18,y),⟨hyx,uy,hyok⟩,by(try unfold fcl);rw[he];exact G4 (hu.sel [0,1] rfl) (List.Perm.refl _)⟩))))
theorem Hp (G:Game) (w:World) (hG:GameOk w G) (hn:NearG G) (g:Sl ByteArray) (hW:GOk w g) (hB:¬(Ac G.p).1=0):
  Calls prog 27 #[.agg (gcl G).toArray] w (RetB w (.tuple #[.pointer none,.int .i64 (Ac G.p).1])):=by
 have o1:=Sl.one hG.rm.pls;have o2:=Sl.one hG.rm.ths;have o3:=Sl.one hG.rm.prs;have o4:=Sl.one hG.rm.wys;have o5:=Sl.one hG.rm.acs;have o6:=Sl.one hG.rm.aus;have o7:=Sl.one hG.rm.gl;have o8:=Sl.one hG.lks;have o9:=Sl.one hG.cds;have o10:=Sl.one hG.nts;refine En func27 ?_;refine Nz 0 ?_;refine Wr 2 fun b1 hb1=>?_;refine Nx 0 ?_;refine Wk 0 (Bb 0) ?_;refine Wc rfl rfl U3 (fun u hu=>Jj G u (hG.st hu) g (hW.st hu) hn) (fun _=>rfl) ?_;rintro y ⟨hyx,uy,hyok⟩;obtain⟨hya,hyb,hyc⟩:=hyok.st.ones;have hyd:=Sl.one hyok.rd;refine Wz 3 ?_;refine Wq 0 zv98 fun b4 hb4=>?_;refine Wv 1 0 ?_;refine Nv 2 ?_;refine Wp ?_ ?_<;>intro hc1
 ·refine Nz 3 ?_;exact Wd (Qc (Cr (Qr (out2 rfl rfl rfl (Ab rfl)))))
 exact absurd hc1 hB
theorem UC {w u:World} (R:SA) (Z:List (List Int)→SA) (G:Game) (hG:GameOk w G) (hn:NearG G) (g:Sl ByteArray) (hW:GOk w g) (fb:Nat) (y:Pos) (hyx:y.x=(Ac G.p).2) (hB:(Ac G.p).1=0) (l:Sl Entr) (hk:SlT cEntry w l) (fn:FuncId) (cap:List Value) (hent:Ent prog fn) (hmv:∀(acc:List (List Int)) (y:Pos) (f:Film) (u:World),y.x=f.x→posG G.p f.x=0→acc.length≤1000→St w.heap.size w [blk fb (fcl G y f) 100,roS fun u=>PosOk u y,Z acc,R] u→Calls prog fn cap.toArray u (fun e u'=>e = .returned (.tuple #[])∧St w.heap.size w [blk fb (fcl G y f) 100,roS fun u=>PosOk u y,Z (acc++[f.x.1.1]),R] u')) (hu:St w.heap.size w [blk fb (fcl G y (A4 G.p)) 100,roS fun u=>PosOk u y,Z [],R] u):
  Calls prog 31 #[.pointer (some ⟨fb,0,none⟩),l.v,.func (.func fn) #[] cap.toArray] u (fun e u'=>∃q:Pos×Film×List (List Int),(q.1.x=q.2.1.x∧(∃u0,PosOk u0 q.1)∧((AC G.p l.l).1=0→q.2.1=(AC G.p l.l).2.2∧q.2.2=Ft G.p l.l (A4 G.p)))∧e = .returned (.tuple #[.int .i64 (AC G.p l.l).2.1,.int .i64 (AC G.p l.l).1])∧St w.heap.size w [blk fb (fcl G q.1 q.2.1) 100,roS fun u=>PosOk u q.1,Z q.2.2,R] u'):=by
 have lls:=hk.le;have hyok:PosOk u y:=hu.ro (j:=1) rfl;refine Ei hu func31 ?_;refine Nz 2 ?_;refine Nv 1 ?_;refine Wk 1 Nc ?_;refine Wp ?_ ?_<;>intro hc1
 ·have hfv:(AC G.p l.l)=(2,0,A4 G.p):=PZ hB (by omega);refine Nz 2 ?_;exact Wd (Qc (Cr (Qr (out2 rfl rfl rfl (fun u hu=>⟨(y,(A4 G.p),[]),⟨hyx,⟨u,hu.ro (j:=1) rfl⟩,fun h9↦by rw[hfv]at h9;simp at h9⟩,by rw[hfv],hu.sel [0,0,0,0] rfl⟩)))))
 have hL:¬500<(l.l.length:Int):=by omega
 refine Ck (Qc (Nz 1 ?_));refine Nv 1 ?_;refine Wk 1 Nc ?_;refine Nu ?_;refine CS.loopM (σ:=Int×Pos×Film×Int×List (List Int)) (rsL [6,7,9,10,17,44]) (fun s=>[(16,.int .i64 s.1),(8,.int .i64 s.2.2.2.1)]) (fun s=>[blk fb (fcl G s.2.1 s.2.2.1) 100,roS fun u=>PosOk u s.2.1,Z s.2.2.2.2,R]) (fun s=>0≤s.1∧s.1≤l.l.length∧(∃u0,PosOk u0 s.2.1)∧s.2.1.x=s.2.2.1.x∧FilmOk G s.2.2.1 s.2.2.2.1 s.1∧B9 G.p l.l 0 0 (A4 G.p)=B9 G.p (l.l.drop s.1.toNat) s.1 s.2.2.2.1 s.2.2.1∧Ft G.p l.l (A4 G.p)=s.2.2.2.2++Ft G.p (l.l.drop s.1.toNat) s.2.2.1∧s.2.2.2.2.length≤s.1.toNat) (fun s=>(l.l.length-s.1).toNat) (0,y,A4 G.p,0,[]) (fun _ _=>rfl) rfl rfl ⟨by simp,by simp,⟨_,hyok⟩,hyx,LL hB,by simp,by simp,by simp⟩ ?_;intro s t hs;obtain⟨hs1,hs2,⟨us,hsok⟩,hs4,hs5,hs6,hs7,hs8⟩:=hs;refine Nz 1 ?_;refine Wd (Qc (Cs (Cn ?_ ?_)))<;>intro hc2
 ·refine Ck (Qc (Cs (Ce (Nz 1 ?_))));refine Wk 0 Xc ?_;refine Wk 0 Ua ?_;refine Wq 1 zv51 fun b10 hb10=>?_;refine Wv 0 0 ?_;refine Wd (Qc (Cs (Cs ?_)));rcases Bool.eq_false_or_eq_true (!(decide (s.2.2.2.1≤(nth l.l s.1).t)&&decide ((nth l.l s.1).t≤1000000)))with hb|hb
  ·refine Ny 1 ?_;refine Wk 1 (Ba 0) ?_;refine Wk 1 (Cb rfl rfl J2 (fun u hu=>CE _ _ _ u)) ?_;refine Wk 0 (Bp (v:=.bool true) (congrArg (fun b=>some (Value.bool b)) hb)) ?_;refine Wf 0 rfl rfl (fun hg=>Fy_ (by cases hg)) ?_;refine Wf 0 rfl rfl (fun hg=>Fy_ (by cases hg)) ?_;refine Wf 0 rfl rfl (fun hg=>Fy_ (by cases hg)) ?_;refine Wf 0 rfl rfl (fun hg=>Fz_ (by cases hg)) ?_;refine Wk 0 Po ?_;refine Wp ?_ ?_<;>intro hc3
   ·have hTn:Cj s.2.2.2.1 (nth l.l s.1)=false:=by unfold Cj;simp at hb⊢;omega
    have hbd:(Cj s.2.2.2.1 (nth l.l s.1)&&(A6 G.p s.2.2.1 (nth l.l s.1)).isSome)=false:=by rw[hTn];rfl
    have hfv:(AC G.p l.l)=(120,s.1,A4 G.p):=Jh hB hL (by rw[hs6,AO hs1 (by omega),EY hbd]);refine Nz 3 ?_;exact Wd (Qc (Cr (Qr (Qs (Qr (Qr (Qs (Qr (out2 rfl rfl rfl (fun u hu=>(by exact⟨(s.2.1,s.2.2.1,s.2.2.2.2),⟨hs4,⟨u,hu.ro (j:=2) rfl⟩,fun h9↦by rw[hfv]at h9;simp at h9⟩,by rw[hfv],hu.sel [1,1,1,1] rfl⟩)))))))))))
   exact absurd hc3 (by simp)
  have hT:Cj s.2.2.2.1 (nth l.l s.1)=true:=by unfold Cj;simpa using hb
  refine Ny 1 ?_;refine Wk 1 (Ba 0) ?_;refine Wk 1 (Cb rfl rfl J2 (fun u hu=>CE _ _ _ u)) ?_;refine Wk 0 (Bp (v:=.bool false) (congrArg (fun b=>some (Value.bool b)) hb)) ?_;refine We 0 ?_;refine We 0 ?_;refine WS.callSg (want:=false) (j:=5) rfl rfl rfl YL (fun u hu=>Td [_] [_,_] G hG hn g hW fb s.2.1 s.2.2.1 hs4 (nth l.l s.1) s.2.2.2.1 s.1 hs5 hT (by omega) hu) (fun _=>rfl) ?_;rintro⟨y2,f2⟩ ⟨hy2x,⟨uy2,hy2ok⟩,hf2⟩;dsimp only at hf2 hy2x hy2ok;refine We 0 ?_;refine Wk 0 Po ?_;refine Wp ?_ ?_<;>intro hc3
  ·have hbd:(Cj s.2.2.2.1 (nth l.l s.1)&&(A6 G.p s.2.2.1 (nth l.l s.1)).isSome)=false:=by rw[hT,Bool.true_and];simpa using hc3
   have hfv:(AC G.p l.l)=(120,s.1,A4 G.p):=Jh hB hL (by rw[hs6,AO hs1 (by omega),EY hbd]);refine Nz 3 ?_;exact Wd (Qc (Cr (Qr (Qs (Qr (Qr (Qs (Qr (out2 rfl rfl rfl (fun u hu=>(by exact⟨(y2,f2,s.2.2.2.2),⟨hy2x,⟨u,hu.ro (j:=2) rfl⟩,fun h9↦by rw[hfv]at h9;simp at h9⟩,by rw[hfv],hu.sel [1,1,1,1] rfl⟩)))))))))))
  have hgd:(A6 G.p s.2.2.1 (nth l.l s.1)).isSome=true:=by first|exact hc3|simpa using hc3
  obtain⟨f3,hf3⟩:=Option.isSome_iff_exists.1 hgd;obtain rfl:=hf2 f3 hf3;have hF2:=hs5.next hT hf3;refine Ck (Qc (Nz 1 ?_));refine Wk 1 (Ba 0) ?_;refine Nx 1 ?_;refine Wk 2 (Ba 0) ?_;refine Wj 0 ?_;refine Wt 0 rfl rfl (fun hg=>LV (eg_ hg rfl) rfl underlying1) ?_;refine Wk 0 Pa ?_;refine Wp ?_ ?_<;>intro hc4
  ·have hk1:(nth l.l s.1).k=1:=by first|exact hc4|simpa using hc4
   refine Ny 1 ?_;refine WS.sel [1,1,1,1] rfl ?_;refine WS.callS (β:=Unit) (p:=fun _=>True) (v:=fun _=>.tuple #[]) (L':=fun _=>[blk fb (fcl G y2 f2) 100,roS fun u=>PosOk u y2,Z (s.2.2.2.2++[f2.x.1.1]),R]) rfl rfl hent (fun u hu=>Calls.mono (hmv s.2.2.2.2 y2 f2 u hy2x hF2.pos (by omega) hu) fun e u2 h=>⟨(),trivial,h.1,h.2⟩) (fun _=>rfl) ?_;rintro⟨⟩ -;refine Wd (Qb (Qc (Ny 0 ?_)));refine Wk 1 Za ?_;exact Wd (QS.head ((s.1+1,y2,f2,(nth l.l s.1).t,s.2.2.2.2++[f2.x.1.1])) rfl rfl ⟨⟨by simp;omega,by simp;omega,⟨_,hy2ok⟩,hy2x,hF2,by rw[hs6,AO hs1 (by omega),CO hT hf3],by rw[hs7,AO hs1 (by omega),Wy hf3 hk1,List.append_assoc];rfl,by simp;omega⟩,by simp;omega⟩)
  have hk1:¬(nth l.l s.1).k=1:=by first|exact hc4|simpa using hc4
  refine Ck (Qb (Qc (Ny 0 ?_)));refine Wk 1 Za ?_;refine Wd ?_;refine QS.sel [1,1,1,1] rfl ?_;exact QS.head ((s.1+1,y2,f2,(nth l.l s.1).t,s.2.2.2.2)) rfl rfl ⟨⟨by simp;omega,by simp;omega,⟨_,hy2ok⟩,hy2x,hF2,by rw[hs6,AO hs1 (by omega),CO hT hf3],by rw[hs7,AO hs1 (by omega),Vh hf3 hk1],by simp;omega⟩,by simp;omega⟩
 have hrl:B9 G.p l.l 0 0 (A4 G.p) = .ok s.2.2.1:=by rw[hs6,List.drop_of_length_le (by omega),B9]
 have hfv:(AC G.p l.l)=(0,0,s.2.2.1):=Pr hB hL hrl;refine Cv (Qe (Qe (Qx (Qc (Nz 2 ?_)))));exact Wd (Qc (Cr (out2 rfl rfl rfl (fun u hu=>⟨(s.2.1,s.2.2.1,s.2.2.2.2),⟨hs4,⟨u,hu.ro (j:=1) rfl⟩,fun h9↦by rw[hfv];exact⟨rfl,by rw[hs7,List.drop_of_length_le (by omega),Ft,List.append_nil]⟩⟩,by rw[hfv],hu.sel [0,0,0,0] rfl⟩))))
theorem MO {w u:World} (Z:List (List Int)→SA) (R:SA) (G:Game) (fb b5 b8:Nat) (y:Pos) (f:Film) (hyx:y.x=f.x) (hq:posG G.p f.x=0) (acc:List (List Int)) (hac:acc.length≤1000) (fn:FuncId) (cap:List Value) (hent:Ent prog fn) (hmv:∀(R:SA) (fb:Nat) (acc:List (List Int)) (y:Pos) (f:Film) (u:World),y.x=f.x→posG G.p f.x=0→acc.length≤1000→St w.heap.size w [blk fb (fcl G y f) 100,roS fun u=>PosOk u y,Z acc,R] u→Calls prog fn (.pointer (some ⟨fb,0,none⟩)::cap).toArray u (fun e u'=>e = .returned (.tuple #[])∧St w.heap.size w [blk fb (fcl G y f) 100,roS fun u=>PosOk u y,Z (acc++[f.x.1.1]),R] u')) (hu:St w.heap.size w [blk fb (fcl G y f) 100,roS fun u=>PosOk u y,Z acc,star [blk b8 [.pointer (some ⟨fb,0,none⟩)] 90,blk b5 [.func (.func fn) #[] cap.toArray] 93,R]] u):
  Calls prog 63 #[.pointer (some ⟨b5,0,none⟩),.pointer (some ⟨b8,0,none⟩)] u (fun e u'=>e = .returned (.tuple #[])∧St w.heap.size w [blk fb (fcl G y f) 100,roS fun u=>PosOk u y,Z (acc++[f.x.1.1]),star [blk b8 [.pointer (some ⟨fb,0,none⟩)] 90,blk b5 [.func (.func fn) #[] cap.toArray] 93,R]] u'):=by
 refine Ei (hu.sel [3,0,0,0] rfl).unpack func63 ?_;refine Ny 0 ?_;refine Wk 0 (Ba 1) ?_;refine Wk 0 (Ba 0) ?_;refine WS.callS (β:=Unit) (p:=fun _=>True) (v:=fun _=>.tuple #[]) (L':=fun _=>[blk fb (fcl G y f) 100,roS fun u=>PosOk u y,Z (acc++[f.x.1.1]),star [blk b8 [.pointer (some ⟨fb,0,none⟩)] 90,blk b5 [.func (.func fn) #[] cap.toArray] 93,R]]) rfl rfl hent (fun u hu=>Calls.mono (hmv _ fb acc y f u hyx hq hac ((St.pack (L1:=[_,_,_]) hu).sel [1,1,1,0] rfl)) fun e u2 h=>⟨(),trivial,h.1,h.2⟩) (fun _=>rfl) ?_;rintro⟨⟩ -;exact Wd (out0 (Or.inr rfl) rfl (fun u hu=>⟨rfl,hu⟩))
theorem O9 {w u:World} (Z:List (List Int)→SA) (R:SA) (G:Game) (hG:GameOk w G) (hn:NearG G) (g:Sl ByteArray) (hW:GOk w g) (l:Sl Entr) (hk:SlT cEntry w l) (fn:FuncId) (cap:List Value) (hent:Ent prog fn) (hmv:∀(R:SA) (fb:Nat) (acc:List (List Int)) (y:Pos) (f:Film) (u:World),y.x=f.x→posG G.p f.x=0→acc.length≤1000→St w.heap.size w [blk fb (fcl G y f) 100,roS fun u=>PosOk u y,Z acc,R] u→Calls prog fn (.pointer (some ⟨fb,0,none⟩)::cap).toArray u (fun e u'=>e = .returned (.tuple #[])∧St w.heap.size w [blk fb (fcl G y f) 100,roS fun u=>PosOk u y,Z (acc++[f.x.1.1]),R] u')) (hE:(AC G.p l.l).1=0) (hu:St w.heap.size w [Z [],R] u):
  Calls prog 25 #[.agg (gcl G).toArray,l.v,.func (.func fn) #[] cap.toArray] u (fun e u'=>∃x:Nat×Pos,(x.2.x=(AC G.p l.l).2.2.x∧∃u0,PosOk u0 x.2)∧e = .returned (.tuple #[.pointer (some ⟨x.1,0,none⟩),.int .i64 0])∧St w.heap.size w ([blk x.1 [G.rm.pls.v,G.rm.ths.v,G.rm.prs.v,G.rm.wys.v,G.rm.acs.v,G.rm.aus.v,.int .i64 G.rm.ply,G.rm.gl.v,G.lks.v,G.cds.v,G.nts.v,.int .i64 G.tr,x.2.st.ths.v,x.2.st.prs.v,x.2.st.pls.v,x.2.rd.v,.bool (AC G.p l.l).2.2.st,.int .i64 (AC G.p l.l).2.2.si,.int .i64 (AC G.p l.l).2.2.pa,.int .i64 (AC G.p l.l).2.2.en,.int .i64 (AC G.p l.l).2.2.hi] 100,roS fun u=>PosOk u x.2,Z (Ft G.p l.l (A4 G.p)),R]) u'):=by
 have hB:=(FL hE).1;refine Ei hu func25 ?_;refine Nz 0 ?_;refine Wr 0 fun b3 hb3=>?_;refine Wr 2 fun b5 hb5=>?_;refine Nx 0 ?_;refine Wk 0 (Bb 1) ?_;refine Wc rfl rfl Jm (fun u hu=>C8 G u (hG.st hu) hn g (hW.st hu) hB) (fun _=>rfl) ?_;rintro⟨fb,y⟩ ⟨hyx,uy,hyok⟩;refine WS.unpack ?_;refine Wz 3 ?_;refine Wq 0 zv90 fun b8 hb8=>?_;refine Ws 1 0 ?_;refine Nv 2 ?_;refine Wp ?_ ?_<;>intro hc1
 ·exact absurd trivial hc1
 refine Ck (Qc (Cs (Nz 0 ?_)));refine Wk 1 (Ba 0) ?_;refine Wk 0 (Al rfl) ?_;refine WS.sel [4,5,1,1,2,0,0] rfl ?_;refine WS.weak (fun u hu=>St.pack (L1:=[_,_]) hu) ?_;refine WS.sel [4,4,0,0,0,0] rfl ?_;refine WS.weak (fun u hu=>St.pack (L1:=[_,_,_]) hu) ?_;refine WS.sel [1,1,1,0] rfl ?_;refine WS.callS rfl rfl Q9 (fun u hu=>UC _ Z G hG hn g hW fb y hyx hB l hk 63 [.pointer (some ⟨b5,0,none⟩),.pointer (some ⟨b8,0,none⟩)] YY (fun acc y f u hyx hq hac hu=>MO Z _ G fb b5 b8 y f hyx hq acc hac fn cap hent hmv hu) hu) (fun _=>rfl) ?_;rintro⟨y2,f2,rows⟩ ⟨hy2x,⟨uy2,hy2ok⟩,hfin⟩;dsimp only at hfin hy2x hy2ok;refine WS.sel [3,0,0,0] rfl ?_;refine WS.unpack ?_;refine Wz 5 ?_;refine Nx 2 ?_;refine Wp ?_ ?_<;>intro hc2
 ·exact absurd hE hc2
 obtain⟨rfl,rfl⟩:=hfin hE;refine Ck (Qc (Nz 0 ?_));refine Wk 2 (Ba 0) ?_;exact Wd (Qc (Cr (out2 rfl rfl rfl (fun u hu=>⟨(fb,y2),⟨hy2x,uy2,hy2ok⟩,rfl,(((hu.sel [2,2,2,2] rfl).unpack).sel [2,2,2,1] rfl)⟩))))
theorem N8 {w u:World} (Z:List (List Int)→SA) (R:SA) (G:Game) (hG:GameOk w G) (hn:NearG G) (g:Sl ByteArray) (hW:GOk w g) (l:Sl Entr) (hk:SlT cEntry w l) (fn:FuncId) (cap:List Value) (hent:Ent prog fn) (hmv:∀(R:SA) (fb:Nat) (acc:List (List Int)) (y:Pos) (f:Film) (u:World),y.x=f.x→posG G.p f.x=0→acc.length≤1000→St w.heap.size w [blk fb (fcl G y f) 100,roS fun u=>PosOk u y,Z acc,R] u→Calls prog fn (.pointer (some ⟨fb,0,none⟩)::cap).toArray u (fun e u'=>e = .returned (.tuple #[])∧St w.heap.size w [blk fb (fcl G y f) 100,roS fun u=>PosOk u y,Z (acc++[f.x.1.1]),R] u')) (hE:¬(AC G.p l.l).1=0) (hB:(Ac G.p).1=0) (hu:St w.heap.size w [Z [],R] u):
  Calls prog 25 #[.agg (gcl G).toArray,l.v,.func (.func fn) #[] cap.toArray] u (fun e u'=>∃acc:List (List Int),True∧e = .returned (.tuple #[.pointer none,.int .i64 (AC G.p l.l).1])∧St w.heap.size w ([Z acc,R]) u'):=by
 refine Ei hu func25 ?_;refine Nz 0 ?_;refine Wr 0 fun b3 hb3=>?_;refine Wr 2 fun b5 hb5=>?_;refine Nx 0 ?_;refine Wk 0 (Bb 1) ?_;refine Wc rfl rfl Jm (fun u hu=>C8 G u (hG.st hu) hn g (hW.st hu) hB) (fun _=>rfl) ?_;rintro⟨fb,y⟩ ⟨hyx,uy,hyok⟩;refine WS.unpack ?_;refine Wz 3 ?_;refine Wq 0 zv90 fun b8 hb8=>?_;refine Ws 1 0 ?_;refine Nv 2 ?_;refine Wp ?_ ?_<;>intro hc1
 ·exact absurd trivial hc1
 refine Ck (Qc (Cs (Nz 0 ?_)));refine Wk 1 (Ba 0) ?_;refine Wk 0 (Al rfl) ?_;refine WS.sel [4,5,1,1,2,0,0] rfl ?_;refine WS.weak (fun u hu=>St.pack (L1:=[_,_]) hu) ?_;refine WS.sel [4,4,0,0,0,0] rfl ?_;refine WS.weak (fun u hu=>St.pack (L1:=[_,_,_]) hu) ?_;refine WS.sel [1,1,1,0] rfl ?_;refine WS.callS rfl rfl Q9 (fun u hu=>UC _ Z G hG hn g hW fb y hyx hB l hk 63 [.pointer (some ⟨b5,0,none⟩),.pointer (some ⟨b8,0,none⟩)] YY (fun acc y f u hyx hq hac hu=>MO Z _ G fb b5 b8 y f hyx hq acc hac fn cap hent hmv hu) hu) (fun _=>rfl) ?_;rintro⟨y2,f2,rows⟩ ⟨hy2x,⟨uy2,hy2ok⟩,hfin⟩;dsimp only at hfin hy2x hy2ok;refine WS.sel [3,0,0,0] rfl ?_;refine WS.unpack ?_;refine Wz 5 ?_;refine Nx 2 ?_;refine Wp ?_ ?_<;>intro hc2
 ·refine Nz 3 ?_;exact Wd (Qc (Cr (Qr (out2 rfl rfl rfl (fun u hu=>⟨rows,trivial,rfl,((((hu.sel [2,2,2,2] rfl).unpack).sel [2,2,2,1] rfl)).sel [2,2] rfl⟩)))))
 exact absurd hc2 hE
theorem NY {w u:World} (Z:List (List Int)→SA) (R:SA) (G:Game) (hG:GameOk w G) (hn:NearG G) (g:Sl ByteArray) (hW:GOk w g) (l:Sl Entr) (hk:SlT cEntry w l) (fn:FuncId) (cap:List Value) (hent:Ent prog fn) (hmv:∀(R:SA) (fb:Nat) (acc:List (List Int)) (y:Pos) (f:Film) (u:World),y.x=f.x→posG G.p f.x=0→acc.length≤1000→St w.heap.size w [blk fb (fcl G y f) 100,roS fun u=>PosOk u y,Z acc,R] u→Calls prog fn (.pointer (some ⟨fb,0,none⟩)::cap).toArray u (fun e u'=>e = .returned (.tuple #[])∧St w.heap.size w [blk fb (fcl G y f) 100,roS fun u=>PosOk u y,Z (acc++[f.x.1.1]),R] u')) (hB:¬(Ac G.p).1=0) (hu:St w.heap.size w [Z [],R] u):
  Calls prog 25 #[.agg (gcl G).toArray,l.v,.func (.func fn) #[] cap.toArray] u (fun e u'=>∃acc:List (List Int),True∧e = .returned (.tuple #[.pointer none,.int .i64 (AC G.p l.l).1])∧St w.heap.size w ([Z acc,R]) u'):=by
 refine Ei hu func25 ?_;refine Nz 0 ?_;refine Wr 0 fun b3 hb3=>?_;refine Wr 2 fun b5 hb5=>?_;refine Nx 0 ?_;refine Wk 0 (Bb 1) ?_;refine Wk 3 (Cb rfl rfl Jm (fun u hu=>Hp G u (hG.st hu) hn g (hW.st hu) hB)) ?_;refine Wq 0 zv90 fun b8 hb8=>?_;refine Ws 1 0 ?_;refine Nv 2 ?_;refine Wp ?_ ?_<;>intro hc1
 ·refine Nz 3 ?_;exact Wd (Qc (Cr (Qr (out2 rfl rfl rfl (fun u hu=>⟨[],trivial,by rw[O4 hB],hu.sel [3,3] rfl⟩)))))
 exact absurd hc1 hB
theorem ON (fb:Nat) (w:World):Calls prog 26 #[.pointer (some ⟨fb,0,none⟩)] w (RetB w (.tuple #[])):=by
 refine En func26 ?_;exact Ck (out0 (Or.inr rfl) rfl retB)
section
variable {n0:Nat} {w0 u:World} {L:List SA} {a t z:SA}
theorem St.rest1 (h:St n0 w0 (a::L) u):St n0 w0 [a,YtmoojmgihdgceaaGreatDoor.star L] u:=by
 have h1:St n0 w0 (L++[a]) u:=h.perm (List.perm_append_comm (l₁:=[a]));exact h1.pack.perm (List.Perm.swap _ _ _)
theorem St.unrest1 (h:St n0 w0 [a,YtmoojmgihdgceaaGreatDoor.star L] u):St n0 w0 (a::L) u:=by
 have h1:St n0 w0 (YtmoojmgihdgceaaGreatDoor.star L::[a]) u:=h.perm (List.Perm.swap _ _ _);exact h1.unpack.perm List.perm_append_comm
theorem St.unrest3 (h:St n0 w0 [t,a,z,YtmoojmgihdgceaaGreatDoor.star L] u):St n0 w0 (t::a::z::L) u:=by
 have h1:St n0 w0 (YtmoojmgihdgceaaGreatDoor.star L::[t,a,z]) u:=h.perm (List.perm_append_comm (l₁:=[t,a,z]) (l₂:=[YtmoojmgihdgceaaGreatDoor.star L]));exact h1.unpack.perm List.perm_append_comm
end
theorem Ob {w u:World} (Z:List (List Int)→SA) (G:Game) (hG:GameOk w G) (hn:NearG G) (g:Sl ByteArray) (hW:GOk w g) (l:Sl Entr) (hk:SlT cEntry w l) (fn:FuncId) (cap:List Value) (hent:Ent prog fn) (hmv:∀(R:SA) (fb:Nat) (acc:List (List Int)) (y:Pos) (f:Film) (u:World),y.x=f.x→posG G.p f.x=0→acc.length≤1000→St w.heap.size w [blk fb (fcl G y f) 100,roS fun u=>PosOk u y,Z acc,R] u→Calls prog fn (.pointer (some ⟨fb,0,none⟩)::cap).toArray u (fun e u'=>e = .returned (.tuple #[])∧St w.heap.size w [blk fb (fcl G y f) 100,roS fun u=>PosOk u y,Z (acc++[f.x.1.1]),R] u')) (L:List SA) (hE:(AC G.p l.l).1=0) (hu:St w.heap.size w (Z []::L) u):Calls prog 25 #[.agg (gcl G).toArray,l.v,.func (.func fn) #[] cap.toArray] u (fun e u'=>∃x:Nat×Pos,(x.2.x=(AC G.p l.l).2.2.x∧∃u0,PosOk u0 x.2)∧e = .returned (.tuple #[.pointer (some ⟨x.1,0,none⟩),.int .i64 0])∧St w.heap.size w (blk x.1 [G.rm.pls.v,G.rm.ths.v,G.rm.prs.v,G.rm.wys.v,G.rm.acs.v,G.rm.aus.v,.int .i64 G.rm.ply,G.rm.gl.v,G.lks.v,G.cds.v,G.nts.v,.int .i64 G.tr,x.2.st.ths.v,x.2.st.prs.v,x.2.st.pls.v,x.2.rd.v,.bool (AC G.p l.l).2.2.st,.int .i64 (AC G.p l.l).2.2.si,.int .i64 (AC G.p l.l).2.2.pa,.int .i64 (AC G.p l.l).2.2.en,.int .i64 (AC G.p l.l).2.2.hi] 100::(roS fun u=>PosOk u x.2)::Z (Ft G.p l.l (A4 G.p))::L) u'):=by
 refine Calls.mono (O9 Z (YtmoojmgihdgceaaGreatDoor.star L) G hG hn g hW l hk fn cap hent hmv hE hu.rest1) ?_;rintro e u' ⟨x,h1,h2,h3⟩;exact⟨x,h1,h2,h3.unrest3⟩
theorem NT {w u:World} (Z:List (List Int)→SA) (G:Game) (hG:GameOk w G) (hn:NearG G) (g:Sl ByteArray) (hW:GOk w g) (l:Sl Entr) (hk:SlT cEntry w l) (fn:FuncId) (cap:List Value) (hent:Ent prog fn) (hmv:∀(R:SA) (fb:Nat) (acc:List (List Int)) (y:Pos) (f:Film) (u:World),y.x=f.x→posG G.p f.x=0→acc.length≤1000→St w.heap.size w [blk fb (fcl G y f) 100,roS fun u=>PosOk u y,Z acc,R] u→Calls prog fn (.pointer (some ⟨fb,0,none⟩)::cap).toArray u (fun e u'=>e = .returned (.tuple #[])∧St w.heap.size w [blk fb (fcl G y f) 100,roS fun u=>PosOk u y,Z (acc++[f.x.1.1]),R] u')) (L:List SA) (hE:¬(AC G.p l.l).1=0) (hu:St w.heap.size w (Z []::L) u):Calls prog 25 #[.agg (gcl G).toArray,l.v,.func (.func fn) #[] cap.toArray] u (fun e u'=>∃acc:List (List Int),True∧e = .returned (.tuple #[.pointer none,.int .i64 (AC G.p l.l).1])∧St w.heap.size w (Z acc::L) u'):=by
 by_cases hB:(Ac G.p).1=0
 ·refine Calls.mono (N8 Z (YtmoojmgihdgceaaGreatDoor.star L) G hG hn g hW l hk fn cap hent hmv hE hB hu.rest1) ?_;rintro e u' ⟨x,h1,h2,h3⟩;exact⟨x,h1,h2,h3.unrest1⟩
 refine Calls.mono (NY Z (YtmoojmgihdgceaaGreatDoor.star L) G hG hn g hW l hk fn cap hent hmv hB hu.rest1) ?_;rintro e u' ⟨x,h1,h2,h3⟩;exact⟨x,h1,h2,h3.unrest1⟩
theorem Tq {w u:World} (L:List SA) (G:Game) (hG:GameOk w G) (hn:NearG G) (g:Sl ByteArray) (hW:GOk w g) (l:Sl Entr) (hk:SlT cEntry w l) (hE:(AC G.p l.l).1=0) (hu:St w.heap.size w (YtmoojmgihdgceaaGreatDoor.osl 0 1 (.slice none 0 0) 0 []::L) u):Calls prog 25 #[.agg (gcl G).toArray,l.v,.func (.func 26) #[] #[]] u (fun e u'=>∃x:Nat×Pos,(x.2.x=(AC G.p l.l).2.2.x∧∃u0,PosOk u0 x.2)∧e = .returned (.tuple #[.pointer (some ⟨x.1,0,none⟩),.int .i64 0])∧St w.heap.size w (blk x.1 [G.rm.pls.v,G.rm.ths.v,G.rm.prs.v,G.rm.wys.v,G.rm.acs.v,G.rm.aus.v,.int .i64 G.rm.ply,G.rm.gl.v,G.lks.v,G.cds.v,G.nts.v,.int .i64 G.tr,x.2.st.ths.v,x.2.st.prs.v,x.2.st.pls.v,x.2.rd.v,.bool (AC G.p l.l).2.2.st,.int .i64 (AC G.p l.l).2.2.si,.int .i64 (AC G.p l.l).2.2.pa,.int .i64 (AC G.p l.l).2.2.en,.int .i64 (AC G.p l.l).2.2.hi] 100::(roS fun u=>PosOk u x.2)::YtmoojmgihdgceaaGreatDoor.osl 0 1 (.slice none 0 0) 0 []::L) u'):=
 Ob (fun _=>YtmoojmgihdgceaaGreatDoor.osl 0 1 (.slice none 0 0) 0 []) G hG hn g hW l hk 26 [] Yl (fun R fb acc y f u hyx hq hac hu=>Calls.mono (ON fb u) fun e u2 h=>⟨h.1,hu.ext h.2⟩) L hE hu
theorem TI {w u:World} (L:List SA) (G:Game) (hG:GameOk w G) (hn:NearG G) (g:Sl ByteArray) (hW:GOk w g) (l:Sl Entr) (hk:SlT cEntry w l) (hE:¬(AC G.p l.l).1=0) (hu:St w.heap.size w (YtmoojmgihdgceaaGreatDoor.osl 0 1 (.slice none 0 0) 0 []::L) u):Calls prog 25 #[.agg (gcl G).toArray,l.v,.func (.func 26) #[] #[]] u (fun e u'=>∃acc:List (List Int),True∧e = .returned (.tuple #[.pointer none,.int .i64 (AC G.p l.l).1])∧St w.heap.size w (YtmoojmgihdgceaaGreatDoor.osl 0 1 (.slice none 0 0) 0 []::L) u'):=
 NT (fun _=>YtmoojmgihdgceaaGreatDoor.osl 0 1 (.slice none 0 0) 0 []) G hG hn g hW l hk 26 [] Yl (fun R fb acc y f u hyx hq hac hu=>Calls.mono (ON fb u) fun e u2 h=>⟨h.1,hu.ext h.2⟩) L hE hu
section
variable {P:Program} {ro:Option Nat} {n0:Nat} {w0:World} {ds:List Deferred} {ops:Array Oper} {Q:Exit→Act→World→Prop} {L:List SA} {rest:List Oper} {l:List Value}
theorem WS.ex {β:Type} {f:β→SA} (k:∀b,WS P ro n0 w0 ds ops Q (f b::L) rest l):WS P ro n0 w0 ds ops Q (exS f::L) rest l:=fun u hu=>let⟨b,hb⟩:=hu.ex;k b u hb
theorem WS.factE {p:Prop} {j:Nat} (hj:L[j]? = some (fact p)) (kk:p→WS P ro n0 w0 ds ops Q L rest l):WS P ro n0 w0 ds ops Q L rest l:=fun u hu=>kk (hu.factE hj) u hu
end
theorem Ld (G:Game) (w:World) (hG:GameOk w G) (hn:NearG G) (g:Sl ByteArray) (hW:GOk w g) (l:Sl Entr) (hk:SlT cEntry w l) (hE:(AC G.p l.l).1=0):
  Calls prog 9 #[.agg (gcl G).toArray,l.v] w (RetB w (.tuple #[.int .i64 (B1 G.p l.l).2.1,.int .i64 (B1 G.p l.l).2.2,.int .i64 (B1 G.p l.l).1])):=by
 refine En func9 ?_;refine Nz 0 ?_;refine Wr 3 fun b2 hb2=>?_;refine Nx 0 ?_;refine Wk 1 (Bb 0) ?_;refine WS.weak (fun u hu=>hu.osl0 (e:=0) (size:=1)) ?_;refine WS.callS rfl rfl Ye (fun u hu=>Tq _ G hG hn g hW l hk hE hu) (fun _=>rfl) ?_;rintro⟨fb,y⟩ ⟨hyx,uy,hyok⟩;dsimp only at hyx hyok;refine Wz 5 ?_;refine Nv 2 ?_;refine Wp ?_ ?_<;>intro hc1
 ·exact absurd trivial hc1
 refine Ck (Qc (Cs (Nz 3 ?_)));refine Wk 1 (Ba 0) ?_;refine Wp ?_ ?_<;>intro hc2
 ·refine Nz 3 ?_;exact Wd (Qc (Cr (Qr (out3 rfl rfl rfl rfl (Ab (by rw[HW hE hc2]))))))
 refine Ck (Qc (Cs (Dr mixed 3 ?_)));refine Dk 3 (Ba 0) ?_;refine Dk 3 (Ba 0) ?_;exact Dd (Qc (Cr (out3 rfl rfl rfl rfl (Ab (by rw[Pu hE (by omega)])))))
theorem Kx (G:Game) (w:World) (hG:GameOk w G) (hn:NearG G) (g:Sl ByteArray) (hW:GOk w g) (l:Sl Entr) (hk:SlT cEntry w l) (hE:¬(AC G.p l.l).1=0):
  Calls prog 9 #[.agg (gcl G).toArray,l.v] w (RetB w (.tuple #[.int .i64 (B1 G.p l.l).2.1,.int .i64 (B1 G.p l.l).2.2,.int .i64 (B1 G.p l.l).1])):=by
 refine En func9 ?_;refine Nz 0 ?_;refine Wr 3 fun b2 hb2=>?_;refine Nx 0 ?_;refine Wk 1 (Bb 0) ?_;refine WS.weak (fun u hu=>hu.osl0 (e:=0) (size:=1)) ?_;refine WS.callS rfl rfl Ye (fun u hu=>TI _ G hG hn g hW l hk hE hu) (fun _=>rfl) ?_;rintro acc -;refine Wz 5 ?_;refine Nv 2 ?_;refine Wp ?_ ?_<;>intro hc1
 ·refine Nz 4 ?_;exact Wd (Qc (Cr (Qr (out3 rfl rfl rfl rfl (Ab (by rw[VB hE]))))))
 exact absurd hc1 hE
theorem HS (G:Game) (w:World) (hG:GameOk w G) (hn:NearG G) (g:Sl ByteArray) (hW:GOk w g) (l:Sl Entr) (hk:SlT cEntry w l):
  Calls prog 9 #[.agg (gcl G).toArray,l.v] w (RetB w (.tuple #[.int .i64 (B1 G.p l.l).2.1,.int .i64 (B1 G.p l.l).2.2,.int .i64 (B1 G.p l.l).1])):=by
 by_cases hE:(AC G.p l.l).1=0
 ·exact Ld G w hG hn g hW l hk hE
 exact Kx G w hG hn g hW l hk hE
theorem M8 (G:Game) (w:World) (hG:GameOk w G) (hn:NearG G) (g:Sl ByteArray) (hW:GOk w g) (ms:Sl Timed) (hk:SlT cTimed w ms) (hml:ms.l.length≤1000) (hB:(Ac G.p).1=0):
  Calls prog 10 #[.agg (gcl G).toArray,ms.v] w (RetT cEntry w (AB G.p ms.l).2.2 fun v=>.tuple #[v,.int .i64 (AB G.p ms.l).2.1,.int .i64 (AB G.p ms.l).1]):=by
 have lls:=hk.le;refine En func10 ?_;refine Nz 0 ?_;refine Wr 3 fun b2 hb2=>?_;refine Nx 0 ?_;refine Wk 0 (Bb 0) ?_;refine Wc rfl rfl Jm (fun u hu=>C8 G u (hG.st hu) hn g (hW.st hu) hB) (fun _=>rfl) ?_;rintro⟨fb,y⟩ ⟨hyx,uy,hyok⟩;refine WS.unpack ?_;refine Wz 5 ?_;refine Nv 2 ?_;refine Wp ?_ ?_<;>intro hc1
 ·exact absurd trivial hc1
 refine Ck (Qc (Nz 1 ?_));refine Nv 1 ?_;refine Wk 1 Nc ?_;refine Nu ?_;refine CS.weak (fun _ hu=>hu.osl0 (e:=51) (size:=7)) ?_;refine CS.loopM (σ:=Int×Int×Pos×Value×List Entr) (rsL [5,6,9,13,25,85]) (fun s=>[(24,.int .i64 s.1),(8,.int .i64 s.2.1),(4,s.2.2.2.1)]) (fun s=>[oT cEntry 51 s.2.2.2.1 s.2.2.2.2,blk fb (fcl G s.2.2.1 ({A4 G.p with x:=s.2.2.1.x}:Film)) 100,roS fun u=>PosOk u s.2.2.1,blk b2 (gcl G) 36]) (fun s=>0≤s.1∧s.1≤ms.l.length∧(∃u0,PosOk u0 s.2.2.1)∧posG G.p s.2.2.1.x=0∧(s.2.2.2.2.length:Int)≤16*s.1∧True∧recF G.p ms.l 0 0 (Ac G.p).2 []=recF G.p (ms.l.drop s.1.toNat) s.1 s.2.1 s.2.2.1.x s.2.2.2.2) (fun s=>(ms.l.length-s.1).toNat) (0,0,y,.slice none 0 0,[]) (fun _ _=>rfl) rfl rfl ⟨by simp,by simp,⟨_,hyok⟩,by rw[hyx];exact CC hB,by simp,trivial,by rw[hyx];simp⟩ ?_;intro a t hs;obtain⟨ha1,ha2,⟨ua,haok⟩,ha4,ha5,ha6,ha7⟩:=hs;obtain⟨haa,hab,hac⟩:=haok.st.ones;have had:=Sl.one haok.rd;have hnth:=hn.rm.ths;have hahn:a.2.2.1.st.ths.l.length=G.rm.ths.l.length:=HX ha4;refine Nz 1 ?_;refine Wd (Qc (Cs (Cn ?_ ?_)))<;>intro hc2
 ·refine Ck (Qc (Cs (Ce (Nz 1 ?_))));refine Wk 0 Xc ?_;refine Wk 0 Ua ?_;refine Wq 1 zv54 fun b10 hb10=>?_;refine Wv 0 0 ?_;refine Nv 1 ?_;refine Wk 1 (Ba 0) ?_;refine Wk 1 (Cb rfl rfl J2 (fun u hu=>CE _ _ _ u)) ?_;refine Wp ?_ ?_<;>intro hc3
  ·have hTn:¬(a.2.1≤(nth ms.l a.1).t∧(nth ms.l a.1).t≤1000000):=by have h9:=hc3;first|omega|(simp at h9;omega)
   refine Nz 4 ?_;refine Wd (Qc (Cr (Qr (Qs (Qr (Qr (Qs (Qr ?_))))))))
   exact out3 rfl rfl rfl rfl (by
     have hv:(AB G.p ms.l)=(1,a.1,[]):=ML hB (by decide) (by rw[ha7,AO ha1 (by omega),PG hTn]);rw[hv]
     exact fun u hu=>S0 (C:=cEntry) (f:=fun v=>.tuple #[v,.int .i64 a.1,.int .i64 1]) hu)
  have hTy:a.2.1≤(nth ms.l a.1).t∧(nth ms.l a.1).t≤1000000:=by have h9:=hc3;first|omega|(simp at h9;omega)
  refine Ck (Qc (Nz 1 ?_));refine Wk 1 (Ba 0) ?_;refine Nx 5 ?_;refine Wk 0 (Ba 2) ?_;refine Wc rfl rfl FS (fun u hu=>BQ _ _ u ((hu.ro (j:=3) rfl).st.ths.ints) (by show a.2.2.1.st.ths.l.length≤1000000;omega)) (fun _=>rfl) ?_;intro v43 hv43;refine Wz 1 ?_;refine Nv 2 ?_;refine Wk 0 (Bc 1) ?_;refine WS.callS rfl rfl Zj (fun u hu=>Sy [_,_,_] [_] G hG hn g hW fb a.2.2.1 ({A4 G.p with x:=a.2.2.1.x}) rfl ha4 (nth ms.l a.1).m hu) (fun _=>rfl) ?_;rintro z ⟨hzx,uz,hzok⟩;obtain⟨hza,hzb,hzc⟩:=hzok.st.ones;have hzd:=Sl.one hzok.rd;dsimp only at hzx;refine Wz 1 ?_;refine Wp ?_ ?_<;>intro hc4
  ·have hSn:¬(Ap G.p a.2.2.1.x (nth ms.l a.1).m).1=0:=by first|exact hc4|simpa using hc4
   refine Nz 4 ?_;refine Wd (Qc (Cr (Qr (Qs (Qr (Qr (Qs (Qr ?_))))))))
   exact out3 rfl rfl rfl rfl (by
     have hv:(AB G.p ms.l)=(29,a.1,[]):=ML hB (by decide) (by rw[ha7,AO ha1 (by omega),PH hTy hSn]);rw[hv]
     exact fun u hu=>S0 (C:=cEntry) (f:=fun v=>.tuple #[v,.int .i64 a.1,.int .i64 29]) hu)
  have hS:(Ap G.p a.2.2.1.x (nth ms.l a.1).m).1=0:=by first|exact hc4|simpa using hc4
  rw[if_pos hS]at hzx;have hgd:=Fa (p:=HI a.2.2.1.x) hS;have hzq:posG G.p z.x=0:=by rw[hzx];exact hgd.2.2
  have hzn:z.st.ths.l.length=G.rm.ths.l.length:=HX hzq;have hzl:z.st.ths.l=(Ap G.p a.2.2.1.x (nth ms.l a.1).m).2.1.1:=by rw[←hzx];rfl
  refine Ck (Qc (Nz 2 ?_));refine Wk 1 (Ba 1) ?_;refine Wk 0 (Bc 1) ?_;refine Wk 0 (Aw IH zv51 (pcs:=[(0,[.int .i64 (nth ms.l a.1).t]),(1,[.int .i64 1]),(2,[.int .i64 (nth ms.l a.1).m.p,.int .i64 (nth ms.l a.1).m.k,.int .i64 (nth ms.l a.1).m.n])]) rfl (CellsOf.one rfl (CellsOf.one rfl (CellsOf.agg CellsOf.nil))) rfl) ?_;refine WS.buildT1 cEntry (a:=(⟨(nth ms.l a.1).t,1,(nth ms.l a.1).m,0,0⟩:Entr)) sl38 zv51 rfl (by decide) (fun _=>rfl) ?_;intro v56;refine WS.appendT1 (C:=cEntry) (a:=(⟨(nth ms.l a.1).t,1,(nth ms.l a.1).m,0,0⟩:Entr)) (j:=3) (jz:=0) sl38 zv51 rfl (by decide) rfl rfl rfl rfl (w:=w) trivial (by omega) (by omega) (fun _=>rfl) (fun _=>rfl) ?_;intro v57 hv57;refine Wz 1 ?_;refine Nx 5 ?_;refine Wk 0 (Ba 4) ?_;refine Wk 1 (Gs (s:=z.st.ths) sl37 rfl hzok.st.ths) ?_;refine Nu ?_;refine CS.sel [3,1,1,1,1,1] rfl ?_;refine CS.loopM (σ:=Int×Value) (rsL [12,13,66,84]) (fun s=>[(65,.int .i64 s.1),(4,s.2)]) (fun s=>[oT cEntry 51 s.2 (a.2.2.2.2++⟨(nth ms.l a.1).t,1,(nth ms.l a.1).m,0,0⟩::C9 (nth ms.l a.1).t a.2.2.1.x.1.1 (Ap G.p a.2.2.1.x (nth ms.l a.1).m).2.1.1 s.1),oints 3 v43 a.2.2.1.st.ths.l,blk b10 (cTimed.cells (nth ms.l a.1)) 54,blk fb (fcl G z ({A4 G.p with x:=z.x}:Film)) 100,roS fun u=>PosOk u z,blk b2 (gcl G) 36]) (fun s=>0≤s.1∧s.1≤z.st.ths.l.length) (fun s=>(z.st.ths.l.length-s.1).toNat) (0,v57) (fun _ _=>rfl) rfl rfl ⟨by simp,by simp⟩ ?_;intro q t hs;obtain⟨hq1,hq2⟩:=hs;refine Nz 1 ?_;refine Wd (Qc (Cs (Cn ?_ ?_)))<;>intro hc5
  ·have hql:q.1<(z.st.ths.l.length:Int):=by first|exact hc5|simpa using hc5
   have hsl:=H6 (t:=(nth ms.l a.1).t) (old:=a.2.2.1.x.1.1) (new:=(Ap G.p a.2.2.1.x (nth ms.l a.1).m).2.1.1) (k:=q.1);have hcl:(a.2.2.2.2++⟨(nth ms.l a.1).t,1,(nth ms.l a.1).m,0,0⟩::C9 (nth ms.l a.1).t a.2.2.1.x.1.1 (Ap G.p a.2.2.1.x (nth ms.l a.1).m).2.1.1 q.1).length=a.2.2.2.2.length+1+(C9 (nth ms.l a.1).t a.2.2.1.x.1.1 (Ap G.p a.2.2.1.x (nth ms.l a.1).m).2.1.1 q.1).length:=by simp;omega
   refine Ck (Qc (Cs (Ce (Nz 1 ?_))));refine Wk 0 (E1 (s:=z.st.ths) sl37 rfl rfl hzok.st.ths rfl (by omega) (by omega)) ?_;refine Wk 2 (Gr 4 (s:=z.st.ths) rfl (fun _ h↦h.st.ths) rfl rfl ⟨by omega,by omega⟩ rfl tk3) ?_;refine Nx 3 ?_;refine Wk 0 (Xb 1) ?_;refine Wk 1 (Gq (j:=1) rfl rfl ⟨by omega,by omega⟩ tk3) ?_;refine Wp ?_ ?_<;>intro hc6
   ·have hne:¬nth (Ap G.p a.2.2.1.x (nth ms.l a.1).m).2.1.1 q.1=nth a.2.2.1.x.1.1 q.1:=by rw[←hzl];first|exact hc6|simpa using hc6
    refine Ny 2 ?_;refine Wk 2 (Ba 2) ?_;refine Wk 0 (Aw IH zv51 (pcs:=[(0,[.int .i64 (nth ms.l a.1).t]),(1,[.int .i64 5]),(3,[.int .i64 q.1]),(4,[.int .i64 (nth z.st.ths.l q.1)])]) rfl (CellsOf.one rfl (CellsOf.one rfl (CellsOf.one rfl (CellsOf.one rfl CellsOf.nil)))) rfl) ?_;refine WS.buildT1 cEntry (a:=⟨(nth ms.l a.1).t,5,mv0,q.1,nth z.st.ths.l q.1⟩) sl38 zv51 rfl (by decide) (fun _=>rfl) ?_;intro v82;refine WS.appendT1 (C:=cEntry) (a:=⟨(nth ms.l a.1).t,5,mv0,q.1,nth z.st.ths.l q.1⟩) (j:=1) (jz:=0) sl38 zv51 rfl (by decide) rfl rfl rfl rfl (w:=w) trivial (by omega) (by omega) (fun _=>rfl) (fun _=>rfl) ?_;intro v83 hv83;refine Wz 1 ?_;refine Wd (Qb (Qc (Ny 0 ?_)));refine Wk 1 Za ?_;refine Wd ?_;refine QS.sel [1,1,1,1,1,1] rfl ?_;exact QS.head ((q.1+1,v83)) rfl (by first|simp only[←Im hq1 hne,hzl,List.append_assoc,List.cons_append,List.nil_append]|simp only[←Jv hq1 heq]) ⟨⟨by simp;omega,by simp;omega⟩,by simp;omega⟩
   have heq:nth (Ap G.p a.2.2.1.x (nth ms.l a.1).m).2.1.1 q.1=nth a.2.2.1.x.1.1 q.1:=by rw[←hzl];first|exact hc6|simpa using hc6
   refine Ck (Qb (Qc (Ny 0 ?_)));refine Wk 1 Za ?_;exact Wd (QS.head ((q.1+1,q.2)) rfl (by first|simp only[←Im hq1 hne,hzl,List.append_assoc,List.cons_append,List.nil_append]|simp only[←Jv hq1 heq]) ⟨⟨by simp;omega,by simp;omega⟩,by simp;omega⟩)
  have hqe:q.1=(Ap G.p a.2.2.1.x (nth ms.l a.1).m).2.1.1.length:=by rw[←hzl];omega
  have hsl:=H6 (t:=(nth ms.l a.1).t) (old:=a.2.2.1.x.1.1) (new:=(Ap G.p a.2.2.1.x (nth ms.l a.1).m).2.1.1) (k:=q.1);rw[←hzl]at hqe;have hse:=N5 (t:=(nth ms.l a.1).t) (old:=a.2.2.1.x.1.1) (new:=(Ap G.p a.2.2.1.x (nth ms.l a.1).m).2.1.1) (k:=q.1) (by rw[←hzl];exact hqe);refine Cv (Qe (Qe (Qx (Qb (Qc (Ny 0 ?_))))));refine Wk 1 Za ?_;refine Wd ?_;refine QS.sel [0,2,2,2] rfl ?_;exact QS.head ((a.1+1,(nth ms.l a.1).t,z,q.2,(a.2.2.2.2++⟨(nth ms.l a.1).t,1,(nth ms.l a.1).m,0,0⟩::C9 (nth ms.l a.1).t a.2.2.1.x.1.1 (Ap G.p a.2.2.1.x (nth ms.l a.1).m).2.1.1 q.1))) rfl rfl ⟨⟨by simp;omega,by simp;omega,⟨_,hzok⟩,hzq,by simp;omega,trivial,by rw[ha7,AO ha1 (by omega),L6 hTy hS,hse,←hzx]⟩,by simp;omega⟩
 have hrn:recF G.p ms.l 0 0 (Ac G.p).2 []=(0,0,a.2.2.2.2,a.2.2.1.x):=by rw[ha7,List.drop_of_length_le (by omega),recF]
 refine Cv (Qe (Qe (Qx (Qc (Cs (Nz 1 ?_))))));refine Wk 1 (BG (j:=0) sl38 rfl rfl) ?_;refine Wp ?_ ?_<;>intro hc7
 ·refine Nz 3 ?_;refine Wd (Qc (Cr (Qr ?_)))
  exact out3 rfl rfl rfl rfl (by
    have hv:(AB G.p ms.l)=(2,0,[]):=TP hB hrn (by omega);rw[hv]
    exact fun u hu=>S0 (C:=cEntry) (f:=fun v=>.tuple #[v,.int .i64 0,.int .i64 2]) hu)
 refine Ck (Qc (Nz 4 ?_));refine Wd (Qc (Cr ?_))
 exact out3 rfl rfl rfl rfl (by
   have hv:(AB G.p ms.l)=(0,0,a.2.2.2.2):=TD hB hrn (by omega);rw[hv]
   exact fun u hu=>retT (C:=cEntry) (f:=fun v=>.tuple #[v,.int .i64 0,.int .i64 0]) (j:=0) (fun _ _ _=>trivial) rfl hu)
theorem N3 (G:Game) (w:World) (hG:GameOk w G) (hn:NearG G) (g:Sl ByteArray) (hW:GOk w g) (ms:Sl Timed) (hk:SlT cTimed w ms) (hml:ms.l.length≤1000) (hB:¬(Ac G.p).1=0):
  Calls prog 10 #[.agg (gcl G).toArray,ms.v] w (RetT cEntry w (AB G.p ms.l).2.2 fun v=>.tuple #[v,.int .i64 (AB G.p ms.l).2.1,.int .i64 (AB G.p ms.l).1]):=by
 refine En func10 ?_;refine Nz 0 ?_;refine Wr 3 fun b2 hb2=>?_;refine Nx 0 ?_;refine Wk 0 (Bb 0) ?_;refine Wk 5 (Cb rfl rfl Jm (fun u hu=>Hp G u (hG.st hu) hn g (hW.st hu) hB)) ?_;refine Nv 2 ?_;refine Wp ?_ ?_<;>intro hc1
 ·refine Nz 4 ?_;refine Wd (Qc (Cr (Qr ?_)))
  exact out3 rfl rfl rfl rfl (by
    have hv:(AB G.p ms.l)=((Ac G.p).1,0,[]):=SS hB;rw[hv]
    exact fun u hu=>S0 (C:=cEntry) (f:=fun v=>.tuple #[v,.int .i64 0,.int .i64 (Ac G.p).1]) hu)
 exact absurd hc1 hB
theorem RC (G:Game) (w:World) (hG:GameOk w G) (hn:NearG G) (g:Sl ByteArray) (hW:GOk w g) (ms:Sl Timed) (hk:SlT cTimed w ms) (hml:ms.l.length≤1000):
  Calls prog 10 #[.agg (gcl G).toArray,ms.v] w (RetT cEntry w (AB G.p ms.l).2.2 fun v=>.tuple #[v,.int .i64 (AB G.p ms.l).2.1,.int .i64 (AB G.p ms.l).1]):=by
 by_cases hB:(Ac G.p).1=0
 ·exact M8 G w hG hn g hW ms hk hml hB
 exact N3 G w hG hn g hW ms hk hml hB
end Go.Proofs.YtmoojmgihdgceaaGreatDoor
