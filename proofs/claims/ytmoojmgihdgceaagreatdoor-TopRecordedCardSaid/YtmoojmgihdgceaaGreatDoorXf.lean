/- Merged texts of this proof (walks and plain laws), printed by a program of the prover. -/
import Derived.Test.YtmoojmgihdgceaaGreatDoorZb
import Derived.Shelf.Strings.Builder1
import Derived.Test.YtmoojmgihdgceaaGreatDoorShelf
import Derived.Test.YtmoojmgihdgceaaGreatDoorZc
import Derived.Test.YtmoojmgihdgceaaGreatDoorZb2
import Derived.Test.YtmoojmgihdgceaaGreatDoorXd
import Derived.Lib.AppendIntMem
set_option maxHeartbeats 8000000
namespace Go.Proofs.YtmoojmgihdgceaaGreatDoor
open Go.RowKit Go.Proofs Tryz
set_option maxRecDepth 100000
set_option linter.unusedVariables false
set_option linter.unusedSimpArgs false
structure Bld where
 us:Bool
 v:Value
 bs:ByteArray
def Cw (b:Nat) (x:Bld):List Value:=[if x.us=true then .pointer (some ⟨b,0,none⟩)else .pointer none,x.v]
def MG (x:Bld):SA:=osl 5 1 x.v x.bs.size (Lib.strCells x.bs)
def E6 (b:Nat) (x:Bld):List SA:=[blk b (Cw b x) 267,MG x]
def bldr (b:Nat) (x:Bld):SA:=star (E6 b x)
def lays240r:Go.Shelf.Ren:=⟨fun|240=>233|276=>247|n=>n,fun|0=>0|4=>4|9=>9|20=>20|70=>264|72=>267|37=>265|164=>301|n=>n,fun|n=>n⟩
theorem MY:Go.Proofs.Lays.n240 prog lays240r:={
 mixed:=by kernel_rfl
 f240:=func233.trans (congrArg some (by kernel_rfl))
 f276:=func247.trans (congrArg some (by kernel_rfl))
 t0:=underlying0
 a0:=Tryz.isAgg0
 z0:=Tryz.sizeOf0
 v0:=Tryz.zeroValue0
 t4:=underlying4
 a4:=Tryz.isAgg4
 z4:=Tryz.sizeOf4
 v4:=Tryz.zeroValue4
 t9:=underlying9
 a9:=Tryz.isAgg9
 z9:=Tryz.sizeOf9
 v9:=Tryz.zeroValue9
 t20:=underlying20
 a20:=Tryz.isAgg20
 z20:=Tryz.sizeOf20
 v20:=Tryz.zeroValue20
 t70:=underlying264
 a70:=Tryz.isAgg264
 z70:=Tryz.sizeOf264
 v70:=Tryz.zeroValue264
 t72:=underlying267
 a72:=Tryz.isAgg267
 z72:=Tryz.sizeOf267
 v72:=Tryz.zeroValue267
 t164:=underlying301
 a164:=Tryz.isAgg301
 z164:=Tryz.sizeOf301
 v164:=Tryz.zeroValue301}
theorem x72n:Builder.X72 prog lays240r:={
 sizeBuilder:=by kernel_rfl
 liesBuilder:=by kernel_rfl}
theorem Lt {n0:Nat} {w u:World} {L:List SA} (bb:Nat) (x:Bld) (hu:St n0 w (blk bb (Cw bb x) 267::L) u):
  Calls prog 233 #[.pointer (some ⟨bb,0,none⟩)] u (fun e u'=>e = .returned (.tuple #[])∧St n0 w (blk bb (Cw bb {x with us:=true}) 267::L) u'):=by
 obtain⟨hb0,hb⟩:=hu.blk (j:=0) rfl;have h0:u.cell? ⟨bb,0,none⟩=some (if x.us=true then .pointer (some ⟨bb,0,none⟩)else .pointer none):=by simp[World.cell?,hb,Cw]
 cases hx:x.us with
 |true=>
  rw[hx]at h0;refine(Any.Builder_copyCheck_used (ρ:=lays240r) MY x72n bb u h0).mono ?_;rintro e w' ⟨rfl,rfl⟩;refine⟨rfl,?_⟩;rw[show({x with us:=true}:Bld)=x by cases x;cases hx;rfl];exact hu
 |false=>
  rw[hx]at h0;refine(Any.Builder_copyCheck_fresh (ρ:=lays240r) MY x72n bb u h0 (by simp[World.shape?,hb,Cw];rfl) (Lib.frozen_of_heap hb 0)).mono ?_;rintro e w' ⟨rfl,rfl⟩;refine⟨rfl,?_⟩;have:=hu.store (j:=0) rfl 0 (.pointer (some ⟨bb,0,none⟩));exact this
theorem KN {n0:Nat} {w u:World} {L:List SA} (bb:Nat) (x:Bld) (hu:St n0 w (blk bb (Cw bb x) 267::L) u):
  Calls prog 233 #[.pointer (some ⟨bb,0,none⟩)] u (fun e u'=>(∃y:Unit,True∧e = .returned (.tuple #[])∧St n0 w (blk bb (Cw bb {x with us:=true}) 267::L) u')∨(False∧e = .panicked []∧St n0 w L u')):=
 (Lt bb x hu).mono fun _ _ h=>.inl ⟨(),trivial,h.1,h.2⟩
theorem Jy (a b:ByteArray):Lib.strCells (a++b)=Lib.strCells a++Lib.strCells b:=by simp[Lib.strCells,ByteArray.data_append]
theorem NK (v:Value) (a b:ByteArray):osl 5 1 v (a.size+b.size) (Lib.strCells a++Lib.strCells b)=MG ⟨true,v,a++b⟩:=by
 unfold MG;rw[Jy,ByteArray.size_append]
theorem T7 {w u:World} (R:SA) (bb:Nat) (sx:Bld) (hu:St w.heap.size w [bldr bb sx,R] u) (t0:ByteArray) (hs:sx.bs.size+t0.size≤1000000):
  Calls prog 199 #[.pointer (some ⟨bb,0,none⟩),.string t0] u (RetX w R [] (fun y:Bld=>y.bs=sx.bs++t0) False (fun _=>.tuple #[.int .i64 t0.size,.nilIface]) (fun y=>bldr bb y)):=by
 refine Ei hu func199 ?_;refine CS.unpack (L1:=E6 bb sx) ?_;refine Nz 2 ?_;refine Nx 1 ?_;refine WS.callP rfl rfl Yq (fun u hu=>KN bb sx hu) (fun _=>rfl) (fun hq u hu=>hq.elim) ?_;rintro⟨⟩ _;refine Nx 4 ?_;refine Wk 1 (by exact Aj (j:=0) rfl rfl rfl XF) ?_;refine WS.appendS (j:=1) (s:=t0) (n:=sx.bs.size) (xs:=Lib.strCells sx.bs) Jae (by kernel_rfl) underlying9 rfl rfl rfl (by omega) (fun _=>rfl) (fun _=>rfl) ?_;intro v14 hv14;refine Wz 2 ?_;refine WS.store (j:=0) rfl rfl (by first|decide|omega|(simp;done)|(simp;omega)|exact Nat.le_of_ble_eq_true rfl) rfl (by first|rfl|assumption) XF rfl rfl ?_;refine Nx 1 ?_;refine Wk 2 (A2 underlying9 rfl) ?_;refine Wd (Qc (Cr ?_));refine QS.weak (L':=[blk bb (Cw bb ⟨true,v14,sx.bs++t0⟩) 267,MG ⟨true,v14,sx.bs++t0⟩,R]) (fun u hu=>by rw[←NK];exact hu) ?_;exact out2 rfl rfl rfl (fun u hu=>.inl ⟨⟨true,v14,sx.bs++t0⟩,rfl,rfl,St.pack (L1:=E6 bb ⟨true,v14,sx.bs++t0⟩) hu⟩)
theorem Ql {n0:Nat} {w u:World} (bb:Nat) (sx:Bld) (hu:St n0 w [bldr bb sx] u):
  Calls prog 201 #[.pointer (some ⟨bb,0,none⟩)] u (fun e u'=>(∃y:Unit,True∧e = .returned (.string sx.bs)∧St n0 w [] u')∨(False∧e = .panicked []∧St n0 w [] u')):=by
 have hu2:=St.unpack (L1:=E6 bb sx) hu;obtain⟨hle,hbel,T,hT,⟨hS,hb⟩,T2,hT2,⟨hS2,hown⟩,_⟩:=hu2;have hbn:n0≤bb:=hT bb ((hS bb).2 rfl)
 have hown2:u.ownsRow n0 5 1 sx.v sx.bs.size (Lib.strCells sx.bs):=by
  refine⟨hown.1,?_⟩;rcases hown.2 with h|⟨g,cap,cur,e,h0,hr⟩
  ·exact .inl h
  refine .inr ⟨g,cap,cur,e,?_,hr⟩;exact(hT2 g ((hS2 g).2 (by rw[e];rfl))).1
 have hne:sx.v.ownBlock≠some bb:=fun e=>(hT2 bb ((hS2 bb).2 e)).2 ((hS bb).2 rfl);have hlen:(Lib.byteCells (bl sx.bs)).length=sx.bs.size:=by rw[Lib.byteCells_length,D9]
 have hat:∀p,u.heap[bb]? = some (.cells #[p,sx.v] 267 (0,0))→Lib.BuilderAt 267 5 n0 bb p (Lib.byteCells (bl sx.bs)) u:=fun p hp=>⟨hbn,sx.v,hp,by rw[hlen];exact hown2,hne⟩
 have hib:Lib.IsBuilder 267 5 n0 bb (Lib.byteCells (bl sx.bs)) u:=by
  cases hx:sx.us with
  |true=>exact .inr (hat _ (by rw[hb];simp[Cw,hx]))
  |false=>exact .inl (hat _ (by rw[hb];simp[Cw,hx]))
 refine(Tryz.Builder_String_any_f n0 bb (bl sx.bs) u (Lib.IsBuilderF.of hib) (Nat.le_trans hle hbel.size)).mono ?_;rintro e w' ⟨rfl,_,hB⟩;exact .inl ⟨(),trivial,rfl,hle,hbel.trans hB,trivial⟩
def CU (G:GP):List Entr→Film→List PX
 |[],_=>[]
 |e::l,f=>match A6 G f e with
  |some f'=>if e.k=1 then f'.x::CU G l f' else CU G l f'
  |none=>[]
theorem Hi {G:GP} {e:Entr} {l:List Entr} {f f':Film} (h:A6 G f e=some f') (hk:e.k=1):CU G (e::l) f=f'.x::CU G l f':=by
 conv=>lhs;unfold CU
 rw[h];exact if_pos hk
theorem Hw {G:GP} {e:Entr} {l:List Entr} {f f':Film} (h:A6 G f e=some f') (hk:¬e.k=1):CU G (e::l) f=CU G l f':=by
 conv=>lhs;unfold CU
 rw[h];exact if_neg hk
def idxI (ps:List PX) (x:PX):Int:=(((idxG ps x).getD 0:Nat):Int)
theorem F2 {ps:List PX} {x:PX} (h:x∈ps):0≤idxI ps x∧idxI ps x<ps.length∧nth ps (idxI ps x)=x:=by
 obtain⟨n,hn⟩:=S1 h;obtain⟨h1,h2⟩:=Kj hn;unfold idxI;rw[hn];simp only[Option.getD_some];exact⟨by omega,by omega,by simp[nth,List.getD,h2]⟩
theorem O2 {α:Type} [Inhabited α] {q:List α} (hn:q.Nodup) {a b:Int} (a0:0≤a) (a1:a<q.length) (b0:0≤b) (b1:b<q.length) (h:nth q a=nth q b):a=b:=by
 have ha:a.toNat<q.length:=by omega
 have hb:b.toNat<q.length:=by omega
 simp only[nth,List.getD,List.getElem?_eq_getElem ha,List.getElem?_eq_getElem hb,Option.getD_some]at h;have:=(List.getElem_inj hn).1 h;omega
theorem GM {ps:List PX} {x:PX} {n:Int} (hn:ps.Nodup) (h0:0≤n) (h1:n<ps.length) (h:nth ps n=x):idxI ps x=n:=by
 obtain⟨a,b,c⟩:=F2 (ps:=ps) (x:=x) (by rw[←h];exact Ad h0 h1);exact O2 hn a b h0 h1 (c.trans h.symm)
def finB (G:GP) (ps:List PX) (i:Int):Bool:=Cl G (nth ps i)
abbrev K8 (G:GP) (ps:List PX) (es:List (List EdgeD)) (d:List Int):Prop:=IsD (finB G ps) es d
def Ev (δ:PX→Int):PX→List PX→Int
 |_,[]=>0
 |x,y::r=>(if δ y<0∨δ x≤δ y then 1 else 0)+Ev δ y r
def dOf (ps:List PX) (d:List Int) (x:PX):Int:=nth d (idxI ps x)
def WayF (G:GP):PX→List PX→Prop
 |_,[]=>True
 |x,y::r=>(∃m∈Ai G x,y=AM G x m)∧WayF G y r
theorem OC {G:GP} {f f':Film} {e:Entr} (hq:posG G f.x=0) (h:A6 G f e=some f') (hk:e.k=1):AE G f.x e.m=true∧f'.x=AM G f.x e.m:=by
 obtain⟨_,h|h|h|h|h⟩:=Ch h
 ·obtain⟨_,_,hs,rfl⟩:=h;have hp:=(Um hq).1 hs;refine⟨hp,?_⟩;show(Ap G f.x e.m).2=_;unfold Ap;rw[if_pos hq,if_pos hp]
 all_goals (have:=h.1;omega)
theorem Ok {G:GP} {f f':Film} {e:Entr} (h:A6 G f e=some f') (hk:¬e.k=1):f'.x=f.x:=by
 obtain⟨_,h|h|h|h|h⟩:=Ch h
 ·exact absurd h.1 hk
 ·rw[h.2.2.2]
 ·rw[h.2.2]
 ·rw[h.2.2]
 rw[h.2.2]
theorem R2 {G:Game} {x:PX} {m:Move} (hq:posG G.p x=0) (h:AE G.p x m=true):m∈Ai G.p x:=OZ (p:=HI x) (BJ (p:=HI x) hq) h
theorem Eh {G:Game} {x:PX} {m:Move} (h:m∈Ai G.p x):AE G.p x m=true:=(List.mem_filter.1 h).2
theorem Er {G:Game} {x:PX} (hq:posG G.p x=0) {m:Move} (h:m∈Ai G.p x):posG G.p (AM G.p x m)=0:=by
 have h1:=(Um hq).2 (Eh h);obtain⟨_,h2,h3⟩:=Fa (p:=HI x) h1;have h4:(Ap G.p x m).2=AM G.p x m:=h2;rw[←h4];exact h3
theorem Gt {G:Game}:∀(l:List Entr) (i last:Int) (f F:Film),posG G.p f.x=0→B9 G.p l i last f = .ok F→WayF G.p f.x (CU G.p l f)
 |[],_,_,_,_,_,_=>trivial
 |e::l,i,last,f,F,hq,h=>by
  obtain⟨_,f',hs,hr⟩:=Hb h
  by_cases hk:e.k=1
  ·rw[Hi hs hk];obtain⟨hp,hx⟩:=OC hq hs hk;have hm:=R2 hq hp;have hq2:posG G.p f'.x=0:=by rw[hx];exact Er hq hm
   exact⟨⟨e.m,hm,hx⟩,Gt l (i+1) e.t f' F hq2 hr⟩
  rw[Hw hs hk];have hx:=Ok hs hk;rw[←hx];exact Gt l (i+1) e.t f' F (by rw[hx];exact hq) hr
theorem IX {G:GP}:∀(l:List Entr) (i last:Int) (f F:Film),B9 G l i last f = .ok F→(CU G l f).length=(l.filter fun e=>decide (e.k=1)).length
 |[],_,_,_,_,_=>rfl
 |e::l,i,last,f,F,h=>by
  obtain⟨_,f',hs,hr⟩:=Hb h;have ih:=IX l (i+1) e.t f' F hr
  by_cases hk:e.k=1
  ·rw[Hi hs hk,List.filter_cons,if_pos (decide_eq_true hk),List.length_cons,List.length_cons,ih]
  rw[Hw hs hk,List.filter_cons,if_neg (by rw[decide_eq_false hk];decide),ih]
theorem I7 {G:GP}:∀(l:List Entr) (i last:Int) (f F:Film),B9 G l i last f = .ok F→f.en<0→0≤F.en→∃y∈CU G l f,Cl G y=true
 |[],_,_,f,F,h,h0,h1=>by
  cases h;omega
 |e::l,i,last,f,F,h,h0,h1=>by
  obtain⟨_,f',hs,hr⟩:=Hb h
  by_cases hk:e.k=1
  ·rw[Hi hs hk]
   by_cases hd:Cl G f'.x=true
   ·exact⟨f'.x,by simp,hd⟩
   have hen:f'.en=f.en:=by
    obtain⟨_,h|h|h|h|h⟩:=Ch hs
    ·obtain⟨_,_,_,rfl⟩:=h;exact if_neg fun q=>hd q.2
    all_goals (have:=h.1;omega)
   obtain⟨y,hy,hy2⟩:=I7 l (i+1) e.t f' F hr (by omega) h1;exact⟨y,by simp[hy],hy2⟩
  rw[Hw hs hk]
  have hen:f'.en=f.en:=by
   obtain⟨_,h|h|h|h|h⟩:=Ch hs
   ·exact absurd h.1 hk
   ·rw[h.2.2.2]
   ·rw[h.2.2]
   ·rw[h.2.2]
   rw[h.2.2]
  exact I7 l (i+1) e.t f' F hr (by omega) h1
section
variable {G:Game} {x0:PX} {ps:List PX} {es:List (List EdgeD)} {d:List Int}
theorem GrAll.edge_of (h:GrAll G.p x0 ps es) {i:Int} (h0:0≤i) (h1:i<es.length) {m:Move} (hm:m∈Ai G.p (nth ps i)):∃e∈nth es i,e.m=m∧(0≤e.to∧e.to<ps.length∧nth ps e.to=AM G.p (nth ps i) m):=by
 have hk:=h.ok.es i h0 h1;rw[←hk.mv]at hm;obtain⟨e,he,rfl⟩:=List.mem_map.1 hm;exact⟨e,he,rfl,hk.to e he⟩
theorem GrAll.next_mem (h:GrAll G.p x0 ps es) {x:PX} (hx:x∈ps) {m:Move} (hm:m∈Ai G.p x):AM G.p x m∈ps:=by
 obtain⟨a,b,c⟩:=F2 hx;rw[←c]at hm;obtain⟨e,_,_,t0,t1,t2⟩:=h.edge_of a (by rw[h.len];exact b) hm;rw[c]at t2;rw[←t2];exact Ad t0 t1
theorem GrAll.d_edge (h:GrAll G.p x0 ps es) (hd:K8 G.p ps es d) {x:PX} (hx:x∈ps) {m:Move} (hm:m∈Ai G.p x) (hz:0≤dOf ps d (AM G.p x m)):0≤dOf ps d x∧dOf ps d x≤dOf ps d (AM G.p x m)+1:=by
 obtain⟨a,b,c⟩:=F2 hx;rw[←c]at hm;obtain⟨e,he,_,t0,t1,t2⟩:=h.edge_of a (by rw[h.len];exact b) hm;rw[c]at t2;have e1:dOf ps d (AM G.p x m)=nth d e.to:=by unfold dOf;rw[GM h.ok.pk.nd t0 t1 t2]
 rw[e1]at hz⊢;exact hd.edge a (by rw[h.len];exact b) he ⟨t0,by rw[h.len];exact t1⟩ hz
theorem GrAll.d_zero (h:GrAll G.p x0 ps es) (hd:K8 G.p ps es d) {x:PX} (hx:x∈ps):dOf ps d x=0↔Cl G.p x=true:=by
 obtain⟨a,b,c⟩:=F2 hx;have:=hd.zero a (by rw[h.len];exact b);unfold finB at this;rw[c]at this;exact this
theorem GrAll.way_mem (h:GrAll G.p x0 ps es):∀(r:List PX) (x:PX),x∈ps→WayF G.p x r→∀y∈r,y∈ps
 |[],_,_,_=>fun y hy=>by cases hy
 |z::r,x,hx,hw=>by
  obtain⟨⟨m,hm,rfl⟩,hw2⟩:=hw;have hz:=h.next_mem hx hm;intro y hy;rcases List.mem_cons.1 hy with rfl|hy
  ·exact hz
  exact h.way_mem r _ hz hw2 y hy
theorem GrAll.waste_ge (h:GrAll G.p x0 ps es) (hd:K8 G.p ps es d):∀(r:List PX) (x:PX),x∈ps→WayF G.p x r→(∃y∈x::r,Cl G.p y=true)→0≤dOf ps d x∧dOf ps d x≤r.length-Ev (dOf ps d) x r
 |[],x,hx,_,⟨y,hy,hf⟩=>by
  rw[List.mem_singleton.1 hy]at hf;have:=(h.d_zero hd hx).2 hf;simp[Ev];omega
 |z::r,x,hx,hw,⟨y,hy,hf⟩=>by
  obtain⟨⟨m,hm,rfl⟩,hw2⟩:=hw;have hz:=h.next_mem hx hm
  have hge:∀(r:List PX) (x:PX),0≤(r.length:Int)-Ev (dOf ps d) x r:=by
   intro r
   induction r with
   |nil=>intro x;simp[Ev]
   |cons a r ih=>
    intro x;have:=ih a;unfold Ev;simp only[List.length_cons];split<;>omega
  by_cases hx0:Cl G.p x=true
  ·have:=(h.d_zero hd hx).2 hx0;have:=hge (AM G.p x m::r) x;omega
  have hy2:∃y∈AM G.p x m::r,Cl G.p y=true:=by
   rcases List.mem_cons.1 hy with rfl|hy
   ·exact absurd hf hx0
   exact⟨y,hy,hf⟩
  obtain⟨i1,i2⟩:=h.waste_ge hd r _ hz hw2 hy2;obtain⟨j1,j2⟩:=h.d_edge hd hx hm i1;refine⟨j1,?_⟩;unfold Ev;simp only[List.length_cons];split<;>omega
end
theorem E9 {G:Game} {x:PX} (h:posG G.p x=0):StIn G.rm x.1∧x.2.length=G.nts.l.length∧Ready G.rm∧G.nts.l.length≤16:=by
 have hP:=BJ (p:=HI x) h;exact⟨hP.inn,hP.ln,hP.ready,hP.nn⟩
theorem MH {G:Game} {x y:PX} (hx:posG G.p x=0) (hy:posG G.p y=0):Alen x y:=by
 obtain⟨a,b,_⟩:=E9 hx;obtain⟨c,d,_⟩:=E9 hy;have:=a.ll;have:=c.ll;exact⟨a.lt.trans c.lt.symm,a.lp.trans c.lp.symm,by omega,b.trans d.symm⟩
theorem Mw {G:Game} {x:PX} (h:posG G.p x=0):∀n∈x.1.1,0≤n∧n≤5:=fun n hn=>by
 obtain⟨a,_,r,_⟩:=E9 h;obtain⟨k,hk,rfl⟩:=List.getElem_of_mem hn;have h1:=a.th k (by omega) (by omega);have e:nth x.1.1 (k:Int)=x.1.1[k]:=by simp[nth,List.getD,hk]
 rw[e]at h1;have h2:=G5 h1;have h3:=UV (r.ths _ (Ad (xs:=G.rm.ths.l) (i:=k) (by omega) (by omega)));simp only[putB,Bool.and_eq_true,decide_eq_true_eq]at h1;rw[Ve (by omega)]at h1;omega
theorem L5 {G:Game} {x:PX} (h:posG G.p x=0):∀n∈x.1.2.2,0≤n∧n≤7:=fun n hn=>by
 obtain⟨a,_,r,_⟩:=E9 h;obtain⟨k,hk,rfl⟩:=List.getElem_of_mem hn;have h1:=a.pl k (by omega) (by omega);have e:nth x.1.2.2 (k:Int)=x.1.2.2[k]:=by simp[nth,List.getD,hk]
 rw[e]at h1;have h2:=El h1;have:=r.lens;omega
theorem Mz {G:Game} {x:PX} (h:posG G.p x=0):∀n∈x.1.2.1,-5≤n∧n≤7:=fun n hn=>by
 obtain⟨a,_,r,_⟩:=E9 h;obtain⟨k,hk,rfl⟩:=List.getElem_of_mem hn;have h1:=a.pr k (by omega) (by omega);have e:nth x.1.2.1 (k:Int)=x.1.2.1[k]:=by simp[nth,List.getD,hk]
 rw[e]at h1;have:=r.lens;have:=r.ply;simp only[Bool.or_eq_true,Bool.and_eq_true,decide_eq_true_eq]at h1;rcases h1 with h1|h1|h1
 ·have h2:=El h1;omega
 ·omega
 omega
theorem LY {G:Game} {x:PX} (h:posG G.p x=0):Nneg x:=
 ⟨fun n hn=>(Mw h n hn).1,fun n hn=>by have:=Mz h n hn;omega,fun n hn=>(L5 h n hn).1⟩
structure Bd (x:PX):Prop where
 th:x.1.1.length≤100∧∀n∈x.1.1,-1000≤n∧n≤1000
 pr:x.1.2.1.length≤100∧∀n∈x.1.2.1,-1000≤n∧n≤1000
 pl:x.1.2.2.length≤100∧∀n∈x.1.2.2,-1000≤n∧n≤1000
 rd:x.2.length≤100
theorem Up {G:Game} {x:PX} (h:posG G.p x=0):Bd x:=by
 obtain⟨a,b,r,c⟩:=E9 h;have:=r.lens;have:=r.ply;have:=a.lt;have:=a.lp;have:=a.ll;exact⟨⟨by omega,fun n hn=>by have:=Mw h n hn;omega⟩,⟨by omega,fun n hn=>by have:=Mz h n hn;omega⟩,⟨by omega,fun n hn=>by have:=L5 h n hn;omega⟩,by omega⟩
theorem LJ (a b:List Int):numT (a++b)=numT a++numT b:=by
 unfold numT;rw[List.map_append,Hh,DO]
theorem MV (n:Int):numT [n]=ba (Lib.itoa n)++(⟨#[32]⟩:ByteArray):=by
 show ba (Lib.itoa n++[32]++[])=ba (Lib.itoa n)++ba [32];rw[DO,List.append_nil]
theorem Rf (l:List Bool) (b:Bool):booT (l++[b])=booT l++(ba (booL b)++(⟨#[32]⟩:ByteArray)):=by
 show ba (spL ((l++[b]).map booL))=ba (spL (l.map booL))++(ba (booL b)++ba [32]);have e:spL ([b].map booL)=booL b++[32]:=by simp[spL]
 rw[List.map_append,Hh,e,DO (booL b),DO]
theorem VG (l:List UInt8):(ba l).size=l.length:=(D9 (ba l)).symm
theorem Q5 {n:Int} (h: -1000≤n∧n≤1000):(ba (Lib.itoa n)).size≤21:=by
 rw[VG];exact Lib.itoa_length_le n (by omega) (by omega)
theorem Qz:∀{l:List Int},(∀n∈l,-1000≤n∧n≤1000)→(numT l).size≤22*l.length
 |[],_=>by decide
 |n::l,h=>by
  have e:numT (n::l)=ba (Lib.itoa n)++(⟨#[32]⟩:ByteArray)++numT l:=by rw[←MV,←LJ];rfl
  have h1:=Q5 (h n (by simp));have h2:=Qz (l:=l) fun m hm=>h m (by simp[hm]);have h3:(⟨#[32]⟩:ByteArray).size=1:=rfl;rw[e,ByteArray.size_append,ByteArray.size_append,List.length_cons];omega
theorem Qo (b:Bool) (l:List Bool):booT (b::l)=ba (booL b)++(⟨#[32]⟩:ByteArray)++booT l:=by
 show ba (booL b++[32]++spL (l.map booL))=ba (booL b)++ba [32]++ba (spL (l.map booL));rw[DO,DO]
theorem IC:∀{l:List Bool},(booT l).size≤6*l.length
 |[]=>by decide
 |b::l=>by
  have h2:=IC (l:=l);have h3:(ba (booL b)).size≤5:=by cases b<;>decide
  have h4:(⟨#[32]⟩:ByteArray).size=1:=rfl;rw[Qo,ByteArray.size_append,ByteArray.size_append,List.length_cons];omega
theorem Ps {L:List (List Int)} {i:Int} (h0:0≤i) (h1:i<L.length):(L.take (i+1).toNat).flatten=(L.take i.toNat).flatten++nth L i:=by
 rw[AW h0 h1];simp
theorem WU {L:List (List Int)} (h:∀s∈L,s.length≤100∧∀n∈s,-1000≤n∧n≤1000):L.flatten.length≤100*L.length∧∀n∈L.flatten,-1000≤n∧n≤1000:=by
 induction L with
 |nil=>simp
 |cons a L ih=>
  obtain⟨h1,h2⟩:=ih fun s hs=>h s (by simp[hs]);obtain⟨h3,h4⟩:=h a (by simp);refine⟨by rw[List.flatten_cons,List.length_append,List.length_cons];omega,fun n hn=>?_⟩;rw[List.flatten_cons]at hn;rcases List.mem_append.1 hn with hn|hn
  ·exact h4 n hn
  exact h2 n hn
theorem Rk {L:List (List Int)} {k:Nat} {l:List Int} (h:∀s∈L,s.length≤100∧∀n∈s,-1000≤n∧n≤1000) (hL:L.length≤10) (hl:l.length≤100∧∀n∈l,-1000≤n∧n≤1000) {m:Nat}:(numT ((L.take k).flatten++l.take m)).size≤24200:=by
 obtain⟨h1,h2⟩:=WU (L:=L.take k) fun s hs=>h s (List.mem_of_mem_take hs)
 have h3:=Qz (l:=(L.take k).flatten++l.take m) fun n hn=>by
  rcases List.mem_append.1 hn with hn|hn
  ·exact h2 n hn
  exact hl.2 n (List.mem_of_mem_take hn)
 have h4:(L.take k).length≤10:=by rw[List.length_take];omega
 have h5:(l.take m).length≤100:=by rw[List.length_take];omega
 rw[List.length_append]at h3;omega
def addP (ps:List Pos) (z:Pos):List Pos:=if(idxG (ps.map Pos.x) z.x).isSome||decide (ps.length=3000)then ps else ps++[z]
theorem I2 {ps:List Pos} {z:Pos} {n:Nat} (h:idxG (ps.map Pos.x) z.x=some n):addP ps z=ps:=by unfold addP;rw[h];rfl
theorem P6 {ps:List Pos} {z:Pos} (h:ps.length=3000):addP ps z=ps:=by unfold addP;rw[decide_eq_true h,Bool.or_true];rfl
theorem Et {ps:List Pos} {z:Pos} (h:idxG (ps.map Pos.x) z.x=none) (hl:ps.length≠3000):addP ps z=ps++[z]:=by unfold addP;rw[h,decide_eq_false hl];rfl
theorem Y3 {ps:List Pos} {z:Pos} (h:Cc (ps.map Pos.x) z.x=false):(addP ps z).map Pos.x=addG (ps.map Pos.x) z.x:=by
 cases hi:idxG (ps.map Pos.x) z.x with
 |some n=>rw[I2 hi,(Jf hi).1]
 |none=>
  obtain⟨e1,_,e3⟩:=IP hi;rw[e3]at h
  have hl:ps.length≠3000:=by
   have:=of_decide_eq_false h
   simpa using this
  rw[Et hi hl,e1,List.map_append]
  rfl
theorem RP {ps:List Pos} {z:Pos}:∃t,addP ps z=ps++t:=by
 unfold addP;split
 ·exact⟨[],by simp⟩
 exact⟨[z],rfl⟩
theorem R4 {ps:List Pos} {z x:Pos} (h:x∈addP ps z):x∈ps∨x=z:=by
 unfold addP at h;split at h
 ·exact .inl h
 rcases List.mem_append.1 h with h|h
 ·exact .inl h
 exact .inr (List.mem_singleton.1 h)
theorem St.tailPack {n0:Nat} {w0 u:World} {A:SA} {Ls:List SA} (h:St n0 w0 (A::Ls) u):St n0 w0 [A,YtmoojmgihdgceaaGreatDoor.star Ls] u:=by
 have h1:St n0 w0 (Ls++[A]) u:=h.perm (List.perm_append_comm (l₁:=[A]) (l₂:=Ls));exact(St.pack h1).perm (.swap _ _ _)
theorem St.tailUnpack {n0:Nat} {w0 u:World} {A:SA} {Ls:List SA} (h:St n0 w0 [A,YtmoojmgihdgceaaGreatDoor.star Ls] u):St n0 w0 (A::Ls) u:=by
 have h1:St n0 w0 (Ls++[A]) u:=St.unpack (h.perm (.swap _ _ _));exact h1.perm (List.perm_append_comm (l₁:=Ls) (l₂:=[A]))
theorem St.oneUnpack {n0:Nat} {w0 u:World} {Ls:List SA} (h:St n0 w0 [YtmoojmgihdgceaaGreatDoor.star Ls] u):St n0 w0 Ls u:=by
 have h1:St n0 w0 (Ls++[]) u:=St.unpack h
 rwa [List.append_nil]at h1
theorem RetX.ls {β:Type} {w u:World} {Ls:List SA} {ch:List PanicEntry} {p:β→Prop} {q:Prop} {v:β→Value} {A:β→SA} {f:FuncId} {args:Array Value} (h:Calls prog f args u (RetX w (star Ls) ch p q v A)):
  Calls prog f args u (fun e u'=>(∃x,p x∧e = .returned (v x)∧St w.heap.size w (A x::Ls) u')∨(q∧e = .panicked ch∧St w.heap.size w Ls u')):=by
 refine h.mono ?_;rintro e u' (⟨x,h1,h2,h3⟩|⟨h1,h2,h3⟩)
 ·exact .inl ⟨x,h1,h2,h3.tailUnpack⟩
 exact .inr ⟨h1,h2,h3.oneUnpack⟩
theorem bld0 {n0:Nat} {w0 u:World} {b:Nat} {L:List SA} (h:St n0 w0 (blk b [.pointer none,.slice none 0 0] 267::L) u):St n0 w0 (bldr b ⟨false,.slice none 0 0,⟨#[]⟩⟩::L) u:=by
 have h1:=(h.osl0 (e:=5) (size:=1)).perm (.swap _ _ _);exact St.pack (L1:=E6 b ⟨false,.slice none 0 0,⟨#[]⟩⟩) h1
theorem Vz (n:Int) (h: -1000≤n∧n≤1000) (w:World) (ht:Lib.TabIs prog w "internal/strconv.uint64pow10" .u64 Lib.pow10Tab):Calls prog 200 #[.int .i64 n] w (RetB w (.string (ba (Lib.itoa n)))):=by
 refine(Tryz.strconv_Itoa n (by omega) (by omega) w ht).mono ?_;rintro e w' ⟨rfl,k,os,rfl⟩;exact⟨rfl,Lib.below_grow _ _ (Nat.le_refl _) _ _⟩
theorem D2 {w u:World} {L:List SA} (h:Lib.TabIs prog w "internal/strconv.uint64pow10" .u64 Lib.pow10Tab) (hu:St w.heap.size w L u):Lib.TabIs prog u "internal/strconv.uint64pow10" .u64 Lib.pow10Tab:=Lib.tabBelow_of_tabIs h u hu.below
theorem tkM:tk prog 129=some (false,1):=by kernel_rfl
theorem WS.known {P:Program} {ro:Option Nat} {n0:Nat} {w0:World} {ds:List Deferred} {ops:Array Oper} {Q:Exit→Act→World→Prop} {L:List SA} {rest:List Oper} {l:List Value} {p:Prop} (h:∀u,St n0 w0 L u→p) (k:p→WS P ro n0 w0 ds ops Q L rest l):WS P ro n0 w0 ds ops Q L rest l:=fun u hu=>k (h u hu) u hu
theorem Q8 (x:Sl (Sl Int)) (w:World) (hx:SlT (cSl cInt) w x) (ht:Lib.TabIs prog w "internal/strconv.uint64pow10" .u64 Lib.pow10Tab) (hn:x.l.length≤10) (hm:∀s∈x.l.map Sl.l,s.length≤100∧∀n∈s,-1000≤n∧n≤1000):
  Calls prog 163 #[x.v] w (RetB w (.string (numT (x.l.map Sl.l).flatten))):=by
 have lx:=hx.le;have hXL:(x.l.map Sl.l).length=x.l.length:=List.length_map _;refine En func163 ?_;refine Nz 1 ?_;refine Nx 0 ?_;refine Wq 0 Ja2 fun b3 hb3=>?_;refine Nv 1 ?_;refine Wk 1 Nc ?_;refine Nu ?_;refine CS.weak (fun u hu=>bld0 hu) ?_;refine CS.loopM (σ:=Int×Bld) (rsL [5,5,7,7,11,25]) (fun s=>[(10,.int .i64 s.1)]) (fun s=>[bldr b3 s.2]) (fun s=>0≤s.1∧s.1≤x.l.length∧s.2.bs=numT ((x.l.map Sl.l).take s.1.toNat).flatten) (fun s=>(x.l.length-s.1).toNat) (0,⟨false,.slice none 0 0,⟨#[]⟩⟩) (fun _ _=>rfl) rfl rfl ⟨by simp,by simp,rfl⟩ ?_;intro a t hs;obtain⟨ha1,ha2,ha3⟩:=hs;refine Nz 1 ?_;refine Wd (Qc (Cs (Cn ?_ ?_)))<;>intro hc1
 ·have ax:SlI w (nth x.l a.1).v (nth x.l a.1).l:=(hx.at ha1 (by omega):SlT cInt w _).ints;have hNm:(nth x.l a.1).l∈x.l.map Sl.l:=List.mem_map_of_mem (Ad ha1 (by omega));obtain⟨hml,hmn⟩:=hm _ hNm;refine Ck (Qc (Cs (Ce (Nz 0 ?_))));refine Wk 0 Xc ?_;refine Wk 1 Ub ?_;refine Nx 1 ?_;refine Wk 1 Na ?_;refine Nu ?_;refine CS.loopM (σ:=Int×Bld) (rsL [7,7,17,24]) (fun s=>[(16,.int .i64 s.1)]) (fun s=>[bldr b3 s.2]) (fun s=>0≤s.1∧s.1≤(nth x.l a.1).l.length∧s.2.bs=numT (((x.l.map Sl.l).take a.1.toNat).flatten++(nth x.l a.1).l.take s.1.toNat)) (fun s=>((nth x.l a.1).l.length-s.1).toNat) (0,a.2) (fun _ _=>rfl) rfl rfl ⟨by simp,by simp,by simp only;rw[ha3];simp⟩ ?_;intro q t hs;obtain⟨hq1,hq2,hq3⟩:=hs;refine Nz 1 ?_;refine Wd (Qc (Cs (Cn ?_ ?_)))<;>intro hc2
  ·have hN:=hmn _ (Ad hq1 (show q.1<((nth x.l a.1).l.length:Int) by omega));have hz:=Rk (k:=a.1.toNat) (m:=q.1.toNat) hm (by omega) ⟨hml,hmn⟩;rw[←hq3]at hz;have hz2:=Q5 hN;have hz3:(⟨#[32]⟩:ByteArray).size=1:=rfl;refine Ck (Qc (Cs (Ce (Nz 0 ?_))));refine Wk 0 Xa ?_;refine Wk 1 Ia ?_;refine Nw 1 ?_;refine Wk 0 (Cb rfl rfl Zq (fun u hu=>Vz _ hN u (D2 ht hu))) ?_;refine Wk 0 (BL (a:=ba (Lib.itoa (nth (nth x.l a.1).l q.1))) rfl rfl (by omega)) ?_;refine WS.callP rfl rfl XC (fun u hu=>RetX.ls (T7 (star _) b3 q.2 (St.tailPack hu) (ba (Lib.itoa (nth (nth x.l a.1).l q.1))++(⟨#[32]⟩:ByteArray)) (by rw[ByteArray.size_append];omega))) (fun _=>rfl) (fun hq u hu=>hq.elim) ?_;rintro y hy;refine Wd (Qb (Qc (Ny 0 ?_)));refine Wk 1 Za ?_;exact Wd (QS.head ((q.1+1,y)) rfl rfl ⟨⟨by simp;omega,by simp;omega,by show y.bs=_;rw[hy,hq3,AW hq1 (by omega),←List.append_assoc,LJ _ [_],MV]⟩,by simp;omega⟩)
  have hqe:q.1.toNat=(nth x.l a.1).l.length:=by omega
  refine Cv (Qe (Qe (Qx (Qb (Qc (Ny 0 ?_))))));refine Wk 1 Za ?_;exact Wd (QS.head ((a.1+1,q.2)) rfl rfl ⟨⟨by simp;omega,by simp;omega,by show q.2.bs=_;rw[hq3,hqe,List.take_length,Ps ha1 (by omega),LO]⟩,by simp;omega⟩)
 have hae:a.1.toNat=x.l.length:=by omega
 refine Cv (Qe (Qe (Qx (Qc (Nz 0 ?_)))));refine WS.callP rfl rfl Xw (fun u hu=>Ql b3 a.2 hu) (fun _=>rfl) (fun hq u hu=>hq.elim) ?_;rintro⟨⟩ _;refine Wz 1 ?_;exact Wd (Qc (Cr (out1 rfl rfl (Ab (by rw[ha3,hae,←hXL,List.take_length])))))
theorem Tp (b:Bool) (w:World):Calls prog 235 #[.bool b] w (RetB w (.string (ba (booL b)))):=by
 refine En func235 ?_;refine Nz 1 ?_;refine Nv 1 ?_;refine Wp ?_ ?_<;>intro hc1
 ·refine Nz 1 ?_;exact Wd (Qc (Cr (Qr (out1 rfl rfl (Ab (by rw[hc1];rfl))))))
 refine Ck (Qc (Nz 1 ?_));exact Wd (Qc (Cr (out1 rfl rfl (Ab (by(have h9:b=false:=by simpa using hc1);rw[h9];rfl)))))
theorem U4 (b:Bool) (w:World):Calls prog 202 #[.bool b] w (RetB w (.string (ba (booL b)))):=by
 refine En func202 ?_;refine Nz 1 ?_;refine Nx 1 ?_;refine Wk 1 (Cb rfl rfl Yh (fun u hu=>Tp _ u)) ?_;exact Wd (Qc (Cr (out1 rfl rfl retB)))
theorem WC (p:Pos) (w:World) (hp:PosOk w p) (hn:p.rd.l.length≤100):
  Calls prog 164 #[.agg #[p.st.ths.v,p.st.prs.v,p.st.pls.v,p.rd.v]] w (RetB w (.string (booT p.rd.l))):=by
 have hrd:=hp.rd;have hb1:=IC (l:=p.rd.l);refine En func164 ?_;refine Nz 0 ?_;refine Wr 1 fun b1 hb1=>?_;refine Nx 1 ?_;refine Nv 1 ?_;refine Wk 0 (Ba 0) ?_;refine Wk 1 Nc ?_;refine Nu ?_;refine CS.loopM (σ:=Int) (rsL [5,5,10,18]) (fun s=>[(9,.int .i64 s),(3,.string (booT (p.rd.l.take s.toNat)))]) (fun _=>_) (fun s=>0≤s∧s≤p.rd.l.length) (fun s=>(p.rd.l.length-s).toNat) 0 (fun _ _=>rfl) rfl rfl ⟨by omega,by omega⟩ ?_;intro s t hs;obtain⟨hs1,hs2⟩:=hs;refine Nz 1 ?_;refine Wd (Qc (Cs (Cn ?_ ?_)))<;>intro hc1
 ·have hz:=IC (l:=p.rd.l.take s.toNat);rw[List.length_take]at hz;have hz2:(ba (booL (nth p.rd.l s))).size≤5:=by cases nth p.rd.l s<;>decide
  have hz3:(⟨#[32]⟩:ByteArray).size=1:=rfl;refine Ck (Qc (Cs (Ce (Nz 0 ?_))));refine Wk 0 Xc ?_;refine Wk 1 Ub ?_;refine Nw 2 ?_;refine Wk 0 (Cb rfl rfl Xh (fun u hu=>U4 _ u)) ?_;refine Wk 0 (BL (a:=ba (booL (nth p.rd.l s))) rfl rfl (by omega)) ?_;refine Wk 1 (BL rfl rfl (by rw[ByteArray.size_append];omega)) ?_;refine Wd (Qb (Qc (Ny 0 ?_)));refine Wk 1 Za ?_;exact Wd (QS.head (s+1) (by rw[AW hs1 (by omega),Rf];rfl) rfl ⟨⟨by omega,by omega⟩,by omega⟩)
 refine Cv (Qe (Qe (Qx (Qc (Nz 2 ?_)))));exact Wd (Qc (Cr (out1 rfl rfl (Ab (by rw[List.take_of_length_le (by omega)])))))
theorem Z9 (p:Pos) (w:World) (hp:PosOk w p) (ht:Lib.TabIs prog w "internal/strconv.uint64pow10" .u64 Lib.pow10Tab) (hb:Bd p.x):
  Calls prog 131 #[.agg #[p.st.ths.v,p.st.prs.v,p.st.pls.v,p.rd.v]] w (RetB w (.string (keyI p.x))):=by
 obtain⟨hpa,hpb,hpc⟩:=hp.st.ones;obtain⟨⟨b1,b2⟩,⟨b3_,b4⟩,⟨b5,b6⟩,b7⟩:=hb;have hz1:=IC (l:=p.rd.l)
 have hbl:∀s∈[p.st.ths,p.st.prs,p.st.pls].map Sl.l,s.length≤100∧∀n∈s,-1000≤n∧n≤1000:=by
  intro s hs;simp only[List.map_cons,List.map_nil,List.mem_cons,List.not_mem_nil,or_false]at hs;rcases hs with rfl|rfl|rfl
  ·exact⟨b1,b2⟩
  ·exact⟨b3_,b4⟩
  exact⟨b5,b6⟩
 have hz2:=Rk (k:=3) (m:=0) (l:=[]) hbl (by simp) (by simp);have hz3:p.rd.l.length≤100:=b7;refine En func131 ?_;refine Nz 0 ?_;refine Wr 1 fun b1 hb1=>?_;refine Wd (Qc (Cs ?_));refine CS.drawnAll (k:=15) mixed rfl rfl ?_;refine Ar [0,1] ?_;refine Ak 2 [3,4] rfl (Ba 0) ?_;refine Ak 5 [6,7] rfl (Ba 0) ?_;refine Ak 8 [] rfl (Ba 0) ?_;refine Ak 11 [] rfl (Bb 0) ?_;refine Ao 9 rfl ?_;refine WS.buildSlice1 sl33 zv37 (vs:=[p.st.ths.v,p.st.prs.v,p.st.pls.v]) rfl rfl (by decide) (fun v h=>by simp at h;rcases h with rfl|rfl|rfl<;>assumption) (fun _=>rfl) ?_;intro v12;refine Wd (Qa ?_);refine Ao 10 rfl ?_;refine Wk 0 (Cb rfl rfl XW (fun u hu=>Q8 ⟨v12,[p.st.ths,p.st.prs,p.st.pls]⟩ u (CF (C:=cSl cInt) hu (j:=0) rfl (fun s hs↦by simp at hs;rcases hs with rfl|rfl|rfl<;>first|exact(hp.toSt hu).st.ths|exact(hp.toSt hu).st.prs|exact(hp.toSt hu).st.pls)) (D2 ht hu) (by simp) hbl)) ?_;refine Wd (Qa ?_);refine Ak 12 [] rfl (Cb rfl rfl Xj (fun u hu=>WC p u (hp.toSt hu) hz3)) ?_;refine Ak 13 [14] rfl (BL rfl rfl (by simp at hz2;simp;omega)) ?_;refine Ae ?_;exact Qc (Cr (out1 rfl rfl (Ab (by unfold keyI;simp[Pos.x,Stt.x]))))
theorem SJ {w u:World} (R:SA) (xb mb:Nat) (psv esv:Value) (hpv:psv.oneCell'=true) (ps:List Pos) (z:Pos) (hinj:∀p∈ps,keyI p.x=keyI z.x→p.x=z.x) (hbd:Bd z.x) (hlim:ps.length≤3000) (ht:Lib.TabIs prog w "internal/strconv.uint64pow10" .u64 Lib.pow10Tab) (hu:St w.heap.size w [blk xb [psv,esv,.map (some mb)] 182,oT cPos 98 psv ps,mapX mb (Cd keyI (ps.map Pos.x)),roS fun u=>PosOk u z,R] u):
  Calls prog 95 #[.pointer (some ⟨xb,0,none⟩),.agg #[z.st.ths.v,z.st.prs.v,z.st.pls.v,z.rd.v]] u (fun e u'=>∃v:Value,v.oneCell'=true∧e = .returned (.tuple #[.int .i64 (if Cc (ps.map Pos.x) z.x=true then 0 else numG (ps.map Pos.x) z.x),.bool (!Cc (ps.map Pos.x) z.x)])∧St w.heap.size w [blk xb [v,esv,.map (some mb)] 182,oT cPos 98 v (addP ps z),mapX mb (Cd keyI ((addP ps z).map Pos.x)),roS fun u=>PosOk u z,R] u'):=by
 have hmo:Cd keyI (ps.map Pos.x) (keyI z.x)=(idxG (ps.map Pos.x) z.x).map fun n:Nat=>(n:Int):=Mk (fun x hx=>by obtain⟨p,hp,rfl⟩:=List.mem_map.1 hx;exact hinj p hp);have hpl:(ps.map Pos.x).length=ps.length:=List.length_map _;refine Ei hu func95 ?_;refine Nz 0 ?_;refine Wr 2 fun b3 hb3=>?_;refine Nx 0 ?_;refine Wk 0 (Bb 0) ?_;refine Wk 1 (Cb rfl rfl XM (fun u hu=>Z9 z u (hu.ro (j:=4) rfl) (D2 ht hu) hbd)) ?_;refine Nx 3 ?_;refine Wk 1 (Aj (j:=1) rfl rfl rfl tkM) ?_;refine Wk 5 (GB underlying129 underlying9 (by kernel_rfl) rfl (j:=3) rfl rfl) ?_;refine Nv 1 ?_;refine Wp ?_ ?_<;>intro hc1
 ·obtain⟨n9,hn9⟩:∃n,idxG (ps.map Pos.x) z.x=some n:=by
   cases h9:idxG (ps.map Pos.x) z.x with
   |some n=>exact⟨n,rfl⟩
   |none=>rw[hmo,h9]at hc1;cases hc1
  obtain⟨o1,o2,o3⟩:=Jf hn9;have hmo9:Cd keyI (ps.map Pos.x) (keyI z.x)=some (n9:Int):=by rw[hmo,hn9];rfl
  refine Nz 3 ?_;exact Wd (Qc (Cr (Qr (out2 rfl rfl rfl (fun u hu=>⟨psv,hpv,by rw[o3,if_neg (by decide),o2,hmo9];rfl,by rw[I2 hn9];exact hu.sel [1,1,1,1,1] rfl⟩)))))
 have hn9:idxG (ps.map Pos.x) z.x=none:=by
  cases h9:idxG (ps.map Pos.x) z.x with
  |none=>rfl
  |some n=>exfalso;rw[hmo,h9]at hc1;cases hc1
 have hmo9:Cd keyI (ps.map Pos.x) (keyI z.x)=none:=by rw[hmo,hn9];rfl
 obtain⟨o1,o2,o3⟩:=IP hn9;refine Ck (Qc (Cs (Nz 4 ?_)));refine Wk 0 (by exact Aj (j:=1) rfl rfl rfl tk66) ?_;refine Wk 1 (BG (C:=cPos) (j:=2) sl66 rfl rfl) ?_;refine Wp ?_ ?_<;>intro hc2
 ·have hfl:ps.length=3000:=by omega
  have hfu:Cc (ps.map Pos.x) z.x=true:=by rw[o3,hpl];exact decide_eq_true hfl
  refine Nz 2 ?_;exact Wd (Qc (Cr (Qr (out2 rfl rfl rfl (fun u hu=>⟨psv,hpv,by rw[hfu,if_pos rfl];rfl,by rw[P6 hfl];exact hu.sel [1,1,1,1,1] rfl⟩)))))
 have hfl:ps.length≠3000:=by omega
 have hfu:Cc (ps.map Pos.x) z.x=false:=by rw[o3,hpl];exact decide_eq_false hfl
 refine Ck (Qc (Nz 4 ?_));refine Wk 0 (by exact Aj (j:=1) rfl rfl rfl tk66) ?_;refine Wk 1 (BG (C:=cPos) (j:=2) sl66 rfl rfl) ?_;refine Nx 3 ?_;refine Wk 2 (Aj (j:=1) rfl rfl rfl tkM) ?_;refine WS.updX underlying129 underlying9 rfl (j:=3) rfl rfl rfl hmo9 rfl ?_;refine Wd (Qc (Cs ?_));refine CS.drawnTill 8 (k:=13) mixed rfl rfl ?_;refine Tr 13 [1,2,3,4] ?_;refine Tk 13 5 [] rfl (by exact Aj (j:=1) rfl rfl rfl tk66) ?_;refine Tk 13 6 [] rfl (by exact AK (j:=0) rfl rfl tk98) ?_;refine AT.two (i:=0) (j:=7) (by kernel_rfl) rfl rfl (by exact fun _ _ h=>h) rfl rfl ?_ ?_
 ·refine Wz 1 ?_;refine Wd (Qt ?_);refine To 7 rfl ?_;refine WS.buildT1 cPos (a:=z) sl66 zv98 rfl (by decide) (fun _=>rfl) ?_;intro v48;refine Wd (Qt ?_);refine To 8 rfl ?_;refine WS.known (fun u hu=>(show PosOk u z from hu.ro (j:=5) rfl).one4) fun hz4=>?_;refine WS.appendT2 (C:=cPos) (a:=z) (j:=3) (jz:=0) sl66 zv98 rfl (by decide) rfl rfl rfl rfl hz4 (by omega) (by omega) (fun _=>rfl) (fun _=>rfl) ?_;intro v49 hv49;refine Wd (Qt ?_);refine To 9 rfl ?_;refine Wz 1 ?_;refine Wd (Qt ?_);refine To 10 rfl ?_;refine Wz 1 ?_;refine Wd (Qt ?_);refine To 11 rfl ?_;refine Wz 1 ?_;refine Wd (Qt ?_);refine To 12 rfl ?_;refine WS.store (j:=2) rfl rfl (by first|decide|omega|(simp;done)|(simp;omega)|exact Nat.le_of_ble_eq_true rfl) rfl (by first|rfl|assumption) tk66 rfl rfl ?_;refine Wd (Qt ?_);refine Te ?_;refine Qc (Nz 3 ?_);exact Wd (Qc (Cr (out2 rfl rfl rfl (fun u hu=>⟨v49,hv49,by rw[hfu,if_neg (by decide),o2,hpl];rfl,by rw[Et hn9 hfl,List.map_append];have h9:=hu.sel [2,2,2,2,2] rfl;have e9:=Da hmo9;rw[hpl]at e9;show St _ _ [_,_,mapX mb (Cd keyI (ps.map Pos.x++[z.x])),_,_] u;rw[e9];exact h9⟩))))
 refine WS.buildT1 cPos (a:=z) sl66 zv98 rfl (by decide) (fun _=>rfl) ?_;intro v48;refine Wd (Qt ?_);refine AT.two (i:=0) (j:=8) (by kernel_rfl) rfl rfl (by exact fun _ _ h=>h.sub (by repeat first|exact List.Sublist.refl _|apply List.Sublist.cons_cons|apply List.Sublist.cons)) rfl rfl ?_ ?_
 ·refine Wz 1 ?_;refine Wd (Qt ?_);refine To 8 rfl ?_;refine WS.known (fun u hu=>(show PosOk u z from hu.ro (j:=5) rfl).one4) fun hz4=>?_;refine WS.appendT2 (C:=cPos) (a:=z) (j:=3) (jz:=0) sl66 zv98 rfl (by decide) rfl rfl rfl rfl hz4 (by omega) (by omega) (fun _=>rfl) (fun _=>rfl) ?_;intro v49 hv49;refine Wd (Qt ?_);refine To 9 rfl ?_;refine Wz 1 ?_;refine Wd (Qt ?_);refine To 10 rfl ?_;refine Wz 1 ?_;refine Wd (Qt ?_);refine To 11 rfl ?_;refine Wz 1 ?_;refine Wd (Qt ?_);refine To 12 rfl ?_;refine WS.store (j:=2) rfl rfl (by first|decide|omega|(simp;done)|(simp;omega)|exact Nat.le_of_ble_eq_true rfl) rfl (by first|rfl|assumption) tk66 rfl rfl ?_;refine Wd (Qt ?_);refine Te ?_;refine Qc (Nz 3 ?_);exact Wd (Qc (Cr (out2 rfl rfl rfl (fun u hu=>⟨v49,hv49,by rw[hfu,if_neg (by decide),o2,hpl];rfl,by rw[Et hn9 hfl,List.map_append];have h9:=hu.sel [2,2,2,2,2] rfl;have e9:=Da hmo9;rw[hpl]at e9;show St _ _ [_,_,mapX mb (Cd keyI (ps.map Pos.x++[z.x])),_,_] u;rw[e9];exact h9⟩))))
 refine WS.known (fun u hu=>(show PosOk u z from hu.ro (j:=5) rfl).one4) fun hz4=>?_;refine WS.appendT2 (C:=cPos) (a:=z) (j:=3) (jz:=0) sl66 zv98 rfl (by decide) rfl rfl rfl rfl hz4 (by omega) (by omega) (fun _=>rfl) (fun _=>rfl) ?_;intro v49 hv49;refine Wd (Qt ?_);refine To 0 rfl ?_;refine Wz 1 ?_;refine Wd (Qt ?_);refine To 9 rfl ?_;refine Wz 1 ?_;refine Wd (Qt ?_);refine To 10 rfl ?_;refine Wz 1 ?_;refine Wd (Qt ?_);refine To 11 rfl ?_;refine Wz 1 ?_;refine Wd (Qt ?_);refine To 12 rfl ?_;refine WS.store (j:=2) rfl rfl (by first|decide|omega|(simp;done)|(simp;omega)|exact Nat.le_of_ble_eq_true rfl) rfl (by first|rfl|assumption) tk66 rfl rfl ?_;refine Wd (Qt ?_);refine Te ?_;refine Qc (Nz 3 ?_);exact Wd (Qc (Cr (out2 rfl rfl rfl (fun u hu=>⟨v49,hv49,by rw[hfu,if_neg (by decide),o2,hpl];rfl,by rw[Et hn9 hfl,List.map_append];have h9:=hu.sel [2,2,2,2,2] rfl;have e9:=Da hmo9;rw[hpl]at e9;show St _ _ [_,_,mapX mb (Cd keyI (ps.map Pos.x++[z.x])),_,_] u;rw[e9];exact h9⟩))))
end Go.Proofs.YtmoojmgihdgceaaGreatDoor
