/- Merged texts of this proof (walks and plain laws), printed by a program of the prover. -/
import Derived.Test.YtmoojmgihdgceaaGreatDoorXj
import Derived.Test.YtmoojmgihdgceaaGreatDoorZb2
import Derived.Test.YtmoojmgihdgceaaGreatDoorZc
import Derived.Test.YtmoojmgihdgceaaGreatDoorXk
set_option maxHeartbeats 8000000
namespace Go.Proofs.YtmoojmgihdgceaaGreatDoor
open Go.RowKit Go.Proofs Tryz
set_option maxRecDepth 100000
set_option linter.unusedVariables false
set_option linter.unusedSimpArgs false
def edV (e:EdgeD):Value:=.agg #[.int .i64 e.m.p,.int .i64 e.m.k,.int .i64 e.m.n,.int .i64 e.to]
def DP (d:List Int) (i:Int) (e:EdgeD):Bool:=decide (nth d e.to=nth d i-1)&&decide (0<nth d i)
theorem Id {d:List Int} {i s:Int} {es:List EdgeD} (h0:0≤s) (h1:s<es.length) (h:DP d i (nth es s)=true):
  es.filter (DP d i)=(es.take s.toNat).filter (DP d i)++nth es s::(es.drop (s.toNat+1)).filter (DP d i):=by
 obtain⟨n,rfl⟩:=Int.eq_ofNat_of_zero_le h0;have hn:n<es.length:=by omega
 rw[Qi hn]at h⊢
 conv=>lhs;rw[←List.take_append_drop n es,List.drop_eq_getElem_cons hn]
 rw[List.filter_append,List.filter_cons,if_pos h]
 rfl
theorem S2 {d:List Int} {i s:Int} {es:List EdgeD} (h0:0≤s) (h1:s<es.length) (h:DP d i (nth es s)=true):(es.take (s+1).toNat).filter (DP d i)=(es.take s.toNat).filter (DP d i)++[nth es s]:=by
 rw[AW h0 h1,List.filter_append,List.filter_cons,if_pos h];rfl
theorem Tm {d:List Int} {i s:Int} {es:List EdgeD} (h0:0≤s) (h1:s<es.length) (h:DP d i (nth es s)=false):(es.take (s+1).toNat).filter (DP d i)=(es.take s.toNat).filter (DP d i):=by
 rw[AW h0 h1,List.filter_append,List.filter_cons,if_neg (by rw[h];decide)];exact List.append_nil _
def ShortW (es:List (List EdgeD)) (d:List Int):Int→List Move→Int→Prop
 |i,[],j=>i=j
 |i,m::ms,j=>∃e∈nth es i,e.m=m∧nth d e.to=nth d i-1∧ShortW es d e.to ms j
theorem ShortW.snoc {es:List (List EdgeD)} {d:List Int} {e:EdgeD}:∀{ms:List Move} {i j:Int},ShortW es d i ms j→e∈nth es j→nth d e.to=nth d j-1→ShortW es d i (ms++[e.m]) e.to
 |[],i,j,h,he,hd=>by cases h;exact⟨e,he,rfl,hd,rfl⟩
 |m::ms,i,j,h,he,hd=>by
  obtain⟨e',a,b,c,h⟩:=h;exact⟨e',a,b,c,h.snoc he hd⟩
theorem SL (mb:Nat) (i:Int) (w:World):
  Calls prog 62 #[.pointer (some ⟨mb,0,none⟩),.int .i64 i] w (fun e w'=>∃q:Nat×Nat,True∧RetF w (.func (.func 99) #[] #[.pointer (some ⟨q.1,0,none⟩),.pointer (some ⟨q.2,0,none⟩)]) (star [blk q.1 [.pointer (some ⟨mb,0,none⟩)] 82,blk q.2 [.int .i64 i] 3]) e w'):=by
 refine En func62 ?_;refine Nz 0 ?_;refine Wr 0 fun b2 hb2=>?_;refine Wr 1 fun b3 hb3=>?_;refine Nx 0 ?_;refine Wk 1 (Al rfl) ?_;exact Wd (Qc (Cr (out1 rfl rfl (fun u hu=>⟨(b2,b3),trivial,G4 (hu.sel [1,0] rfl) (List.Perm.refl _)⟩))))
theorem VZ (X:GraphD) (d:Sl Int) (w:World) (hX:GraphOk w X) (mb:Nat) (hM:MzOk X w mb d) (i:Int) (hi:0≤i∧i<X.es.l.length) (hd:d.l.length=X.es.l.length) (hto:∀e∈(nth X.es.l i).l,0≤e.to∧e.to<X.es.l.length) (hbd:∀j:Int,-1≤nth d.l j∧nth d.l j≤1000000) (ba bi:Nat):
  Iter prog w 99 [.pointer (some ⟨ba,0,none⟩),.pointer (some ⟨bi,0,none⟩)] [blk ba [.pointer (some ⟨mb,0,none⟩)] 82,blk bi [.int .i64 i] 3] (fun v x=>fact (v=edV x)) ((nth X.es.l i).l.filter (DP d.l i)):=by
 intro lp C Cx hy u hu;have hM1:=hM.1;have kd:=hM.2.ints;have hXe:=hX.es;have hke:SlT cEdge w (nth X.es.l i):=hXe.at hi.1 hi.2;have kle:=hke.le;have hbi:=hbd i;refine Ei hu func99 ?_;refine Cs (Dr mixed 0 ?_);refine Dk 3 (Ba 1) ?_;refine Dk 0 Ga ?_;refine Dk 0 (Ba 2) ?_;refine Dk 0 Xc ?_;refine Dk 0 Ub ?_;refine Dk 1 Nc ?_;refine Dd (Qc (Ce ?_));refine CS.loopM (σ:=Int) (rsL [5,5,16,60]) (fun s=>[(15,.int .i64 s)]) (fun s=>[C (((nth X.es.l i).l.take s.toNat).filter (DP d.l i)),blk ba [.pointer (some ⟨mb,0,none⟩)] 82,blk bi [.int .i64 i] 3]) (fun s=>0≤s∧s≤(nth X.es.l i).l.length) (fun s=>((nth X.es.l i).l.length-s).toNat) 0 (fun _ _=>rfl) rfl rfl ⟨by omega,by omega⟩ ?_;intro s t hs;obtain⟨hs1,hs2⟩:=hs;refine Nz 1 ?_;refine Wd (Qc (Cs (Cn ?_ ?_)))<;>intro hc1
 ·obtain⟨ht0,ht1⟩:=hto _ (Ad hs1 (show s<((nth X.es.l i).l.length:Int) by omega));have hbt:=hbd (nth (nth X.es.l i).l s).to;refine Ck (Qc (Cs (Ce (Nz 0 ?_))));refine Wk 0 Xc ?_;refine Wk 0 Ua ?_;refine Wq 0 FO fun b5 hb5=>?_;refine Wv 0 0 ?_;refine Wd (Qc (Cs ?_));rcases Bool.eq_false_or_eq_true (DP d.l i (nth (nth X.es.l i).l s))with hq|hq
  ·refine CS.drawnTill 38 (k:=41) mixed rfl rfl ?_;refine Tk 41 0 [1,2] rfl (Ba 2) ?_;refine Tk 41 3 [] rfl Ga ?_;refine Tk 41 4 [] rfl (Bb 0) ?_;refine Tk 41 5 [6] rfl (Cb rfl rfl V5 (fun u hu=>Iu (nth (nth X.es.l i).l s) u)) ?_;refine Tt 41 7 [] rfl rfl rfl (fun hg=>Ba 2) ?_;refine Tt 41 8 [] rfl rfl rfl (fun hg=>Fc) ?_;refine Tt 41 9 [] rfl rfl rfl (fun hg=>Ff) ?_;refine Tt 41 10 [] rfl rfl rfl (fun hg=>Ga) ?_;refine Tt 41 11 [] rfl rfl rfl (fun hg=>Ff) ?_;refine Tt 41 12 [] rfl rfl rfl (fun hg=>Ba 0) ?_;refine Tt 41 13 [] rfl rfl rfl (fun hg=>Xa (eg_ hg rfl)) ?_;refine Tt 41 14 [] rfl rfl rfl (fun hg=>Ia) ?_;refine Tt 41 15 [] rfl rfl rfl (fun hg=>Ba 2) ?_;refine Tt 41 16 [] rfl rfl rfl (fun hg=>Fc) ?_;refine Tt 41 17 [] rfl rfl rfl (fun hg=>Ff) ?_;refine Tt 41 18 [] rfl rfl rfl (fun hg=>Ga) ?_;refine Tt 41 19 [] rfl rfl rfl (fun hg=>Ba 3) ?_;refine Tt 41 20 [] rfl rfl rfl (fun hg=>Xa (eg_ hg rfl)) ?_;refine Tt 41 21 [] rfl rfl rfl (fun hg=>Ia) ?_;refine Tt 41 22 [] rfl rfl rfl (fun hg=>Zb) ?_;refine Tt 41 23 [] rfl rfl rfl (fun hg=>Fq) ?_;refine Tk 41 24 [25] rfl Pa ?_;refine Tt 41 26 [] rfl rfl rfl (fun hg=>Ba 2) ?_;refine Tt 41 27 [] rfl rfl rfl (fun hg=>Fc) ?_;refine Tt 41 28 [] rfl rfl rfl (fun hg=>Ff) ?_;refine Tt 41 29 [] rfl rfl rfl (fun hg=>Ga) ?_;refine Tt 41 30 [] rfl rfl rfl (fun hg=>Ba 3) ?_;refine Tt 41 31 [] rfl rfl rfl (fun hg=>Xa (eg_ hg rfl)) ?_;refine Tt 41 32 [] rfl rfl rfl (fun hg=>Ia) ?_;refine Tt 41 33 [] rfl rfl rfl (fun hg=>Fg) ?_;refine Tk 41 34 [] rfl Pa ?_;refine Tk 41 35 [] rfl (Bp (v:=.bool true) (congrArg (fun b=>some (Value.bool b)) hq)) ?_;refine Tt 41 36 [] rfl rfl rfl (fun hg=>Fm) ?_;refine Tt 41 37 [] rfl rfl rfl (fun hg=>Bb 0) ?_;refine To 38 rfl ?_;refine WS.yield (L':=fun b'=>[cond b' (C (((nth X.es.l i).l.take s.toNat).filter (DP d.l i)++[(nth (nth X.es.l i).l s)])) (Cx (((nth X.es.l i).l.take s.toNat).filter (DP d.l i)++[(nth (nth X.es.l i).l s)])),blk b5 [.int .i64 (nth (nth X.es.l i).l s).m.p,.int .i64 (nth (nth X.es.l i).l s).m.k,.int .i64 (nth (nth X.es.l i).l s).m.n,.int .i64 (nth (nth X.es.l i).l s).to] 114,blk ba [.pointer (some ⟨mb,0,none⟩)] 82,blk bi [.int .i64 i] 3]) rfl rfl rfl (fun u hu=>(EO (B:=fact (edV (nth (nth X.es.l i).l s)=edV (nth (nth X.es.l i).l s))) (fun F' u' hu'=>hy _ _ _ (Id hs1 (by omega) hq) F' _ u' hu') ((hu.perm (.swap _ _ _)).factI rfl)).mono (fun e u' h=>let⟨b',he,hs⟩:=h;⟨b',he,hs.tail⟩)) (fun _=>rfl) ?_;intro b';refine Wd (Qt ?_);refine To 39 rfl ?_;refine Wj 0 ?_;refine Wd (Qt ?_);refine To 40 rfl ?_;refine Wk 0 Pa ?_;refine Wd (Qt ?_);refine Te ?_;refine Qc (Cn ?_ ?_)<;>intro hc2
   ·obtain rfl:b'=false:=by simpa using hc2
    exact Cr (Qs (Qr (Qr (Qs (out0 (Or.inl rfl) rfl (fun u hu=>⟨⟨_,rfl⟩,.inr ⟨_,_,_,Id hs1 (by omega) hq,hu.sel [0,1,1] rfl⟩⟩))))))
   obtain rfl:b'=true:=by simpa using hc2
   refine Ck (Qb (Qc (Ny 0 ?_)));refine Wk 1 Za ?_;refine Wd ?_;refine QS.sel [0,1,1] rfl ?_;exact QS.head (s+1) rfl (by rw[S2 hs1 (by omega) hq];rfl) ⟨⟨by omega,by omega⟩,by omega⟩
  refine Dr mixed 0 ?_;refine Dk 2 (Ba 2) ?_;refine Dk 0 Ga ?_;refine Dk 0 (Bb 0) ?_;refine Dk 1 (Cb rfl rfl V5 (fun u hu=>Iu (nth (nth X.es.l i).l s) u)) ?_;refine Dj 0 ?_;refine Dj 0 ?_;refine Dj 0 ?_;refine Dj 0 ?_;refine Dj 0 ?_;refine Dj 0 ?_;refine Dj 0 ?_;refine Dt 0 rfl rfl (fun hg=>Ia) ?_;refine Dj 0 ?_;refine Dj 0 ?_;refine Dj 0 ?_;refine Dj 0 ?_;refine Dj 0 ?_;refine Dj 0 ?_;refine Dt 0 rfl rfl (fun hg=>Ia) ?_;refine Dj 0 ?_;refine Dj 0 ?_;refine Dk 1 Pa ?_;refine Dj 0 ?_;refine Dj 0 ?_;refine Dj 0 ?_;refine Dj 0 ?_;refine Dj 0 ?_;refine Dj 0 ?_;refine Dt 0 rfl rfl (fun hg=>Ia) ?_;refine Dj 0 ?_;refine Dk 1 Pa ?_;refine Dt 0 rfl rfl (fun hg=>Fy hq hg) ?_;refine Dt 0 rfl rfl (fun hg=>Fy hq hg) ?_;refine Dt 0 rfl rfl (fun hg=>Fy hq hg) ?_;refine Dt 0 rfl rfl (fun hg=>Fz hq hg) ?_;refine Dk 0 Pa ?_;refine Dd (Qc (Cn ?_ ?_))<;>intro hc2
  ·exact absurd hc2 (by simp)
  refine Ck (Qb (Qc (Ny 0 ?_)));refine Wk 1 Za ?_;refine Wd ?_;refine QS.sel [1,1,1] rfl ?_;exact QS.head (s+1) rfl (by rw[Tm hs1 (by omega) hq]) ⟨⟨by omega,by omega⟩,by omega⟩
 exact Cv (Qe (Qe (Qx (out0 (Or.inr rfl) rfl (fun u hu=>⟨⟨_,rfl⟩,.inl (by rw[List.take_of_length_le (by omega)]at hu;exact hu)⟩)))))
theorem Nh {fin:Int→Bool} (X:GraphD) (d:Sl Int) (w:World) (hX:GraphOk w X) (mb:Nat) (hM:MzOk X w mb d) (hd:IsD fin X.ed d.l) (hlen:d.l.length=X.es.l.length) (hto:∀i:Int,0≤i→i<X.es.l.length→∀e∈(nth X.es.l i).l,0≤e.to∧e.to<X.es.l.length) (hbd:∀j:Int,-1≤nth d.l j∧nth d.l j≤1000000) (hn:0<X.es.l.length) (h0:0≤nth d.l 0):
  Calls prog 24 #[.pointer (some ⟨mb,0,none⟩)] w (fun e w'=>∃y:Sl Move,(∃j,ShortW X.ed d.l 0 y.l j∧0≤j∧j<X.es.l.length∧nth d.l j=0∧(y.l.length:Int)=nth d.l 0)∧RetF w y.v (oT cMove 49 y.v (y.l)) e w'):=by
 have hM1:=hM.1;have kd:=hM.2.ints;have ld:=kd.le;have hXe:=hX.es;refine L4 St.nil func24 rfl rfl (Nat.le_of_ble_eq_true rfl) ?_;refine Nz 0 ?_;refine Wq 0 zv42 fun b2 hb2=>?_;refine Nv 0 ?_;refine Wq 0 zv3 fun b3 hb3=>?_;refine Ws 0 0 ?_;refine Nu ?_;refine CS.weak (fun _ hu=>hu.osl0 (e:=49) (size:=3)) ?_;refine CS.sel [0,0,0] rfl ?_;refine CS.weak (fun u hu=>St.mks0 hu) ?_;refine CS.sel [0,1,1,0] rfl ?_;refine CS.loopD (σ:=List Nat×Int×Nat×Value×List Move) (fun s=>dsOf s.1) [4,5,6,7,8,9,10,11,12,13,14,15,16,17,18,19,20,21,22,23,24] (fun s=>[(3,.pointer (some ⟨s.2.2.1,0,none⟩))]) (fun s=>[mks s.1,blk s.2.2.1 [.int .i64 s.2.1] 3,blk b2 [s.2.2.2.1] 42,oT cMove 49 s.2.2.2.1 (s.2.2.2.2)]) (fun s=>0≤s.2.1∧s.2.1<X.es.l.length∧0≤nth d.l s.2.1∧nth d.l s.2.1+s.2.2.2.2.length=nth d.l 0∧ShortW X.ed d.l 0 s.2.2.2.2 s.2.1∧s.2.2.2.1.oneCell'=true) (fun s=>(nth d.l s.2.1).toNat) ([],0,b3,.slice none 0 0,[]) (fun _ _=>rfl) rfl rfl ⟨by simp,by simp only;omega,by simp only;omega,by simp,rfl,rfl⟩ ?_;intro a t hs;obtain⟨ha1,ha2,ha3,ha4,ha5,ha6⟩:=hs;have hb0:=hbd 0;refine Cs (Cs (Dr mixed 3 ?_));refine Dk 0 Ga ?_;refine Dk 0 (Ba 1) ?_;refine Dk 0 Xa ?_;refine Dk 1 Ia ?_;refine Dd (Qc (Cn ?_ ?_))<;>intro hc1
 ·have hpd:0<nth d.l a.2.1:=hc1;refine Ck (Qc (Cs (Ce (Nz 1 ?_))));refine Wk 0 (Ba 1) ?_;refine Wc rfl rfl Jbl (fun u hu=>SL mb a.2.1 u) (fun _=>rfl) ?_;rintro⟨ba,bi⟩ _;refine WS.unpack ?_;refine Nu ?_;refine CS.weak (L':=[fact (([]:List EdgeD)=[]),mks a.1,blk a.2.2.1 [.int .i64 a.2.1] 3,blk b2 [a.2.2.2.1] 42,oT cMove 49 a.2.2.2.1 (a.2.2.2.2)]++[blk ba [.pointer (some ⟨mb,0,none⟩)] 82,blk bi [.int .i64 a.2.1] 3]) (fun u hu=>(hu.sel [2,2,2,2,0,0] rfl).factI rfl) ?_;refine CS.rangeB (V:=edV) (cEdge.cells) (fun _=>rfl) (fun _=>rfl) (fun x=>cEdge.one w x trivial) FO rfl Jbc (by decide) (A:=[blk ba [.pointer (some ⟨mb,0,none⟩)] 82,blk bi [.int .i64 a.2.1] 3]) rfl Jbf (VZ X d w hX mb hM a.2.1 ⟨ha1,ha2⟩ hlen (hto _ ha1 ha2) hbd ba bi) (fun pre=>[fact (pre=([]:List EdgeD)),mks a.1,blk a.2.2.1 [.int .i64 a.2.1] 3,blk b2 [a.2.2.2.1] 42,oT cMove 49 a.2.2.2.1 (a.2.2.2.2)]) (fun kd pre=>match kd with| .exit 2=>[fact (pre.length=1),mks a.1,blk a.2.2.1 [.int .i64 (nth pre 0).to] 3,exS fun q:Value=>star [blk b2 [q] 42,oT cMove 49 q (a.2.2.2.2++[(nth pre 0).m])]]|_=>[fact False]) (fun _=>rfl) (Nat.le_of_ble_eq_true rfl) (fun _ _=>rfl) (fun _=>Nat.le_of_ble_eq_true rfl) ?_ ?_ ?_
  ·intro lr pre x post v b4 F hall;refine CS.factE (j:=1) rfl (fun hv=>?_);subst hv;refine CS.factE (j:=2) rfl (fun hp0=>?_);subst hp0;refine Ce (Nz 0 ?_);refine Wk 1 (Ba 5) ?_;refine Wk 0 (Bc 0) ?_;refine WS.buildT1 cMove (a:=x.m) sl42 zv49 rfl (by decide) (fun _=>rfl) ?_;intro v20;refine WS.appendT1 (j:=7) (jz:=0) sl42 zv49 rfl (by decide) rfl rfl rfl rfl (w:=w) trivial (by omega) (by omega) (fun _=>rfl) (fun _=>rfl) ?_;intro v21 hv21;refine Ws 0 6 ?_;refine Nx 1 ?_;refine Wk 0 (Ba 1) ?_;refine Ws 0 5 ?_;refine Wd (Qc (Cv (Qn ?_)));refine QS.sel [2,3,3,3,3,3] rfl ?_
   exact fun u hu=>by
    have h1:=hu.sel [3,3,0,0,0,0] rfl;have h2:=St.exI (f:=fun q:Value=>star [blk b2 [q] 42,oT cMove 49 q (a.2.2.2.2++[x.m])]) v21 (St.pack (L1:=[_,_]) h1);exact(h2.factI (p:=([x]:List EdgeD).length=1) rfl).sel [2,0,1,1,0,0] rfl
  ·intro D;refine QS.factE (j:=1) rfl (fun hn0=>?_);obtain⟨e,he,hde⟩:=hd.less (fun i i0 i1 e he=>by rw[HG]at he;rw[D1]at i1⊢;exact hto i i0 (by omega) e he) ha1 (by rw[D1];omega) hpd;rw[HG]at he;exact absurd hn0 (List.ne_nil_of_mem (List.mem_filter.2 ⟨he,by simp[DP,hde];omega⟩))
  intro D kd pre x post hall;cases kd with
  |exit i=>
   cases i with
   |zero=>exact fun u hu=>(hu.factE (j:=1) rfl).elim
   |succ i=>
    cases i with
    |zero=>exact fun u hu=>(hu.factE (j:=1) rfl).elim
    |succ i=>
     cases i with
     |succ i=>exact fun u hu=>(hu.factE (j:=1) rfl).elim
     |zero=>
      refine CS.factE (j:=1) rfl (fun hl1=>?_);obtain rfl:pre=[]:=List.eq_nil_of_length_eq_zero (by simpa using hl1);refine CS.sel [4,0,1,1] rfl ?_;refine CS.ex ?_;intro q;refine CS.unpack ?_;refine CS.sel [2,2,0,0,0] rfl ?_;refine CS.weak (fun u hu=>St.mksCons hu) ?_;refine CS.oc (j:=2) rfl (fun hq=>?_);obtain⟨hx1,hx9⟩:=List.mem_filter.1 (show x∈((nth X.es.l a.2.1).l.filter (DP d.l a.2.1)) by rw[hall];simp);have hx3:nth d.l x.to=nth d.l a.2.1-1:=by simp[DP]at hx9;omega
      have hx2:=hto _ ha1 ha2 x hx1;refine Cv (Qx (Qb (Qc (Nz 0 ?_))));refine Wk 0 (Ba 3) ?_;refine Nw 0 ?_;refine Wq 0 zv3 fun b3 hb3=>?_;refine Ws 0 0 ?_;refine Wd ?_;refine QS.sel [1,0,0,0] rfl ?_;exact QS.headD ((D::a.1,x.to,b3,q,a.2.2.2.2++[x.m])) rfl rfl ⟨⟨hx2.1,hx2.2,by simp only;omega,by simp;omega,ha5.snoc (by rw[HG];exact hx1) hx3,hq⟩,by simp only;omega⟩
  |_=>exact fun u hu=>(hu.factE (j:=1) rfl).elim
 refine Cv (Qe (Qe (Qx (Qc (Nz 0 ?_)))));refine Wk 0 (Ba 2) ?_;refine Ws 0 2 ?_;refine Wd (Qc (Cr ?_));exact Jam [0,1,1] (Or.inl rfl) rfl (resc rfl (IY (j:=0) rfl rfl rfl tk42)) (fun u hu=>⟨⟨a.2.2.2.1,a.2.2.2.2⟩,⟨a.2.1,ha5,ha1,ha2,by omega,by simp only;omega⟩,retF (j:=1) rfl u hu⟩)
structure MzFacts (G:Game) (X:GraphD) (d:List Int):Prop where
 xv:(X.xs,X.ed)=(Af G.p).2
 gr:GrAll G.p (Ac G.p).2 X.xs X.ed
 ds:IsD (finB G.p X.xs) X.ed d
 ln:d.length=X.es.l.length
 n0:0<X.es.l.length
 to:∀i:Int,0≤i→i<X.es.l.length→∀e∈(nth X.es.l i).l,0≤e.to∧e.to<X.es.l.length
 bd:∀j:Int,-1≤nth d j∧nth d j≤1000000
theorem IsD.chain {fin:Int→Bool} {es:List (List EdgeD)} {d:List Int} (h:IsD fin es d) (hes:∀i:Int,0≤i→i<es.length→∀e∈nth es i,0≤e.to∧e.to<es.length):∀(v:Nat) {i:Int},0≤i→i<es.length→nth d i=v→
  ∃q:List Int,q.Nodup∧q.length=v+1∧∀k∈q,(0≤k∧k<es.length)∧nth d k≤v
 |0,i,h0,h1,hv=>⟨[i],by simp,rfl,fun k hk=>by rw[List.mem_singleton.1 hk];exact⟨⟨h0,h1⟩,by omega⟩⟩
 |v+1,i,h0,h1,hv=>by
  obtain⟨e,he,hd⟩:=h.less hes h0 h1 (by omega);obtain⟨a,b⟩:=hes i h0 h1 e he;obtain⟨q,q1,q2,q3⟩:=h.chain hes v a b (by omega);refine⟨i::q,List.nodup_cons.2 ⟨fun hm=>?_,q1⟩,by simp[q2],fun k hk=>?_⟩
  ·have:=(q3 i hm).2;omega
  rcases List.mem_cons.1 hk with rfl|hk
  ·exact⟨⟨h0,h1⟩,by omega⟩
  exact⟨(q3 k hk).1,by have:=(q3 k hk).2;omega⟩
theorem IsD.top {fin:Int→Bool} {es:List (List EdgeD)} {d:List Int} (h:IsD fin es d) (hes:∀i:Int,0≤i→i<es.length→∀e∈nth es i,0≤e.to∧e.to<es.length) {i:Int} (h0:0≤i) (h1:i<es.length):nth d i<es.length:=by
 by_cases hp:0≤nth d i
 ·obtain⟨q,q1,q2,q3⟩:=h.chain hes (nth d i).toNat h0 h1 (by omega);have:=Iy (n:=es.length) q1 fun k hk=>(q3 k hk).1;omega
 omega
theorem IA {G:Game} {X:GraphD} {d:List Int} (hE:(Af G.p).1=0) (hv:(X.xs,X.ed)=(Af G.p).2) (hd:DR G d):MzFacts G X d:=by
 have e1:X.xs=(Af G.p).2.1:=congrArg Prod.fst hv;have e2:X.ed=(Af G.p).2.2:=congrArg Prod.snd hv;have hg:GrAll G.p (Ac G.p).2 X.xs X.ed:=by rw[e1,e2];exact(E3 hE).2
 have hd2:IsD (finB G.p X.xs) X.ed d:=by rw[e1,e2];exact hd
 have hl:=D1 X;have hes:∀i:Int,0≤i→i<X.ed.length→∀e∈nth X.ed i,0≤e.to∧e.to<X.ed.length:=fun i a b=>hg.to a b;have hlim:=hg.ok.pk.lim;have hpos:=hg.ok.pk.pos;have hlen:=hg.len;refine⟨hv,hg,hd2,by rw[hd2.len,hl],by omega,fun i a b e he=>by have h9:=hes i a (by omega) e (by rw[HG];exact he);omega,fun j=>?_⟩;have hk:nth d j=nth d (j.toNat:Int):=by unfold nth;rw[Int.toNat_natCast]
 rw[hk]
 by_cases hj:j.toNat<X.ed.length
 ·have a:=hd2.ge (i:=j.toNat) (by omega) (by omega);have b:=hd2.top hes (i:=j.toNat) (by omega) (by omega);omega
 have:nth d (j.toNat:Int)=0:=by
  have hl2:=hd2.len;unfold nth;rw[Int.toNat_natCast];simp[List.getD,List.getElem?_eq_none (show d.length≤j.toNat by omega)]
 omega
theorem Tc (G:Game) (w:World) (hG:GameOk w G) (hn:NearG G) (g:Sl ByteArray) (hW:GOk w g) (ht:Lib.TabIs prog w "internal/strconv.uint64pow10" .u64 Lib.pow10Tab) (hE:¬(Af G.p).1=0):
  Calls prog 8 #[.agg (gcl G).toArray] w (RetB w (.tuple #[.slice none 0 0,.int .i64 (Af G.p).1])):=by
 refine En func8 ?_;refine Nz 0 ?_;refine Wr 2 fun b1 hb1=>?_;refine Nx 0 ?_;refine Wk 0 (Bb 0) ?_;refine Wk 5 (Cb rfl rfl QC (fun u hu=>RB G u (hG.st hu) hn g (hW.st hu) (D2 ht hu) hE)) ?_;refine Nv 2 ?_;refine Wp ?_ ?_<;>intro hc1
 ·refine Nz 3 ?_;exact Wd (Qc (Cr (Qr (out2 rfl rfl rfl (Ab rfl)))))
 exact absurd hc1 hE
theorem S8 (G:Game) (w:World) (hG:GameOk w G) (hn:NearG G) (g:Sl ByteArray) (hW:GOk w g) (ht:Lib.TabIs prog w "internal/strconv.uint64pow10" .u64 Lib.pow10Tab) (hE:(Af G.p).1=0) (hU:∀d,DR G d→nth d 0<0):
  Calls prog 8 #[.agg (gcl G).toArray] w (RetB w (.tuple #[.slice none 0 0,.int .i64 50])):=by
 refine En func8 ?_;refine Nz 0 ?_;refine Wr 2 fun b1 hb1=>?_;refine Nx 0 ?_;refine Wk 0 (Bb 0) ?_;refine Wc rfl rfl QC (fun u hu=>E2 G u (hG.st hu) hn g (hW.st hu) (D2 ht hu) hE) (fun _=>rfl) ?_;rintro⟨X,mb,d⟩ ⟨⟨hd,hXv⟩,um,hX,hm⟩
 change DR G d.l at hd
 change (X.xs,X.ed)=_ at hXv
 change GraphOk um X at hX
 change MzOk X um mb d at hm
 have od:=Sl.one hm.2;have hF:=IA hE hXv hd;have hFl:=hF.ln;have hFn:=hF.n0;refine Wz 5 ?_;refine Nv 2 ?_;refine Wp ?_ ?_<;>intro hc1
 ·exact absurd trivial hc1
 refine Ck (Qc (Cs (Nz 3 ?_)));refine Wk 0 (BM (i:=3) rfl (fun u hu=>(hu.ro (j:=0) rfl).2.1) rfl tk37) ?_;refine Wk 0 (E1 (s:=d) (i:=0) sl37 rfl rfl hm.2 rfl (by decide) (by omega)) ?_;refine Wk 1 (Gr 0 (s:=d) (i:=0) rfl (fun _ h↦h.2.2) rfl rfl ⟨by decide,by omega⟩ rfl tk3) ?_;refine Wp ?_ ?_<;>intro hc2
 ·refine Nz 2 ?_;exact Wd (Qc (Cr (Qr (out2 rfl rfl rfl (Ab rfl)))))
 exact absurd (hU _ hd) hc2
theorem T6 (G:Game) (w:World) (hG:GameOk w G) (hn:NearG G) (g:Sl ByteArray) (hW:GOk w g) (ht:Lib.TabIs prog w "internal/strconv.uint64pow10" .u64 Lib.pow10Tab) (hE:(Af G.p).1=0) (hU:∀d,DR G d→0≤nth d 0):
  Calls prog 8 #[.agg (gcl G).toArray] w (fun e w'=>∃y:Sl Move,((∃X d,MzFacts G X d∧0≤nth d 0∧∃j,ShortW X.ed d 0 y.l j∧0≤j∧j<X.es.l.length∧nth d j=0∧(y.l.length:Int)=nth d 0)∧∃u0,SlT cMove u0 y)∧RetF w (.tuple #[y.v,.int .i64 0]) (roT cMove y) e w'):=by
 refine En func8 ?_;refine Nz 0 ?_;refine Wr 2 fun b1 hb1=>?_;refine Nx 0 ?_;refine Wk 0 (Bb 0) ?_;refine Wc rfl rfl QC (fun u hu=>E2 G u (hG.st hu) hn g (hW.st hu) (D2 ht hu) hE) (fun _=>rfl) ?_;rintro⟨X,mb,d⟩ ⟨⟨hd,hXv⟩,um,hX,hm⟩
 change DR G d.l at hd
 change (X.xs,X.ed)=_ at hXv
 change GraphOk um X at hX
 change MzOk X um mb d at hm
 have od:=Sl.one hm.2;have hF:=IA hE hXv hd;have hFl:=hF.ln;have hFn:=hF.n0;refine Wz 5 ?_;refine Nv 2 ?_;refine Wp ?_ ?_<;>intro hc1
 ·exact absurd trivial hc1
 refine Ck (Qc (Cs (Nz 3 ?_)));refine Wk 0 (BM (i:=3) rfl (fun u hu=>(hu.ro (j:=0) rfl).2.1) rfl tk37) ?_;refine Wk 0 (E1 (s:=d) (i:=0) sl37 rfl rfl hm.2 rfl (by decide) (by omega)) ?_;refine Wk 1 (Gr 0 (s:=d) (i:=0) rfl (fun _ h↦h.2.2) rfl rfl ⟨by decide,by omega⟩ rfl tk3) ?_;refine Wp ?_ ?_<;>intro hc2
 ·exact absurd hc2 (by have h9:=hU _ hd;omega)
 have h00:=hU _ hd;refine Ck (Qc (Nz 1 ?_));refine Wc rfl rfl Jax (fun u hu=>Nh X d u (hu.ro (j:=0) rfl).1 mb (hu.ro (j:=0) rfl).2 hF.ds hFl hF.to hF.bd hFn h00) (fun _=>rfl) ?_;rintro y ⟨j,hj1,hj2,hj3,hj4,hj5⟩;refine Wz 2 ?_;refine Wd (Qc (Cr ?_))
 exact out2 rfl rfl rfl (fun u hu=>by
   obtain⟨v,hv,hr⟩:=retM (f:=fun v=>.tuple #[v,.int .i64 0]) (j:=0) rfl hu
   exact⟨⟨v,y.l⟩,⟨⟨X,d.l,hF,h00,j,hj1,hj2,hj3,hj4,hj5⟩,hv⟩,hr⟩)
theorem CS.rebase {P:Program} {ro:Option Nat} {n0:Nat} {w0:World} {ds:List Deferred} {Q:Exit→Act→World→Prop} {L:List SA} {l:List Value} {c:Code} (h:∀u,St n0 w0 L u→CS P ro u.heap.size u ds c Q [] l):CS P ro n0 w0 ds c Q L l:=fun u hu=>h u hu u St.nil
theorem OU:prog.underlying 111=some (.map 3 3):=underlying111
theorem WY:prog.underlying 3=some (.int .i64):=underlying3
theorem JT {r:Room} {x:P3} {m:Move} (h:legalB r x m=true):0≤m.p∧m.p<r.ply:=by
 unfold legalB at h;split at h
 ·rename_i h1;simp at h1;omega
 cases h
theorem K2 {G:Game} {X:GraphD} {d:List Int} (hF:MzFacts G X d) {i:Int} (h0:0≤i) (h1:i<X.es.l.length) {e:EdgeD} (he:e∈(nth X.es.l i).l):0≤e.m.p∧e.m.p<G.rm.ply:=by
 have hk:=hF.gr.ok.es i h0 (by rw[D1];exact h1);rw[HG]at hk;have hm:e.m∈Ai G.p (nth X.xs i):=by rw[←hk.mv];exact List.mem_map_of_mem he
 rw[Fs]at hm;have h2:=(List.mem_filter.1 hm).1;unfold AF at h2;exact JT (List.mem_filter.1 h2).2
theorem Cp {ks:List Int} {k j:Int}:j∈addK ks k↔j∈ks∨j=k:=by
 unfold addK;split
 ·rename_i h;exact⟨.inl,fun h2=>h2.elim id fun e=>e▸h⟩
 simp
theorem ZO (X:GraphD) (d:Sl Int) (w:World) (hX:GraphOk w X) (mb:Nat) (hM:MzOk X w mb d) (ks:List Int) (m:Nat) (hm:MapW w m (BZ ks) ks.length) (hks:∀k∈ks,0≤k∧k<d.l.length) (b6 b4:Nat) (h6:BlkAt w b6 [.map (some m)] 111) (h4:BlkAt w b4 [.pointer (some ⟨mb,0,none⟩)] 82):
  Calls prog 40 #[.pointer (some ⟨b6,0,none⟩),.pointer (some ⟨b4,0,none⟩)] w (RetB w (.bool (ks.any fun k=>decide (nth d.l k=0)))):=by
 have hM1:=hM.1;have kd:=hM.2.ints;refine En func40 ?_;refine Nz 1 ?_;refine Nv 0 ?_;refine Wk 0 Ga ?_;refine WS.range (m:=m) OU rfl hm rfl (fun _=>rfl) fun b5 hb5=>?_;refine Nu ?_;refine CS.loopM (σ:=List Nat) (rsL [2,3,6,17]) (fun s=>[]) (fun s=>[itP b5 m ks.length s]) (fun s=>∀q∈s,∀k,ks[q]? = some k→¬nth d.l k=0) (fun s=>Hd (BZ ks) s) [] (fun _ _=>rfl) rfl rfl (fun _ h=>absurd h List.not_mem_nil) ?_;intro z t hs;have hz:=hs;refine Nz 0 ?_;refine WS.next (j:=0) rfl rfl hm rfl (fun _=>rfl) (fun _=>rfl) fun o ho=>?_;refine Wk 0 (H3 rfl) ?_;refine Wd (Qc (Cs (Cn ?_ ?_)))<;>intro hc1
 ·obtain⟨e,rfl⟩:∃e,o=some e:=Option.isSome_iff_exists.1 hc1;obtain⟨q,k,hqk,rfl⟩:=Fb ho.1;have hkm:k∈ks:=List.mem_of_getElem? hqk;obtain⟨hk0,hk1⟩:=hks k hkm;refine Ck (Qc (Ce (Nz 0 ?_)));refine Wk 2 (Nf (j:=0) (seen:=z) rfl rfl hm ho.1 rfl rfl) ?_;refine Nx 0 ?_;refine Wk 2 Ga ?_;refine Wk 1 Ga ?_;refine Wk 0 Xa ?_;refine Wk 1 Ia ?_;refine Wp ?_ ?_<;>intro hc2
  ·refine Nz 1 ?_;exact Wd (Qc (Cr (Qs (Qr (Qs (Qr (out1 rfl rfl (Ab (by rw[List.any_eq_true.2 ⟨k,hkm,decide_eq_true hc2⟩])))))))))
  refine Ck (Qb ?_)
  exact QS.head (z++[q]) rfl rfl ⟨fun q' h' k' hk'=>by
      rcases List.mem_append.1 h' with h|h
      ·exact hz q' h k' hk'
      rw[List.mem_singleton.1 h,hqk]at hk'
      injection hk' with e
      rw[←e];exact hc2,Hk ho⟩
 obtain rfl:o=none:=by simpa using hc1
 refine Cv (Qe (Qe (Qx (Qc (Nz 1 ?_)))));refine Wd (Qc (Cr ?_))
 exact out1 rfl rfl (Ab (by
    rw[show(ks.any fun k=>decide (nth d.l k=0))=false by
     rw[List.any_eq_false];intro k hk;obtain⟨q,hq⟩:=List.getElem?_of_mem hk;have:=hz q (ho _ (List.mem_of_getElem? (DG hq))) k hq
     simpa using this]))
theorem Qp (G:Game) (w:World) (hG:GameOk w G) (hn:NearG G) (g:Sl ByteArray) (hW:GOk w g) (ht:Lib.TabIs prog w "internal/strconv.uint64pow10" .u64 Lib.pow10Tab) (hE:(Af G.p).1=0) (hU:∀d,DR G d→0≤nth d 0):
  Calls prog 12 #[.agg (gcl G).toArray] w (fun e w'=>∃r:Int,(∃X d,MzFacts G X d∧0≤r∧r≤nth d 0)∧RetB w (.tuple #[.int .i64 r,.int .i64 0]) e w'):=by
 refine En func12 ?_;refine Nz 0 ?_;refine Wr 2 fun b1 hb1=>?_;refine Nx 0 ?_;refine Wk 0 (Bb 0) ?_;refine Wc rfl rfl QC (fun u hu=>E2 G u (hG.st hu) hn g (hW.st hu) (D2 ht hu) hE) (fun _=>rfl) ?_;rintro⟨X,mb,d⟩ ⟨⟨hd,hXv⟩,um,hX,hm⟩
 change DR G d.l at hd
 change (X.xs,X.ed)=_ at hXv
 change GraphOk um X at hX
 change MzOk X um mb d at hm
 have od:=Sl.one hm.2;have hF:=IA hE hXv hd;have hFl:=hF.ln;have hFn:=hF.n0;refine Wz 3 ?_;refine Wq 0 zv82 fun b4 hb4=>?_;refine Ws 1 0 ?_;refine Nv 2 ?_;refine Wp ?_ ?_<;>intro hc1
 ·exact absurd trivial hc1
 refine Ck (Qc (Cs (Cs ?_)));refine CS.rebase fun u1 hu1=>?_;have hX:GraphOk u1 X:=(hu1.ro (j:=1) rfl).1;have hM:MzOk X u1 mb d:=(hu1.ro (j:=1) rfl).2;have hM1:=hM.1;have kd:=hM.2.ints;have h4:=AD hu1 (j:=0) rfl;have h1:=AD hu1 (j:=2) rfl;have hXe:=hX.es;have h00:=hU _ hd;have hb0:=hF.bd 0;have hx0:nth X.xs 0∈X.xs:=Ad (Int.le_refl 0) (by have h9:=hF.gr.ok.pk.pos;omega);rw[SB]at hx0;have hgp:=BJ (hF.gr.ok.pk.ok _ hx0);have hply:=Em hgp.ck;have hdl:0<d.l.length:=by rw[hFl];exact hFn
 refine Ny 0 ?_;refine Wk 2 Ga ?_;refine Wk 0 Ga ?_;refine Wk 0 Xa ?_;refine Wk 1 Ia ?_;refine Wp ?_ ?_<;>intro hc2
 ·exact absurd hc2 (by omega)
 refine Ck (Qc (Nz 0 ?_));refine WS.makeMapL (fun _=>rfl) fun b29 hb29=>?_;refine WS.insL (j:=0) OU WY rfl rfl rfl rfl rfl ?_;refine Wz 1 ?_;refine Wq 0 Jat fun b6 hb6=>?_;refine Ws 0 0 ?_;refine Nx 0 ?_;refine Wk 1 (Al rfl) ?_;refine Nx 1 ?_;refine Wd (Qc (Cs (Ce ?_)));refine CS.loopM (σ:=Int×Nat×List Int) (rsL [9,11,13,13,32,75]) (fun s=>[(8,.int .i64 s.1)]) (fun s=>[blk b6 [.map (some s.2.1)] 111,mapL s.2.1 s.2.2]) (fun s=>0≤s.1∧(∀k∈s.2.2,0≤k∧k<X.es.l.length)∧∃p∈s.2.2,0≤nth d.l p∧s.1+nth d.l p≤nth d.l 0) (fun s=>(nth d.l 0-s.1).toNat) (0,b29,addK [] 0) (fun _ _=>rfl) rfl rfl ⟨by simp,fun k (hk:k∈addK [] 0)=>by rcases Cp.1 hk with h|h;exact absurd h List.not_mem_nil;subst h;omega,0,(Cp.2 (.inr rfl):(0:Int)∈addK [] 0),h00,by simp⟩ ?_;intro a t hs;obtain⟨ha1,ha2,ha3⟩:=hs;refine Cs (Nz 1 ?_);refine Wk 1 (Cb rfl rfl Jaq (fun u hu=>ZO X d u (hX.st hu) mb ⟨hM.1.ext hu.below,hM.2.st hu⟩ a.2.2 a.2.1 (FH hu (j:=1) rfl).2 (fun k hk=>by have h9:=ha2 k hk;omega) b6 b4 (AD hu (j:=0) rfl) (h4.ext hu.below))) ?_;refine Wp ?_ ?_<;>intro hc3
 ·have hnz:∀k∈a.2.2,¬nth d.l k=0:=by simpa using hc3
  obtain⟨p,hp,hp0,hp1⟩:=ha3;have hpz:=hnz p hp;obtain⟨hpa,hpb⟩:=ha2 p hp;obtain⟨e,he,hde⟩:=hF.ds.less (fun i i0 i1 e he=>by rw[HG]at he;rw[D1]at i1⊢;exact hF.to i i0 (by omega) e he) hpa (by rw[D1];omega) (by omega);rw[HG]at he;have hpl:=K2 hF hpa hpb he;have hto:=hF.to p hpa hpb e he;refine Ck (Qc (Cs (Ce (Nz 2 ?_))));refine Wk 1 Ga ?_;refine Nu ?_;refine CS.loopM (σ:=Int×Nat×List Int) (rsL [9,11,13,13,41,75]) (fun s=>[(40,.int .i64 s.1)]) (fun s=>[blk b6 [.map (some s.2.1)] 111,mapL s.2.1 s.2.2]) (fun s=>0≤s.1∧s.1≤G.rm.ply∧(∀k∈s.2.2,0≤k∧k<X.es.l.length)∧(s.1≤e.m.p→p∈s.2.2)∧(e.m.p<s.1→e.to∈s.2.2)) (fun s=>(G.rm.ply-s.1).toNat) (0,a.2.1,a.2.2) (fun _ _=>rfl) rfl rfl ⟨by simp,by simp only;omega,ha2,fun _=>hp,fun h=>by simp only at h;omega⟩ ?_;intro b t hs;obtain⟨hb1,hb2,hb3,hb4,hb5⟩:=hs;refine Nz 1 ?_;refine Wd (Qc (Cs (Cn ?_ ?_)))<;>intro hc4
  ·refine Ck (Qc (Cs (Ce (Nz 2 ?_))));refine Nx 0 ?_;refine WS.makeMapL (fun _=>rfl) fun b43 hb43=>?_;refine Wz 1 ?_;refine Nv 0 ?_;refine Wk 0 (Ba 1) ?_;refine WS.rangeL (jm:=2) OU rfl rfl (fun _=>rfl) fun b45 hb45=>?_;refine Nu ?_;refine CS.sel [1,0,0,0] rfl ?_;refine CS.loopM (σ:=List Nat×List Int) (rsL [11,11,13,13,46,73]) (fun s=>[]) (fun s=>[mapL b43 s.2,itP b45 b.2.1 b.2.2.length s.1,blk b6 [.map (some b.2.1)] 111,mapL b.2.1 b.2.2]) (fun s=>(∀k∈s.2,0≤k∧k<X.es.l.length)∧∀q∈s.1,∀k,b.2.2[q]? = some k→k∈s.2∧∀e'∈(nth X.es.l k).l,e'.m.p=b.1→e'.to∈s.2) (fun s=>Hd (BZ b.2.2) s.1) ([],[]) (fun _ _=>rfl) rfl rfl ⟨fun _ h=>absurd h List.not_mem_nil,fun _ h=>absurd h List.not_mem_nil⟩ ?_;intro c t hs;obtain⟨hz1,hz2⟩:=hs;refine Nz 0 ?_;refine WS.nextL (j:=1) (jm:=3) rfl rfl rfl (fun _=>rfl) (fun _=>rfl) fun o ho=>?_;refine Wk 0 (H3 rfl) ?_;refine Wd (Qc (Cs (Cn ?_ ?_)))<;>intro hc5
   ·obtain⟨en,rfl⟩:∃e,o=some e:=Option.isSome_iff_exists.1 hc5;obtain⟨q,k,hqk,rfl⟩:=Fb ho.1;have hkm:k∈b.2.2:=List.mem_of_getElem? hqk;obtain⟨hk0,hk1⟩:=hb3 k hkm;have hke:SlT cEdge u1 (nth X.es.l k):=hXe.at hk0 hk1;have kle:=hke.le;refine Ck (Qc (Ce (Nz 0 ?_)));refine Wk 2 (M4 (j:=1) (jm:=3) (seen:=c.1) rfl rfl rfl hqk) ?_;refine Nx 2 ?_;refine WS.updL (j:=0) OU WY rfl rfl rfl rfl rfl ?_;refine Nx 0 ?_;refine Wk 3 Ga ?_;refine Wk 1 Ga ?_;refine Wk 0 Xc ?_;refine Wk 0 Ub ?_;refine Wk 1 Nc ?_;refine Nu ?_;refine CS.loopM (σ:=Int×List Int) (rsL [13,13,62,73]) (fun s=>[(61,.int .i64 s.1)]) (fun s=>[mapL b43 s.2,itP b45 b.2.1 b.2.2.length (c.1++[q]),blk b6 [.map (some b.2.1)] 111,mapL b.2.1 b.2.2]) (fun s=>0≤s.1∧s.1≤(nth X.es.l k).l.length∧(∀k∈s.2,0≤k∧k<X.es.l.length)∧(∀j∈addK c.2 k,j∈s.2)∧∀j:Int,0≤j→j<s.1→(nth (nth X.es.l k).l j).m.p=b.1→(nth (nth X.es.l k).l j).to∈s.2) (fun s=>((nth X.es.l k).l.length-s.1).toNat) (0,addK c.2 k) (fun _ _=>rfl) rfl rfl ⟨by simp,by simp,fun j hj=>by rcases Cp.1 hj with h|h;exact hz1 j h;subst h;exact⟨hk0,hk1⟩,fun _ h=>h,fun j a b=>by simp only at b;omega⟩ ?_;intro f t hs;obtain⟨hf1,hf2,hf3,hf4,hf5⟩:=hs;refine Nz 1 ?_;refine Wd (Qc (Cs (Cn ?_ ?_)))<;>intro hc6
    ·obtain⟨hf6,hf7⟩:=hF.to k hk0 hk1 (nth (nth X.es.l k).l f.1) (Ad hf1 (by omega));refine Ck (Qc (Cs (Ce (Nz 0 ?_))));refine Wk 0 Xc ?_;refine Wk 0 Ua ?_;refine Wq 0 FO fun b13 hb13=>?_;refine Wv 0 0 ?_;refine Nx 2 ?_;refine Wk 2 (Ba 0) ?_;refine Wp ?_ ?_<;>intro hc7
     ·have hfp:(nth (nth X.es.l k).l f.1).m.p=b.1:=hc7;refine Ny 2 ?_;refine Wk 0 (Ba 0) ?_;refine WS.updL (j:=1) OU WY rfl rfl rfl rfl rfl ?_;refine Wd (Qb (Qc (Ny 0 ?_)));refine Wk 1 Za ?_;refine Wd ?_;refine QS.sel [1,1,1,1] rfl ?_
      exact QS.head ((f.1+1,addK f.2 (nth (nth X.es.l k).l f.1).to)) rfl rfl ⟨⟨by simp only;omega,by simp only;omega,fun j hj=>by rcases Cp.1 hj with h|h;exact hf3 j h;subst h;exact⟨hf6,hf7⟩,fun j hj=>Cp.2 (.inl (hf4 j hj)),fun j j0 j1 hp=>(by
          simp only at j1
          by_cases hj:j=f.1
          ·subst hj;exact Cp.2 (.inr rfl)
          exact Cp.2 (.inl (hf5 j j0 (by omega) hp)))⟩,by simp only;omega⟩
     have hfp:¬(nth (nth X.es.l k).l f.1).m.p=b.1:=hc7;refine Ck (Qb (Qc (Ny 0 ?_)));refine Wk 1 Za ?_;refine Wd ?_;refine QS.sel [1,1,1,1] rfl ?_
     exact QS.head ((f.1+1,f.2)) rfl rfl ⟨⟨by simp only;omega,by simp only;omega,hf3,hf4,fun j j0 j1 hp=>(by
         simp only at j1
         by_cases hj:j=f.1
         ·subst hj;exact absurd hp hfp
         exact hf5 j j0 (by omega) hp)⟩,by simp only;omega⟩
    refine Cv (Qe (Qe (Qx (Qb ?_))))
    exact QS.head ((c.1++[q],f.2)) rfl rfl ⟨⟨hf3,fun q' h' k' hk'=>by
        rcases List.mem_append.1 h' with h|h
        ·obtain⟨a1,a2⟩:=hz2 q' h k' hk';exact⟨hf4 _ (Cp.2 (.inl a1)),fun e' he' hp'=>hf4 _ (Cp.2 (.inl (a2 e' he' hp')))⟩
        rw[List.mem_singleton.1 h,hqk]at hk'
        injection hk' with e9
        subst e9;refine⟨hf4 _ (Cp.2 (.inr rfl)),fun e' he' hp'=>?_⟩;obtain⟨j,j0,j1,rfl⟩:=Bg he'
        exact hf5 j j0 (by omega) hp'⟩,Hk ho⟩
   obtain rfl:o=none:=by simpa using hc5
   refine Cv (Qe (Qe (Qx (Qc (Ny 1 ?_)))));refine Ws 0 2 ?_;refine Wd (Qb (Qc (Ny 0 ?_)));refine Wk 1 Za ?_;refine Wd ?_;refine QS.sel [2,0] rfl ?_
   skip
   exact QS.head ((b.1+1,b43,c.2)) rfl rfl ⟨⟨by simp only;omega,by simp only;omega,hz1,fun h=>(by simp only at h;obtain⟨q,hq⟩:=List.getElem?_of_mem (hb4 (by omega));exact(hz2 q (ho _ (List.mem_of_getElem? (DG hq))) p hq).1),fun h=>(by
       simp only at h
       by_cases hlt:e.m.p<b.1
       ·obtain⟨q,hq⟩:=List.getElem?_of_mem (hb5 hlt);exact(hz2 q (ho _ (List.mem_of_getElem? (DG hq))) e.to hq).1
       obtain⟨q,hq⟩:=List.getElem?_of_mem (hb4 (by omega))
       exact(hz2 q (ho _ (List.mem_of_getElem? (DG hq))) p hq).2 e he (by omega))⟩,by simp only;omega⟩
  refine Cv (Qe (Qe (Qx (Qb (Qc (Ny 1 ?_))))));refine Wk 1 Za ?_;exact Wd (QS.head ((a.1+1,b.2.1,b.2.2)) rfl rfl ⟨⟨by simp only;omega,hb3,e.to,hb5 (by omega),by omega,by simp only;omega⟩,by simp only;omega⟩)
 refine Cv (Qe (Qe (Qx (Qc (Nz 3 ?_)))));exact Wd (Qc (Cr (out2 rfl rfl rfl (fun u hu=>⟨a.1,⟨X,d.l,hF,ha1,by obtain⟨p,_,h8,h9⟩:=ha3;omega⟩,rfl,AN hu1.below hu.below⟩))))
def TmOk:Int→List Timed→Prop
 |_,[]=>True
 |last,m::tl=>(last≤m.t∧m.t≤1000000)∧TmOk m.t tl
def HH:Int→List Timed→Int
 |last,[]=>last
 |_,m::tl=>HH m.t tl
theorem TmOk.snoc {m:Timed}:∀{tl:List Timed} {last:Int},TmOk last tl→HH last tl≤m.t→m.t≤1000000→TmOk last (tl++[m])
 |[],_,_,h1,h2=>⟨⟨h1,h2⟩,trivial⟩
 |_::_,_,h,h1,h2=>⟨h.1,h.2.snoc h1 h2⟩
theorem FD {m:Timed}:∀{tl:List Timed} {last:Int},HH last (tl++[m])=m.t
 |[],_=>rfl
 |_::tl,_=>FD (tl:=tl)
theorem MzFacts.dist {G:Game} {X:GraphD} {d:List Int} (hF:MzFacts G X d):DR G d:=by
 have h9:=hF.ds;rw[show X.xs=(Af G.p).2.1 from congrArg Prod.fst hF.xv,show X.ed=(Af G.p).2.2 from congrArg Prod.snd hF.xv]at h9;exact h9
theorem Jw {G:Game} {X:GraphD} {d:List Int} (hF:MzFacts G X d) {i:Int} (h0:0≤i) (h1:i<X.es.l.length) {e:EdgeD} (he:e∈nth X.ed i):Ap G.p (nth X.xs i) e.m=(0,nth X.xs e.to):=by
 have hl:=D1 X;have hlen:=hF.gr.len;have hk:=hF.gr.ok.es i h0 (by omega);have hm:e.m∈Ai G.p (nth X.xs i):=by rw[←hk.mv];exact List.mem_map_of_mem he
 have hq:posG G.p (nth X.xs i)=0:=hF.gr.ok.pk.ok _ (Ad h0 (by omega));rw[(hk.to e he).2.2];unfold Ap;rw[if_pos hq,if_pos (Eh hm)]
theorem Ig {G:Game} {X:GraphD} {d:List Int} (hF:MzFacts G X d):∀(tl:List Timed) {i j last:Int} (k:Int) (out:List Entr),TmOk last tl→ShortW X.ed d i (tl.map Timed.m) j→0≤i→i<X.es.l.length→(recF G.p tl k last (nth X.xs i) out).1=0
 |[],_,_,_,_,_,_,_,_,_=>rfl
 |m::tl,i,j,last,k,out,ht,hS,h0,h1=>by
  obtain⟨e,he,hm,hd,hS⟩:=hS;have hst:=Jw hF h0 h1 he;rw[hm]at hst;have hto:=hF.to i h0 h1 e (by rw[←HG];exact he);rw[L6 ht.1 (by rw[hst]),hst];exact Ig hF tl _ _ ht.2 hS hto.1 hto.2
theorem J6 {G:GP} {f:Film} {rest:List Entr}:∀(S:List Entr),(∀e∈S,e.k=5∧A6 G f e=some f)→CU G (S++rest) f=CU G rest f
 |[],_=>rfl
 |e::S,h=>by
  obtain⟨h1,h2⟩:=h e (List.mem_cons_self ..);rw[List.cons_append,Hw h2 (by rw[h1];decide)];exact J6 S fun e' h'=>h e' (List.mem_cons_of_mem _ h')
theorem Ul {G:Game} {X:GraphD} {d:List Int} (hF:MzFacts G X d) {i:Int} (h0:0≤i) (h1:i<X.es.l.length):dOf X.xs d (nth X.xs i)=nth d i:=by
 have hl:=D1 X;have hlen:=hF.gr.len;unfold dOf;rw[GM hF.gr.ok.pk.nd h0 (by omega) rfl]
theorem KI {G:Game} {X:GraphD} {d:List Int} (hF:MzFacts G X d) {i:Int} (h0:0≤i) (h1:i<X.es.l.length):nth d i=0↔Cl G.p (nth X.xs i)=true:=hF.ds.zero h0 (by rw[D1];exact h1)
theorem HT {G:Game} {X:GraphD} {d:List Int} (hF:MzFacts G X d):∀(tl:List Timed) {i j last:Int} {new:List Entr} {y:PX} {f:Film} (k:Int),Q7 G.p tl last f.x new y→ShortW X.ed d i (tl.map Timed.m) j→0≤i→i<X.es.l.length→(tl.length:Int)=nth d i→f.x=nth X.xs i→f.st=false→f.pa=0→f.hi=0→(0<nth d i→f.en = -1)→
  ∃f',B9 G.p new k last f = .ok f'∧f'.hi=0∧(tl≠[]→f'.en=HH last tl)∧(tl=[]→f'=f)∧Ev (dOf X.xs d) f.x (CU G.p new f)=0
 |[],i,j,last,new,y,f,k,h,hS,h0,h1,hl,hx,hst,hpa,hhi,hen=>by
  obtain⟨rfl,_⟩:=h;exact⟨f,rfl,hhi,fun q=>absurd rfl q,fun _=>rfl,rfl⟩
 |m::tl,i,j,last,new,y,f,k,h,hS,h0,h1,hl,hx,hst,hpa,hhi,hen=>by
  obtain⟨⟨t1,t2⟩,hs,rest,rfl,hr⟩:=h;obtain⟨e,he,hme,hde,hS⟩:=hS;have hto:=hF.to i h0 h1 e (by rw[←HG];exact he);have hsp:=Jw hF h0 h1 he;rw[hme,←hx]at hsp;rw[List.length_cons]at hl;have hen0:=hen (by omega);have hm:=OO (m:=m) hst hs;obtain⟨f1,hf1⟩:∃f1:Film,f1={f with x:=(Ap G.p f.x m.m).2,en:=if f.en<0∧Cl G.p (Ap G.p f.x m.m).2=true then m.t-f.pa else f.en}:=⟨_,rfl⟩;have hx1:f1.x=(Ap G.p f.x m.m).2:=by rw[hf1]
  have hxe:f1.x=nth X.xs e.to:=by rw[hx1,hsp]
  have hen1:f1.en=if nth d e.to=0 then m.t else -1:=by
   rw[hf1];show(if f.en<0∧Cl G.p (Ap G.p f.x m.m).2=true then m.t-f.pa else f.en)=_;rw[hsp,hen0,hpa]
   by_cases hz:nth d e.to=0
   ·rw[if_pos hz,if_pos ⟨by decide,(KI hF hto.1 hto.2).1 hz⟩];omega
   rw[if_neg hz,if_neg fun q=>hz ((KI hF hto.1 hto.2).2 q.2)]
  rw[←hf1]at hm;have hsame:∀e'∈Ez m.t f.x.1.1 f1.x.1.1,e'.k=5∧A6 G.p f1 e'=some f1:=fun e' h'=>⟨(Jx h').2.1,(H5 (G:=G.p) t2 h').2.2⟩;obtain⟨f',r1,r2,r3,r4,r5⟩:=HT hF tl (f:=f1) (i:=e.to) (k+1+(Ez m.t f.x.1.1 f1.x.1.1).length) (by rw[hx1];exact hr) hS hto.1 hto.2 (by omega) hxe (by rw[hf1];exact hst) (by rw[hf1];exact hpa) (by rw[hf1];exact hhi) (fun hp=>by rw[hen1,if_neg (by omega)]);refine⟨f',?_,r2,fun _=>?_,fun q=>absurd q (by simp),?_⟩
  ·rw[CO (by unfold Cj;simp;exact⟨t1,t2⟩) hm];show B9 G.p _ (k+1) m.t f1 = .ok f';rw[←hx1,H9 (t:=m.t) _ _ fun e he=>H5 t2 he];exact r1
  ·show f'.en=HH m.t tl;cases tl with
   |nil=>rw[r4 rfl,hen1,if_pos (by simp at hl;omega)];rfl
   |cons a b=>exact r3 (by simp)
  rw[Hi hm rfl,←hx1,J6 _ hsame];show(if dOf X.xs d f1.x<0∨dOf X.xs d f.x≤dOf X.xs d f1.x then(1:Int)else 0)+_=0;rw[r5,hxe,hx,Ul hF hto.1 hto.2,Ul hF h0 h1,if_neg (by omega)]
  rfl
theorem Ta {G:Game} {X:GraphD} {d:List Int} {j:Int} {tl:List Timed} (hE:(Af G.p).1=0) (hF:MzFacts G X d) (hS:ShortW X.ed d 0 (tl.map Timed.m) j) (hl:(tl.length:Int)=nth d 0) (ht:TmOk 0 tl):
  ((AB G.p tl).1=0∨(AB G.p tl).1=2)∧((AB G.p tl).1=0→B1 G.p (AB G.p tl).2.2=(0,HH 0 tl,0)∧WErr G.p (AB G.p tl).2.2=0∧∀n,WRes G.p (AB G.p tl).2.2 n→n=0):=by
 have hB:=(E3 hE).1;have hn0:=hF.n0;have hx0:=hF.gr.ok.pk.first;have hrf:=Ig hF tl 0 [] ht hS (Int.le_refl 0) (by omega);rw[hx0]at hrf;refine⟨?_,fun h0=>?_⟩
 ·unfold AB;rw[if_pos hB,if_pos hrf];split<;>simp
 obtain⟨_,hlen,y,hr⟩:=R9 h0;have hdn:=KI hF (Int.le_refl 0) (by omega:(0:Int)<X.es.l.length);rw[hx0]at hdn
 have he0:(A4 G.p).en=if nth d 0=0 then 0 else -1:=by
  show(if Cl G.p (Ac G.p).2=true then(0:Int)else -1)=_
  by_cases hz:nth d 0=0
  ·rw[if_pos hz,if_pos (hdn.1 hz)]
  rw[if_neg hz,if_neg fun q=>hz (hdn.2 q)]
 obtain⟨f',r1,r2,r3,r4,r5⟩:=HT hF tl (f:=A4 G.p) 0 hr hS (Int.le_refl 0) (by omega) hl hx0.symm rfl rfl rfl (fun hp=>by rw[he0,if_neg (by omega)])
 have hv:AC G.p (AB G.p tl).2.2=(0,0,f'):=by
  unfold AC;rw[if_pos hB,if_neg (by omega),r1]
 have hen:f'.en=HH 0 tl:=by
  by_cases hz:tl=[]
  ·rw[r4 hz,he0,hz,if_pos (by rw[hz]at hl;exact hl.symm)];rfl
  exact r3 hz
 have hge:0≤HH 0 tl:=by
  have:∀(tl:List Timed) (last:Int),0≤last→TmOk last tl→0≤HH last tl:=by
   intro tl
   induction tl with
   |nil=>exact fun _ h _=>h
   |cons m tl ih=>exact fun last h h2=>ih m.t (by have:=h2.1.1;omega) h2.2
  exact this tl 0 (Int.le_refl 0) ht
 have hW:WErr G.p (AB G.p tl).2.2=0:=by rw[WErr.yes (by rw[hv])];exact hE
 refine⟨?_,hW,fun n hn=>?_⟩
 ·unfold B1;rw[hv,if_pos rfl,if_neg (by show¬f'.en<0;omega)];show(0,f'.en,f'.hi)=_;rw[hen,r2]
 obtain⟨_,_,d2,hd2,rfl⟩:=hn.1 hW;have e1:X.xs=(Af G.p).2.1:=congrArg Prod.fst hF.xv;have e2:X.ed=(Af G.p).2.2:=congrArg Prod.snd hF.xv;rw[←e1,←e2]at hd2;rw[←e1,hd2.uniq hF.ds];exact r5
theorem Rh {G:Game} {l:List Entr} {d:List Int} (hX:(Af G.p).1=0) (ht:(B1 G.p l).1=0) (hd:DR G d):0≤nth d 0∧nth d 0≤((l.filter fun e:Entr=>decide (e.k=1)).length:Int):=by
 have h0:(AC G.p l).1=0:=by
  by_cases h:(AC G.p l).1=0
  ·exact h
  unfold B1 at ht;rw[if_neg h]at ht;exact absurd ht h
 obtain⟨hB,hgr⟩:=E3 hX;obtain⟨_,_,F,hR,hV⟩:=FL h0;have hp0:=hgr.ok.pk.pos;have hx0:=hgr.ok.pk.first;have hi0:idxI (Af G.p).2.1 (Ac G.p).2=0:=GM hgr.ok.pk.nd (by omega) (by omega) hx0;have hm0:(Ac G.p).2∈(Af G.p).2.1:=by rw[←hx0];exact Ad (by omega) (by omega)
 have hen:¬F.en<0:=by
  have h9:¬(AC G.p l).2.2.en<0:=fun q=>by rw[HW h0 q]at ht;cases ht
  rwa [hV]at h9
 have hfin:∃y∈(Ac G.p).2::CU G.p l (A4 G.p),Cl G.p y=true:=by
  by_cases hdn:Cl G.p (Ac G.p).2=true
  ·exact⟨_,by simp,hdn⟩
  have he0:(A4 G.p).en = -1:=if_neg hdn;obtain⟨y,hy,hy2⟩:=I7 l 0 0 (A4 G.p) F hR (by rw[he0];decide) (by omega);exact⟨y,by simp[hy],hy2⟩
 obtain⟨h1,h2⟩:=hgr.waste_ge hd _ (Ac G.p).2 hm0 (Gt l 0 0 (A4 G.p) F (CC hB) hR) hfin;rw[IX l 0 0 (A4 G.p) F hR]at h2;have e2:dOf (Af G.p).2.1 d (Ac G.p).2=nth d 0:=by unfold dOf;rw[hi0]
 rw[e2]at h1 h2
 have h3:∀(r:List PX) (x:PX),0≤Ev (dOf (Af G.p).2.1 d) x r:=by
  intro r
  induction r with
  |nil=>exact fun _=>Int.le_refl 0
  |cons y r ih=>
   intro x;have:=ih y;show 0≤(if dOf (Af G.p).2.1 d y<0∨dOf (Af G.p).2.1 d x≤dOf (Af G.p).2.1 d y then(1:Int)else 0)+_;split<;>omega
 have h4:=h3 (CU G.p l (A4 G.p)) (Ac G.p).2;exact⟨h1,by omega⟩
end Go.Proofs.YtmoojmgihdgceaaGreatDoor
