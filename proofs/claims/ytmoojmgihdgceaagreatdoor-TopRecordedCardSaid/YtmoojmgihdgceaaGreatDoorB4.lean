/- Contracts of functions, printed by a program of the prover (gen.py). -/
import Derived.Test.YtmoojmgihdgceaaGreatDoorXm
import Derived.Test.YtmoojmgihdgceaaGreatDoorZd
set_option maxHeartbeats 8000000
namespace Go.Proofs.YtmoojmgihdgceaaGreatDoor
open Go.RowKit Go.Proofs Tryz
set_option maxRecDepth 100000
set_option linter.unusedVariables false
set_option linter.unusedSimpArgs false
def IB:List Clue:=[⟨2,0,1,4,0,[],false⟩]
theorem Ja6 {u:World} {v:Value} (h:SlC u v 1 7 (BB IB [.slice none 0 0])):ClS u v IB [.slice none 0 0]:=⟨h,rfl,fun i h0 h1=>by
 have h2:i<1:=h1;obtain rfl:i=0:=by omega
 exact SlI.nil u⟩
/-- What Solve answers: the moves and the error. -/
def SolP (G:Game) (y:Sl Move×Int):Prop:=(¬(Af G.p).1=0∧y.2=(Af G.p).1)∨((Af G.p).1=0∧y.2=50∧∃d,DR G d∧nth d 0<0)∨((Af G.p).1=0∧y.2=0∧(∀d,DR G d→0≤nth d 0)∧(∃X d,MzFacts G X d∧0≤nth d 0∧∃j,ShortW X.ed d 0 y.1.l j∧0≤j∧j<X.es.l.length∧nth d j=0∧(y.1.l.length:Int)=nth d 0))
theorem KR {P:GP} (h:¬(Af P).1=0):(Af P).1=2∨¬(Ac P).1=0:=by
 unfold Af at h⊢
 by_cases hb:(Ac P).1=0
 ·rw[if_pos hb]at h⊢;cases he:expN P (Ac P).2 3000 with
  |none=>exact .inl rfl
  |some z=>rw[he]at h;exact absurd rfl h
 exact .inr hb
theorem TQ {P:GP} {l:List Entr} (h:¬(Ac P).1=0):¬(B1 P l).1=0:=by
 have e1:(AC P l).1=(Ac P).1:=by unfold AC;rw[if_neg h]
 unfold B1;rw[if_neg (by rw[e1];exact h)];show¬(AC P l).1=0;rw[e1];exact h
theorem RS (G:Game) (w:World) (hG:GameOk w G) (hn:NearG G) (g:Sl ByteArray) (hW:GOk w g) (ht:Lib.TabIs prog w "internal/strconv.uint64pow10" .u64 Lib.pow10Tab):
  Calls prog 8 #[.agg (gcl G).toArray] w (fun e w'=>∃y:Sl Move×Int,(SolP G y∧∃u0,SlT cMove u0 y.1)∧RetF w (.tuple #[y.1.v,.int .i64 y.2]) (roT cMove y.1) e w'):=by
 have nil:∀{n:Int} {e:Ending} {w':World},RetB w (.tuple #[.slice none 0 0,.int .i64 n]) e w'→RetF w (.tuple #[.slice none 0 0,.int .i64 n]) (roT cMove ⟨.slice none 0 0,[]⟩) e w':=by
  rintro n e w' ⟨rfl,hb⟩;have hu:St w.heap.size w [] w':=⟨Nat.le_refl _,hb,trivial⟩;exact retR (fun S u h=>SlT.nil cMove u) w' hu
 by_cases hE:(Af G.p).1=0
 ·by_cases hU:∃d,DR G d∧nth d 0<0
  ·obtain⟨d,hd,hz⟩:=hU;refine(S8 G w hG hn g hW ht hE fun d2 h2=>by rw[h2.uniq hd];exact hz).mono ?_;exact fun e w' h=>⟨(⟨.slice none 0 0,[]⟩,50),⟨.inr (.inl ⟨hE,rfl,d,hd,hz⟩),w,SlT.nil cMove w⟩,nil h⟩
  have hS:∀d,DR G d→0≤nth d 0:=fun d hd=>by
   by_cases h:0≤nth d 0
   ·exact h
   exact absurd ⟨d,hd,by omega⟩ hU
  refine(T6 G w hG hn g hW ht hE hS).mono ?_;rintro e w' ⟨y,⟨h1,h2⟩,h3⟩;exact⟨(y,0),⟨.inr (.inr ⟨hE,rfl,hS,h1⟩),h2⟩,h3⟩
 refine(Tc G w hG hn g hW ht hE).mono ?_;exact fun e w' h=>⟨(⟨.slice none 0 0,[]⟩,(Af G.p).1),⟨.inl ⟨hE,rfl⟩,w,SlT.nil cMove w⟩,nil h⟩
theorem EX (w:World):Calls prog 6 #[] w (RetB w (.bool true)):=by
 refine En func6 ?_;refine Nz 1 ?_;refine Nx 0 ?_;refine Wk 0 (Db Ja7 zv74) ?_;refine Wk 0 (Db Vr zv76) ?_;refine WS.buildSliceK sl77 zv76 (rows:=[[.int .i64 2,.int .i64 0,.int .i64 1,.int .i64 4,.int .i64 0,.slice none 0 0,.bool false]]) rfl rfl (by decide) (by decide) (by simp) (fun _=>rfl) ?_;intro v6;refine Wk 5 (Cb rfl rfl Xn (fun u hu=>P4 2 4 IB _ _ u (Ja6 (AX hu (j:=0) rfl)))) ?_;refine Nx 3 ?_;refine Wj 0 ?_;refine Wj 0 ?_;refine Wk 1 Pa ?_;exact Wd (Qc (Cr (out1 rfl rfl (Ab (by kernel_rfl)))))
theorem Jba (G:Game) (w:World) (hG:GameOk w G) (g:Sl ByteArray) (hW:GOk w g) (ht:Lib.TabIs prog w "internal/strconv.uint64pow10" .u64 Lib.pow10Tab) (tv:Value) (ts:List Int) (htv:SlI w tv ts) (l:Sl Entr) (hk:SlT cEntry w l):
  Calls prog 3 #[.agg (gcl G).toArray,tv,l.v] w (RetB w (.bool true)):=by
 have lls:=hk.le;have hone:=hk.one;have lts:=htv.le;refine En func3 ?_;refine Nz 0 ?_;refine Wr 1 fun b3 hb3=>?_;refine Nv 0 ?_;refine Wk 0 (Bb 0) ?_;refine WS.callE rfl rfl ent5 (fun u hu=>SW G u (hG.st hu)) (fun _=>rfl) ?_;intro bL hbL;refine Wz 1 ?_;refine We 0 ?_;refine We 0 ?_;refine We 0 ?_;refine Wk 1 Po ?_;refine We 0 ?_;refine We 0 ?_;refine We 0 ?_;refine Wk 0 Po ?_;refine Wp ?_ ?_<;>intro hc1
 ·refine Nz 0 ?_;refine Wk 1 (Cb rfl rfl ent6 (fun u hu=>EX u)) ?_;exact Wd (Qc (Cr (Qr (out1 rfl rfl retB))))
 have hbf:bL=false:=by first|exact hc1.1.1|(have h9:=hc1;simp at h9;exact h9.1.1)
 have hn:NearG G:=EJ.1 (hbL hbf);have hlt:(ts.length:Int)≤60:=by have h9:=hc1;first|omega|(simp at h9;omega)
 have hll:(l.l.length:Int)≤60:=by have h9:=hc1;first|omega|(simp at h9;omega)
 refine Ck (Qc (Nz 0 ?_));refine Wk 0 (Bb 0) ?_;refine Wc rfl rfl ent7 (fun u hu=>VV G u (hG.st hu) hn) (fun _=>rfl) ?_;rintro c ⟨hcp,uc,hcok⟩;have hnc:=YB hcp hn;have o1:=Sl.one hcok.rm.pls;have o2:=Sl.one hcok.rm.ths;have o3:=Sl.one hcok.rm.prs;have o4:=Sl.one hcok.rm.wys;have o5:=Sl.one hcok.rm.acs;have o6:=Sl.one hcok.rm.aus;have o7:=Sl.one hcok.rm.gl;have o8:=Sl.one hcok.lks;have o9:=Sl.one hcok.cds;have o10:=Sl.one hcok.nts;refine Wq 0 zv36 fun b7 hb7=>?_;refine Wv 0 0 ?_;refine Nx 0 ?_;refine Wk 0 (Bb 0) ?_;refine Wc rfl rfl ent8 (fun u hu=>RS c u (hu.ro (j:=1) rfl) hnc g (hW.st hu) (D2 ht hu)) (fun _=>rfl) ?_;rintro y ⟨hyP,uy,hyk⟩;have oy:=Sl.one hyk;refine Wz 5 ?_;refine Wd (Qc (Cs ?_));refine CS.drawnAll (k:=12) mixed rfl rfl ?_;refine Ak 0 [2] rfl (Bb 1) ?_;refine Ao 1 rfl ?_;refine WS.build0 sl38 zv51 (fun _=>rfl) ?_;intro v50;refine Wd (Qa ?_);refine Ao 3 rfl ?_;refine WS.append0 (j:=0) (news:=Ay cEntry l.l) (m:=l.l.length) sl38 zv51 rfl (by decide) rfl rfl rfl (fun u hu=>(hk.st hu).sp) hone (by omega) (by omega) (fun _=>rfl) (fun _=>rfl) ?_;intro v52;refine Wd (Qa ?_);refine Ao 4 rfl ?_;refine Wk 0 (Cb rfl rfl ent9 (fun u hu=>HS c u (hu.ro (j:=3) rfl) hnc g (hW.st hu) ⟨v52,l.l⟩ ⟨AX hu (j:=0) rfl,fun _ _↦trivial⟩)) ?_;refine Wd (Qa ?_);refine Ar [5,6,7,8,9,10,11] ?_;refine Ae ?_;refine Qc (Cs (Nz 2 ?_));refine Wp ?_ ?_<;>intro hc2
 ·have hTn:¬(B1 c.p l.l).1=0:=by
   rcases hyP with⟨h1,h2⟩|⟨h1,h2,h3⟩|⟨h1,h2,_⟩
   ·exact TQ ((KR h1).resolve_left (by have h9:y.2=50:=hc2;omega))
   ·intro h4;obtain⟨d,hd,h5⟩:=h3;have h6:=(Rh h1 h4 hd).1;omega
   have h9:y.2=50:=hc2;omega
  refine Nz 3 ?_;refine Wt 0 rfl rfl (fun hg=>Cb rfl rfl ent6 (fun u hu=>EX u)) ?_;refine Wk 1 Pa ?_;exact Wd (Qc (Cr (Qr (out1 rfl rfl (Ab (by simp[hTn]))))))
 refine Ck (Qc (Cs (Nz 3 ?_)));refine We 0 ?_;refine Wf 0 rfl rfl (fun hg=>Nc (s:=y.1) (eg_ hg rfl)) ?_;refine We 0 ?_;refine Wk 0 Po ?_;refine Wp ?_ ?_<;>intro hc3
 ·refine Nz 0 ?_;refine Wk 1 (Cb rfl rfl ent6 (fun u hu=>EX u)) ?_;exact Wd (Qc (Cr (Qr (out1 rfl rfl retB))))
 have hy0:y.2=0:=by have h9:=hc3;first|exact h9.1|(simp at h9;exact h9.1)
 have hyl:(y.1.l.length:Int)≤100:=by have h9:=hc3;first|omega|(simp at h9;omega)
 obtain⟨hE,_,hS,X,d,hF,h00,j,hj1,hj2,hj3,hj4,hj5⟩:(Af c.p).1=0∧y.2=0∧(∀d,DR c d→0≤nth d 0)∧(∃X d,MzFacts c X d∧0≤nth d 0∧∃j,ShortW X.ed d 0 y.1.l j∧0≤j∧j<X.es.l.length∧nth d j=0∧(y.1.l.length:Int)=nth d 0):=by
  rcases hyP with⟨h1,h2⟩|⟨h1,h2,_⟩|h
  ·omega
  ·omega
  exact h
 have hyle:=hyk.le;have hds:DR c d:=hF.dist;refine Ck (Qc (Nz 1 ?_));refine Nv 1 ?_;refine Nu ?_;refine CS.loopM (σ:=Int×Int) (rsL [72,85]) (fun s=>[(14,.int .i64 s.1),(13,.int .i64 s.2)]) (fun _=>_) (fun s=>0≤s.1∧s.1≤l.l.length∧s.2=((l.l.take s.1.toNat).filter fun e:Entr=>decide (e.k=1)).length) (fun s=>(l.l.length-s.1).toNat) (0,0) (fun _ _=>rfl) rfl rfl ⟨by simp,by simp,by simp⟩ ?_;intro s t hs;obtain⟨hs1,hs2,hs3⟩:=hs;have hsf:((((l.l.take s.1.toNat).filter fun e:Entr=>decide (e.k=1)).length:Nat):Int)≤l.l.length:=by have h9:=List.length_filter_le (fun e:Entr=>decide (e.k=1)) (l.l.take s.1.toNat);have h8:=List.length_take_le s.1.toNat l.l;have h7:=List.length_take_le' s.1.toNat l.l;omega
 refine Cs (Nz 2 ?_);refine Wk 1 Nc ?_;refine Wp ?_ ?_<;>intro hc4
 ·refine Ck (Qc (Cs (Ce (Nz 2 ?_))));refine Wk 1 Xc ?_;refine Wk 1 (Uc 7 1) ?_;refine Wp ?_ ?_<;>intro hc5
  ·have hk1:(nth l.l s.1).k=1:=hc5;refine Ny 1 ?_;refine Wk 1 Za ?_;refine Wd (Qb (Qc (Ny 1 ?_)));refine Wk 1 Za ?_;exact Wd (QS.head ((s.1+1,s.2+1)) rfl rfl ⟨⟨by simp;omega,by simp;omega,by simp only;rw[AW hs1 (by omega),List.filter_append,List.length_append,List.filter_cons,if_pos (decide_eq_true hk1)];simp;omega⟩,by simp;omega⟩)
  have hk1:¬(nth l.l s.1).k=1:=hc5;refine Ck (Qb (Qc (Ny 1 ?_)));refine Wk 1 Za ?_;exact Wd (QS.head ((s.1+1,s.2)) rfl rfl ⟨⟨by simp;omega,by simp;omega,by simp only;rw[AW hs1 (by omega),List.filter_append,List.length_append,List.filter_cons,if_neg (by rw[decide_eq_false hk1];decide)];simp;omega⟩,by simp;omega⟩)
 refine Cv (Qe (Qe (Qx (Qc (Cs (Nz 3 ?_))))));refine Wj 0 ?_;refine Wj 0 ?_;refine Wt 0 rfl rfl (fun hg=>Nc (s:=y.1) (eg_ hg rfl)) ?_;refine Wj 0 ?_;refine Wk 0 Pa ?_;refine Wp ?_ ?_<;>intro hc6
 ·exfalso;have hta:l.l.take s.1.toNat=l.l:=List.take_of_length_le (by omega);rw[hta]at hs3;obtain⟨h61,h62⟩:(B1 c.p l.l).1=0∧s.2<(y.1.l.length:Int):=by have h9:=hc6;first|exact h9|(simp at h9;exact h9)
  have h63:=(Rh hE h61 hds).2;omega
 refine Ck (Qc (Nz 1 ?_));refine Nx 1 ?_;refine Nv 1 ?_;refine Nu ?_;refine CS.weak (fun _ hu=>hu.osl0 (e:=54) (size:=4)) ?_;refine CS.sel [0,1,1,1] rfl ?_;refine CS.loopM (σ:=Int×Int×Value×List Timed) (rsL [94,120]) (fun s=>[(17,.int .i64 s.1),(16,.int .i64 s.2.1),(15,s.2.2.1)]) (fun s=>[oT cTimed 54 s.2.2.1 s.2.2.2,roT cMove y.1,blk b7 (gcl c) 36,roS fun u=>GameOk u c]) (fun s=>0≤s.1∧s.1≤y.1.l.length∧(0≤s.2.1∧s.2.1≤1000*s.1)∧s.2.2.2.map Timed.m=y.1.l.take s.1.toNat∧TmOk 0 s.2.2.2∧HH 0 s.2.2.2=s.2.1∧(s.2.2.2.length:Int)=s.1) (fun s=>(y.1.l.length-s.1).toNat) (0,0,.slice none 0 0,[]) (fun _ _=>rfl) rfl rfl ⟨by simp,by simp,by simp,by simp,trivial,rfl,by simp⟩ ?_;intro a t hs;obtain⟨ha1,ha2,ha3,ha4,ha5,ha6,ha7⟩:=hs;refine Cs (Nz 2 ?_);refine Wk 1 (Nc (s:=y.1)) ?_;refine Wp ?_ ?_<;>intro hc7
 ·refine Ck (Qc (Cs (Ce (Cs (Nz 2 ?_)))));refine Wk 1 Na ?_;refine Wp ?_ ?_<;>intro hc8
  ·have hat:a.1<ts.length:=hc8;refine Ny 3 ?_;refine Wk 0 Xa ?_;refine Wk 0 Ia ?_;refine Wk 0 (V4 rfl rfl) ?_;refine Wk 0 (KE rfl rfl) ?_;refine Wk 1 Za ?_;refine Nw 4 ?_;refine Wk 0 (Xc (s:=y.1)) ?_;refine Wk 0 (Va 1 rfl) ?_;refine Wk 0 (Aw YW zv54 (pcs:=[(0,[_]),(1,[.int .i64 (nth y.1.l a.1).p,.int .i64 (nth y.1.l a.1).k,.int .i64 (nth y.1.l a.1).n])]) rfl (CellsOf.one rfl (CellsOf.agg CellsOf.nil)) rfl) ?_;refine WS.buildT1 cTimed (a:=⟨_,(nth y.1.l a.1)⟩) sl52 zv54 rfl (by decide) (fun _=>rfl) ?_;intro v119;refine WS.appendT1 (C:=cTimed) (a:=⟨_,(nth y.1.l a.1)⟩) (j:=1) (jz:=0) sl52 zv54 rfl (by decide) rfl rfl rfl rfl (w:=w) trivial (by omega) (by omega) (fun _=>rfl) (fun _=>rfl) ?_;intro v120 hv120;refine Wz 1 ?_;refine Wd (Qb (Qc (Ny 1 ?_)));refine Wk 1 Za ?_;refine Wd ?_;refine QS.sel [1,1,1,1] rfl ?_;exact QS.head ((a.1+1,a.2.1+min 1000 (max 0 (nth ts a.1)),v120,a.2.2.2++[⟨a.2.1+min 1000 (max 0 (nth ts a.1)),(nth y.1.l a.1)⟩])) rfl rfl ⟨⟨by simp only;omega,by simp only;omega,by simp only;omega,by simp only;rw[AW ha1 (by omega),List.map_append,ha4];rfl,ha5.snoc (by simp only;omega) (by simp only;omega),FD,by simp;omega⟩,by simp only;omega⟩
  refine Ck (Qc (Ny 4 ?_));refine Wk 0 (Xc (s:=y.1)) ?_;refine Wk 0 (Va 1 rfl) ?_;refine Wk 0 (Aw YW zv54 (pcs:=[(0,[_]),(1,[.int .i64 (nth y.1.l a.1).p,.int .i64 (nth y.1.l a.1).k,.int .i64 (nth y.1.l a.1).n])]) rfl (CellsOf.one rfl (CellsOf.agg CellsOf.nil)) rfl) ?_;refine WS.buildT1 cTimed (a:=⟨_,(nth y.1.l a.1)⟩) sl52 zv54 rfl (by decide) (fun _=>rfl) ?_;intro v119;refine WS.appendT1 (C:=cTimed) (a:=⟨_,(nth y.1.l a.1)⟩) (j:=1) (jz:=0) sl52 zv54 rfl (by decide) rfl rfl rfl rfl (w:=w) trivial (by omega) (by omega) (fun _=>rfl) (fun _=>rfl) ?_;intro v120 hv120;refine Wz 1 ?_;refine Wd (Qb (Qc (Ny 1 ?_)));refine Wk 1 Za ?_;refine Wd ?_;refine QS.sel [1,1,1,1] rfl ?_;exact QS.head ((a.1+1,a.2.1,v120,a.2.2.2++[⟨a.2.1,(nth y.1.l a.1)⟩])) rfl rfl ⟨⟨by simp only;omega,by simp only;omega,by simp only;omega,by simp only;rw[AW ha1 (by omega),List.map_append,ha4];rfl,ha5.snoc (by simp only;omega) (by simp only;omega),FD,by simp;omega⟩,by simp only;omega⟩
 refine Cv (Qe (Qe (Qx (Qc (Nz 0 ?_)))));refine Wk 1 (Bb 2) ?_;refine Wc rfl rfl Ja4 (fun u hu=>RC c u (hu.ro (j:=3) rfl) hnc g (hW.st hu) ⟨a.2.2.1,a.2.2.2⟩ ⟨AX hu (j:=0) rfl,fun _ _↦trivial⟩ (by show a.2.2.2.length≤1000;omega)) (fun _=>rfl) ?_;rintro v124 ⟨u124,h124⟩;refine Wz 7 ?_;refine Nv 2 ?_;refine Wp ?_ ?_<;>intro hc9
 ·refine Nz 0 ?_;refine Wk 1 (Cb rfl rfl ent6 (fun u hu=>EX u)) ?_;exact Wd (Qc (Cr (Qr (out1 rfl rfl retB))))
 have hta9:y.1.l.take a.1.toNat=y.1.l:=List.take_of_length_le (by omega);rw[hta9]at ha4;have hb9:=Ta hE hF (tl:=a.2.2.2) (by rw[ha4];exact hj1) (by rw[←hj5,←ha4,List.length_map]) ha5;have hR0:(AB c.p a.2.2.2).1=0:=hb9.1.resolve_right hc9;obtain⟨hT1,hT2,hT3⟩:=hb9.2 hR0;refine Ck (Qc (Nz 0 ?_));refine Wk 1 (Bb 3) ?_;refine Wk 7 (Cb rfl rfl ent9 (fun u hu=>HS c u (hu.ro (j:=4) rfl) hnc g (hW.st hu) ⟨v124,_⟩ (hu.ro (j:=0) rfl))) ?_;refine Nx 0 ?_;refine Wk 1 (Bb 3) ?_;refine WS.callE rfl rfl Z0 (fun u hu=>RO c u (hu.ro (j:=4) rfl) hnc g (hW.st hu) (D2 ht hu) ⟨v124,_⟩ (hu.ro (j:=0) rfl)) (fun _=>rfl) ?_;intro nW hnW;refine Wz 5 ?_;refine Nx 0 ?_;refine Wk 0 (Bb 3) ?_;refine WS.callE rfl rfl Jbh (fun u hu=>Qp c u (hu.ro (j:=4) rfl) hnc g (hW.st hu) (D2 ht hu) hE hS) (fun _=>rfl) ?_;intro rr hrr;refine Wz 5 ?_;refine Nv 3 ?_;refine We 0 ?_;refine We 0 ?_;refine Wk 1 Po ?_;refine We 0 ?_;refine We 0 ?_;refine Wk 1 Po ?_;refine We 0 ?_;refine We 0 ?_;refine Wk 0 Po ?_;refine Wp ?_ ?_<;>intro hc10
 ·exfalso;rw[hT1,hT2,hR0]at hc10;simp at hc10
 refine Ck (Qc (Nz 4 ?_));refine Wj 0 ?_;refine Wj 0 ?_;refine Wk 1 Pa ?_;refine Wj 0 ?_;refine Wj 0 ?_;refine Wk 1 Pa ?_;refine Wj 0 ?_;refine Wj 0 ?_;refine Wt 0 rfl rfl (fun hg=>Nc (s:=y.1) (eg_ hg rfl)) ?_;refine Wj 0 ?_;refine Wk 1 Pa ?_;refine Wt 0 rfl rfl (fun hg=>Cb rfl rfl ent6 (fun u hu=>EX u)) ?_;refine Wk 1 Pa ?_;refine Wd (Qc (Cr ?_))
 exact out1 rfl rfl (Ab (by
    obtain⟨X2,d2,hF2,r0,r1⟩:=hrr;have h1:=hT3 nW hnW;rw[hF2.dist.uniq hds]at r1;simp only[hT1,ha6,h1]
    simp;omega))
end Go.Proofs.YtmoojmgihdgceaaGreatDoor
