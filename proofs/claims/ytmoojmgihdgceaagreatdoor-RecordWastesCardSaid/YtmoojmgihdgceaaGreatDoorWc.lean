/- Contracts of functions, printed by a program of the prover (gen.py). -/
import Derived.Test.YtmoojmgihdgceaaGreatDoorXk
import Derived.Test.YtmoojmgihdgceaaGreatDoorXd
set_option maxHeartbeats 8000000
namespace Go.Proofs.YtmoojmgihdgceaaGreatDoor
open Go.RowKit Go.Proofs Tryz
set_option maxRecDepth 100000
set_option linter.unusedVariables false
set_option linter.unusedSimpArgs false
/-- The error of Waste. -/
def WErr (P:GP) (l:List Entr):Int:=if(Jau P l).1=0 then(Jai P).1 else(Jau P l).1
/-- What Waste returns. -/
def WRes (P:GP) (l:List Entr) (n:Int):Prop:=(WErr P l=0→0≤n∧n≤500∧∃d:List Int,Jmt P (Jai P).2.1 (Jai P).2.2 d∧n=Je6 (dOf (Jai P).2.1 d) (Jad P).2 (Jek P l (Jbg P)))∧(¬WErr P l=0→n=0)
theorem WRes.uniq {P:GP} {l:List Entr} {a b:Int} (h:WRes P l a) (h2:WRes P l b):a=b:=by
 by_cases hz:WErr P l=0
 ·obtain⟨_,_,d,hd,e1⟩:=h.1 hz;obtain⟨_,_,d2,hd2,e2⟩:=h2.1 hz;rw[e1,e2,hd.uniq hd2]
 rw[h.2 hz,h2.2 hz]
theorem WErr.no {P:GP} {l:List Entr} (h:¬(Jau P l).1=0):WErr P l=(Jau P l).1:=if_neg h
theorem WErr.yes {P:GP} {l:List Entr} (h:(Jau P l).1=0):WErr P l=(Jai P).1:=if_pos h
theorem WErr.ok {P:GP} {l:List Entr} (h:WErr P l=0):(Jau P l).1=0∧(Jai P).1=0:=by
 by_cases h0:(Jau P l).1=0
 ·exact⟨h0,by rwa [WErr.yes h0]at h⟩
 rw[WErr.no h0]at h;exact absurd h h0
theorem WRes.zero {P:GP} {l:List Entr} (h:¬WErr P l=0):WRes P l 0:=⟨fun q=>absurd q h,fun _=>rfl⟩
/-- Who has finished has made at J3n as many moves beside the waste as the beginning is far. -/
theorem Jzx {G:Game} {l:List Entr} {n:Int} {d:List Int} (h0:(Jau G.p l).1=0) (hX:(Jai G.p).1=0) (ht:(Jed G.p l).1=0) (hn:WRes G.p l n) (hd:Jvo G d):0<d.length∧nth d 0≤((l.filter fun e:Entr=>decide (e.k=1)).length:Int)-n:=by
 obtain⟨_,_,d2,hd2,e1⟩:=hn.1 (by rw[WErr.yes h0];exact hX);have hdd:=hd2.uniq hd;subst hdd;obtain⟨hB,hgr⟩:=Jho hX;obtain⟨_,_,F,hR,hV⟩:=Jg4 h0;have hp0:=hgr.ok.pk.pos;have hx0:=hgr.ok.pk.first;have hi0:idxI (Jai G.p).2.1 (Jad G.p).2=0:=Jjp hgr.ok.pk.nd (by omega) (by omega) hx0;have hm0:(Jad G.p).2∈(Jai G.p).2.1:=by rw[←hx0];exact Jac (by omega) (by omega)
 have hen:¬F.en<0:=by
  have h9:¬(Jau G.p l).2.2.en<0:=fun q=>by rw[Jlo h0 q]at ht;cases ht
  rwa [hV]at h9
 have hfin:∃y∈(Jad G.p).2::Jek G.p l (Jbg G.p),Jdg G.p y=true:=by
  by_cases hdn:Jdg G.p (Jad G.p).2=true
  ·exact⟨_,by simp,hdn⟩
  have he0:(Jbg G.p).en = -1:=if_neg hdn;obtain⟨y,hy,hy2⟩:=Jmg l 0 0 (Jbg G.p) F hR (by rw[he0];decide) (by omega);exact⟨y,by simp[hy],hy2⟩
 obtain⟨_,h2⟩:=hgr.waste_ge hd _ (Jad G.p).2 hm0 (Jja l 0 0 (Jbg G.p) F (Jcz hB) hR) hfin;rw[Jnp l 0 0 (Jbg G.p) F hR,←e1]at h2;have e2:dOf (Jai G.p).2.1 d2 (Jad G.p).2=nth d2 0:=by unfold dOf;rw[hi0]
 rw[e2]at h2;exact⟨by rw[hd.len,hgr.len];exact hp0,h2⟩
theorem J19 (G:Game) (w:World) (hG:GameOk w G) (hn:NearG G) (g:Sl ByteArray) (hW:GOk w g) (ht:Lib.TabIs prog w "internal/strconv.uint64pow10" .u64 Lib.pow10Tab) (l:Sl Entr) (hk:SlT cEntry w l):Calls prog 11 #[.agg (gcl G).toArray,l.v] w (fun e w'=>∃n:Int,WRes G.p l.l n∧RetB w (.tuple #[.int .i64 n,.int .i64 (WErr G.p l.l)]) e w'):=by
 by_cases hE:(Jau G.p l.l).1=0
 ·by_cases hX:(Jai G.p).1=0
  ·refine(Jxz G w hG hn g hW ht l hk hE hX).mono ?_;rintro e w' ⟨n,h1,h2⟩;exact⟨n,⟨fun _=>h1,fun q=>absurd (by rw[WErr.yes hE];exact hX) q⟩,by rw[WErr.yes hE,hX];exact h2⟩
  refine(Jzk G w hG hn g hW ht l hk hE hX).mono ?_;rintro e w' h2;exact⟨0,WRes.zero (by rw[WErr.yes hE];exact hX),by rw[WErr.yes hE];exact h2⟩
 by_cases hB:(Jad G.p).1=0
 ·refine(J0b G w hG hn g hW ht l hk hE hB).mono ?_;rintro e w' h2;exact⟨0,WRes.zero (by rw[WErr.no hE];exact hE),by rw[WErr.no hE];exact h2⟩
 refine(J03 G w hG hn g hW ht l hk hB).mono ?_;rintro e w' h2;exact⟨0,WRes.zero (by rw[WErr.no hE];exact hE),by rw[WErr.no hE,Jrn hB];exact h2⟩
theorem J4p (G:Game) (w:World) (hG:GameOk w G) (hn:NearG G) (l:Sl Entr) (hk:SlT cEntry w l):Calls prog 15 #[.agg (gcl G).toArray,l.v] w (fun e w'=>∃n:Int,WRes G.p l.l n∧RetB w (.tuple #[.int .i64 n,.int .i64 (WErr G.p l.l)]) e w'):=by
 by_cases hE:(Jau G.p l.l).1=0
 ·by_cases hX:(Jai G.p).1=0
  ·refine(Jye G w hG hn l hk hE hX).mono ?_;rintro e w' ⟨n,h1,h2⟩;exact⟨n,⟨fun _=>h1,fun q=>absurd (by rw[WErr.yes hE];exact hX) q⟩,by rw[WErr.yes hE,hX];exact h2⟩
  refine(J07 G w hG hn l hk hE hX).mono ?_;rintro e w' h2;exact⟨0,WRes.zero (by rw[WErr.yes hE];exact hX),by rw[WErr.yes hE];exact h2⟩
 refine(J00 G w hG hn l hk hE).mono ?_;rintro e w' h2;exact⟨0,WRes.zero (by rw[WErr.no hE];exact hE),by rw[WErr.no hE];exact h2⟩
theorem J10 (G:Game) (w:World) (hG:GameOk w G) (hn:NearG G) (hE:¬(Jai G.p).1=0):
  Calls prog 16 #[.agg (gcl G).toArray] w (fun e w'=>∃y:Sl Int,(((Jai G.p).1=0→Jvo G y.l)∧∃u0,SlT cInt u0 y)∧RetF w (.tuple #[y.v,.int .i64 (Jai G.p).1]) (roT cInt y) e w'):=by
 refine En func16 ?_;refine Nz 0 ?_;refine Wr 2 fun b1 hb1=>?_;refine Nx 0 ?_;refine Wk 0 (Bb 0) ?_;refine Wc rfl rfl Jwy (fun u hu=>Jeo G u (hG.st hu) hn) (fun _=>rfl) ?_;rintro X ⟨hXv,uX,hX⟩;have oXp:=Sl.one hX.ps;have oXe:=Sl.one hX.es;refine Wz 3 ?_;refine Wq 0 zv69 fun b4 hb4=>?_;refine Wv 1 0 ?_;refine Nv 2 ?_;refine Wp ?_ ?_<;>intro hc1
 ·refine Nz 3 ?_;exact Wd (Qc (Cr (Qr (out2 rfl rfl rfl (fun u hu=>⟨⟨.slice none 0 0,[]⟩,⟨fun h=>absurd h hE,u,SlT.nil cInt u⟩,retR (fun S u h=>SlT.nil cInt u) u hu⟩)))))
 exact absurd hc1 hE
theorem J4m (G:Game) (w:World) (hG:GameOk w G) (hn:NearG G):Calls prog 16 #[.agg (gcl G).toArray] w (fun e w'=>∃y:Sl Int,(((Jai G.p).1=0→Jvo G y.l)∧∃u0,SlT cInt u0 y)∧RetF w (.tuple #[y.v,.int .i64 (Jai G.p).1]) (roT cInt y) e w'):=by
 by_cases hE:(Jai G.p).1=0
 ·refine(Jso G w hG hn hE).mono ?_;rintro e w' ⟨y,⟨h1,h2⟩,h3⟩;exact⟨y,⟨fun _=>h1,h2⟩,by rw[hE];exact h3⟩
 exact J10 G w hG hn hE
theorem J36 (G:Game) (w:World) (hG:GameOk w G):
  Calls prog 5 #[.agg (gcl G).toArray] w (fun e w'=>∃b:Bool,(b=false→clB (NearG G)=true)∧RetB w (.bool b) e w'):=by
 have klk:=hG.lks;have llk:=hG.lks.le;have kcd:=hG.cds;have lcd:=hG.cds.le;have knt:=hG.nts;have lnt:=hG.nts.le;have kpl:=hG.rm.pls;have lpl:=hG.rm.pls.le;have kth:=hG.rm.ths;have lth:=hG.rm.ths.le;have kac:=hG.rm.acs;have lac:=hG.rm.acs.le;have o1:=Sl.one hG.rm.pls;have o2:=Sl.one hG.rm.ths;have o3:=Sl.one hG.rm.prs;have o4:=Sl.one hG.rm.wys;have o5:=Sl.one hG.rm.acs;have o6:=Sl.one hG.rm.aus;have o7:=Sl.one hG.rm.gl;have o8:=Sl.one hG.lks;have o9:=Sl.one hG.cds;have o10:=Sl.one hG.nts;have kpr:=hG.rm.prs;have lpr:=hG.rm.prs.le;have kau:=hG.rm.aus;have lau:=hG.rm.aus.le;refine En func5 ?_;refine Nz 0 ?_;refine Wr 1 fun b1 hb1=>?_;refine Nx 1 ?_;refine Wk 0 (Bc 0) ?_;refine Wq 0 zv31 fun b3 hb3=>?_;refine Wv 0 0 ?_;refine Nv 0 ?_;refine Wk 0 (Bb 1) ?_;refine Wk 1 (Cb rfl rfl Kb9 (fun u hu=>J5r G u (hG.st hu))) ?_;refine We 0 ?_;refine Wf 0 rfl rfl (fun hg=>Cb rfl (ec_ (eg_ hg rfl) en_) J8v (fun u hu=>Jk9 G u (hG.st hu) (Jg5.1 (by simpa [bq]using hg)))) ?_;refine We 0 ?_;refine Wk 0 Po ?_;refine Wp ?_ ?_<;>intro hc1
 ·refine Nz 0 ?_;refine Wk 0 (Bb 1) ?_;refine Wk 1 (Cb rfl rfl Kb9 (fun u hu=>J5r G u (hG.st hu))) ?_;exact Wd (Qc (Cr (Qr (out1 rfl rfl (fun u hu=>⟨_,fun h=>by simpa using h,rfl,hu.below⟩)))))
 have hn:NearG G:=Jg5.1 hc1.1;refine Ck (Qc (Cs (Nz 1 ?_)));refine Wk 0 (Ba 0) ?_;refine Wk 2 Nc ?_;refine We 0 ?_;refine We 0 ?_;refine We 0 ?_;refine We 0 ?_;refine Wk 1 Po ?_;refine We 0 ?_;refine We 0 ?_;refine We 0 ?_;refine We 0 ?_;refine Wk 1 Po ?_;refine We 0 ?_;refine We 0 ?_;refine We 0 ?_;refine Wk 1 Po ?_;refine We 0 ?_;refine We 0 ?_;refine We 0 ?_;refine We 0 ?_;refine Wk 1 Po ?_;refine We 0 ?_;refine We 0 ?_;refine We 0 ?_;refine We 0 ?_;refine Wk 1 Po ?_;refine We 0 ?_;refine We 0 ?_;refine We 0 ?_;refine We 0 ?_;refine Wk 1 Po ?_;refine We 0 ?_;refine We 0 ?_;refine We 0 ?_;refine We 0 ?_;refine Wk 0 Po ?_;refine Wp ?_ ?_<;>intro hc2
 ·refine Nz 1 ?_;exact Wd (Qc (Cr (Qr (out1 rfl rfl (fun u hu=>⟨true,fun h=>(Bool.noConfusion h),rfl,hu.below⟩)))))
 refine Ck (Qc (Nz 0 ?_));refine Wk 0 (Bb 1) ?_;refine Wc rfl rfl Jwy (fun u hu=>Jeo G u (hG.st hu) hn) (fun _=>rfl) ?_;rintro X ⟨hXv,uX,hX⟩;have oXp:=Sl.one hX.ps;have oXe:=Sl.one hX.es;refine Wz 3 ?_;refine Wq 0 zv69 fun b4 hb4=>?_;refine Wv 1 0 ?_;refine Nx 3 ?_;refine We 0 ?_;refine We 0 ?_;refine Wf 0 rfl rfl (fun hg=>Jgm (s:=X.ps) sl66 (eg_ hg rfl) hX.ps) ?_;refine We 0 ?_;refine Wk 1 Po ?_;exact Wd (Qc (Cr (out1 rfl rfl (fun u hu=>⟨_,fun _=>Jg5.2 hn,rfl,hu.below⟩))))
theorem Jlg (G:Game) (w:World) (hG:GameOk w G) (g:Sl ByteArray) (hW:GOk w g) (ht:Lib.TabIs prog w "internal/strconv.uint64pow10" .u64 Lib.pow10Tab) (l:Sl Entr) (hk:SlT cEntry w l):
  Calls prog 4 #[.agg (gcl G).toArray,l.v] w (RetB w (.bool true)):=by
 have lls:=hk.le;refine En func4 ?_;refine Nz 0 ?_;refine Wr 1 fun b2 hb2=>?_;refine Nv 0 ?_;refine Wk 0 (Bb 0) ?_;refine WS.callE rfl rfl ent5 (fun u hu=>J36 G u (hG.st hu)) (fun _=>rfl) ?_;intro bL hbL;refine Wz 1 ?_;refine We 0 ?_;refine We 0 ?_;refine We 0 ?_;refine Wk 0 Po ?_;refine Wp ?_ ?_<;>intro hc1
 ·refine Nz 0 ?_;refine Wk 1 (Cb rfl rfl J9k (fun u hu=>Jmx u g (hW.st hu))) ?_;exact Wd (Qc (Cr (Qr (out1 rfl rfl retB))))
 have hbf:bL=false:=by first|exact hc1.1|(have h9:=hc1;simp at h9;exact h9.1)
 have hn:NearG G:=Jg5.1 (hbL hbf);refine Ck (Qc (Nz 0 ?_));refine Wk 0 (Bb 0) ?_;refine Wc rfl rfl ent7 (fun u hu=>Jyl G u (hG.st hu) hn) (fun _=>rfl) ?_;rintro c ⟨hcp,uc,hcok⟩;have hnc:=J1l hcp hn;have o1:=Sl.one hcok.rm.pls;have o2:=Sl.one hcok.rm.ths;have o3:=Sl.one hcok.rm.prs;have o4:=Sl.one hcok.rm.wys;have o5:=Sl.one hcok.rm.acs;have o6:=Sl.one hcok.rm.aus;have o7:=Sl.one hcok.rm.gl;have o8:=Sl.one hcok.lks;have o9:=Sl.one hcok.cds;have o10:=Sl.one hcok.nts;refine Wz 1 ?_;refine Wc rfl rfl Kds (fun u hu=>Jn4 l u (hk.st hu) (by omega)) (fun _=>rfl) ?_;rintro v28 ⟨u28,h28⟩;refine WS.callE rfl rfl Kev (fun u hu=>(by have q:=J19 c u (hu.ro (j:=1) rfl) hnc g (hW.st hu) (Jlf ht hu) ⟨v28,l.l⟩ (hu.ro (j:=0) rfl);rw[hcp]at q;exact q)) (fun _=>rfl) ?_;intro nA hnA;refine Wz 5 ?_;refine Nx 0 ?_;refine Wk 1 (Bb 2) ?_;refine WS.callE rfl rfl Kfg (fun u hu=>J4p G u (hG.st hu) hn l (hk.st hu)) (fun _=>rfl) ?_;intro nB hnB;refine Wz 5 ?_;refine Nv 4 ?_;refine We 0 ?_;refine We 0 ?_;refine We 0 ?_;refine Wk 0 Po ?_;refine Wp ?_ ?_<;>intro hc2
 ·exfalso;have h9:=hnA.uniq hnB;simp[h9]at hc2
 have hAB:nA=nB:=hnA.uniq hnB;refine Ck (Qc (Nz 0 ?_));refine Wk 0 (Bb 2) ?_;refine Wc rfl rfl ent7 (fun u hu=>Jyl G u (hG.st hu) hn) (fun _=>rfl) ?_;rintro c ⟨hcp,uc,hcok⟩;have hnc:=J1l hcp hn;have o1:=Sl.one hcok.rm.pls;have o2:=Sl.one hcok.rm.ths;have o3:=Sl.one hcok.rm.prs;have o4:=Sl.one hcok.rm.wys;have o5:=Sl.one hcok.rm.acs;have o6:=Sl.one hcok.rm.aus;have o7:=Sl.one hcok.rm.gl;have o8:=Sl.one hcok.lks;have o9:=Sl.one hcok.cds;have o10:=Sl.one hcok.nts;refine Wz 1 ?_;refine Wc rfl rfl Kds (fun u hu=>Jn4 l u (hk.st hu) (by omega)) (fun _=>rfl) ?_;rintro v50 ⟨u50,h50⟩;refine Wk 7 (Cb rfl rfl ent9 (fun u hu=>(by have q:=Jvg c u (hu.ro (j:=1) rfl) hnc g (hW.st hu) ⟨v50,l.l⟩ (hu.ro (j:=0) rfl);rw[hcp]at q;exact q))) ?_;refine Nx 0 ?_;refine Wk 0 (Bb 4) ?_;refine Wc rfl rfl Kb8 (fun u hu=>J4m G u (hG.st hu) hn) (fun _=>rfl) ?_;rintro d ⟨hd,ud,hdk⟩;refine Wz 5 ?_;refine Nv 3 ?_;refine We 0 ?_;refine We 0 ?_;refine Wk 1 Po ?_;refine We 0 ?_;refine We 0 ?_;refine Wk 0 Po ?_;refine Wp ?_ ?_<;>intro hc3
 ·refine Nz 0 ?_;refine Wk 1 (Cb rfl rfl J9k (fun u hu=>Jmx u g (hW.st hu))) ?_;exact Wd (Qc (Cr (Qr (out1 rfl rfl retB))))
 have hZ:WErr G.p l.l=0∧(Jed G.p l.l).1=0∧(Jai G.p).1=0:=by first|exact hc3|exact⟨hc3.1.1,hc3.1.2,hc3.2⟩|(have h9:=hc3;simp at h9;grind)
 obtain⟨hE,hX0⟩:=WErr.ok hZ.1;obtain⟨hl0,hlw⟩:=Jzx hE hX0 hZ.2.1 hnA (hd hX0);obtain⟨hw0,hw1,_⟩:=hnA.1 hZ.1;refine Ck (Qc (Nz 1 ?_));refine Nv 1 ?_;refine Nu ?_;refine CS.loopM (σ:=Int×Int) (rsL [71,84]) (fun s=>[(15,.int .i64 s.1),(14,.int .i64 s.2)]) (fun _=>_) (fun s=>0≤s.1∧s.1≤l.l.length∧s.2=((l.l.take s.1.toNat).filter fun e:Entr=>decide (e.k=1)).length) (fun s=>(l.l.length-s.1).toNat) (0,0) (fun _ _=>rfl) rfl rfl ⟨by simp,by simp,by simp⟩ ?_;intro s t hs;obtain⟨hs1,hs2,hs3⟩:=hs;have hsf:((((l.l.take s.1.toNat).filter fun e:Entr=>decide (e.k=1)).length:Nat):Int)≤l.l.length:=by have h9:=List.length_filter_le (fun e:Entr=>decide (e.k=1)) (l.l.take s.1.toNat);have h8:=List.length_take_le s.1.toNat l.l;have h7:=List.length_take_le' s.1.toNat l.l;omega
 refine Cs (Nz 2 ?_);refine Wk 1 Nc ?_;refine Wp ?_ ?_<;>intro hc4
 ·refine Ck (Qc (Cs (Ce (Nz 2 ?_))));refine Wk 1 Xc ?_;refine Wk 1 (Uc 7 1) ?_;refine Wp ?_ ?_<;>intro hc5
  ·have hk1:(nth l.l s.1).k=1:=hc5;refine Ny 1 ?_;refine Wk 1 Za ?_;refine Wd (Qb (Qc (Ny 1 ?_)));refine Wk 1 Za ?_;exact Wd (QS.head ((s.1+1,s.2+1)) rfl rfl ⟨⟨by simp;omega,by simp;omega,by simp only;rw[Jb0 hs1 (by omega),List.filter_append,List.length_append,List.filter_cons,if_pos (decide_eq_true hk1)];simp;omega⟩,by simp;omega⟩)
  have hk1:¬(nth l.l s.1).k=1:=hc5;refine Ck (Qb (Qc (Ny 1 ?_)));refine Wk 1 Za ?_;exact Wd (QS.head ((s.1+1,s.2)) rfl rfl ⟨⟨by simp;omega,by simp;omega,by simp only;rw[Jb0 hs1 (by omega),List.filter_append,List.length_append,List.filter_cons,if_neg (by rw[decide_eq_false hk1];decide)];simp;omega⟩,by simp;omega⟩)
 have hta:l.l.take s.1.toNat=l.l:=List.take_of_length_le (by omega);rw[hta]at hs3 hsf;refine Cv (Qe (Qe (Qx (Qc (Nz 2 ?_)))));refine Wk 1 Zb ?_;refine Wk 0 (Jcd (s:=d) (i:=0) sl37 rfl rfl hdk rfl (by decide) (by omega)) ?_;refine Wk 2 (Jda 0 (s:=d) (i:=0) rfl (fun _ h↦h) rfl rfl ⟨by decide,by omega⟩ rfl tk3) ?_;refine Wt 0 rfl rfl (fun hg=>Cb rfl rfl J9k (fun u hu=>Jmx u g (hW.st hu))) ?_;refine Wk 1 Pa ?_;exact Wd (Qc (Cr (out1 rfl rfl (Jab (by rw[hs3];simp;omega)))))
end Go.Proofs.YtmoojmgihdgceaaGreatDoor
