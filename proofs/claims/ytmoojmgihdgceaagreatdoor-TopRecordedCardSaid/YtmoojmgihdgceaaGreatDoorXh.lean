/- Merged texts of this proof (walks and plain laws), printed by a program of the prover. -/
import Derived.Test.YtmoojmgihdgceaaGreatDoorXg
set_option maxHeartbeats 8000000
namespace Go.Proofs.YtmoojmgihdgceaaGreatDoor
open Go.RowKit Go.Proofs Tryz
set_option maxRecDepth 100000
set_option linter.unusedVariables false
set_option linter.unusedSimpArgs false
def dT (l:List Int):ByteArray:=ba (spL (l.map fun n:Int=>Lib.decDigits n.toNat))
theorem WD (x:PX):keyR x=dT (keyN x):=rfl
theorem UY (a b:List Int):dT (a++b)=dT a++dT b:=by
 unfold dT;rw[List.map_append,Hh,DO]
theorem IL (a:List Int) (n:Int):dT (a++[n])=dT a++digB n++(⟨#[32]⟩:ByteArray):=by
 have e:dT [n]=digB n++(⟨#[32]⟩:ByteArray):=by
  show ba (Lib.decDigits n.toNat++[32]++[])=ba (Lib.decDigits n.toNat)++ba [32];rw[DO,List.append_nil]
 rw[UY,e,ByteArray.append_assoc]
theorem Zh:∀{l:List Int},(∀n∈l,0≤n∧n≤100)→(dT l).size≤110*l.length
 |[],_=>by decide
 |n::l,h=>by
  have e:dT (n::l)=dT [n]++dT l:=UY [n] l
  have e1:dT [n]=digB n++(⟨#[32]⟩:ByteArray):=by
   show ba (Lib.decDigits n.toNat++[32]++[])=ba (Lib.decDigits n.toNat)++ba [32];rw[DO,List.append_nil]
  have h1:=h n (by simp);have h2:=Zh (l:=l) fun m hm=>h m (by simp[hm]);have h3:(⟨#[32]⟩:ByteArray).size=1:=rfl;have h4:=EM n;rw[e,e1,ByteArray.size_append,ByteArray.size_append,List.length_cons];omega
theorem VH {G:Game} {x:PX} (h:posG G.p x=0):(∀n∈keyN x,0≤n∧n≤100)∧(keyN x).length≤100:=by
 obtain⟨a,b,r,c⟩:=E9 h;have:=r.lens;have:=r.ply;have:=a.lt;have:=a.lp;have:=a.ll
 have ht:(Gj x.2).length≤x.2.length:=by
  have:=Eu (p:=fun i=>nth x.2 i) (n:=x.2.length) (by omega);unfold Gj;omega
 refine⟨fun n hn=>?_,?_⟩
 ·unfold keyN at hn;rcases List.mem_append.1 hn with hn|hn
  ·have:=Mw h n hn;omega
  rcases List.mem_append.1 hn with hn|hn
  ·obtain⟨k,hk,rfl⟩:=List.mem_map.1 hn;have:=Mz h k hk;omega
  rcases List.mem_append.1 hn with hn|hn
  ·have:=L5 h n hn;omega
  have:=EZ.1 hn;omega
 unfold keyN;simp only[List.length_append,List.length_map];omega
theorem Ud {G:Game} {x:PX} (h:posG G.p x=0) {a b:List Int} (hk:keyN x=a++b):(dT a).size≤11000:=by
 obtain⟨h1,h2⟩:=VH h;have h3:=Zh (l:=a) fun n hn=>h1 n (by rw[hk];exact List.mem_append_left _ hn);rw[hk,List.length_append]at h2;omega
theorem OW {n:Int} {p:Int→Bool} (h0:0≤n):filI (n+1) p=if p n=true then filI n p++[n]else filI n p:=by
 split
 ·rename_i h;exact(ET h0 h).symm
 rename_i h;exact(GG h0 (by simpa using h)).symm
theorem VN {x:PX} {s:Nat}:∃b,keyN x=x.1.1.take s++b:=⟨x.1.1.drop s++(x.1.2.1.map (fun n=>n+10)++(x.1.2.2++Gj x.2)),by rw[←List.append_assoc,List.take_append_drop];rfl⟩
theorem WI {x:PX} {s:Nat}:∃b,keyN x=(x.1.1++(x.1.2.1.map (fun n=>n+10)).take s)++b:=⟨(x.1.2.1.map (fun n=>n+10)).drop s++(x.1.2.2++Gj x.2),by rw[List.append_assoc,←List.append_assoc (List.take _ _),List.take_append_drop];rfl⟩
theorem VL {x:PX} {s:Nat}:∃b,keyN x=(x.1.1++(x.1.2.1.map (fun n=>n+10)++x.1.2.2.take s))++b:=⟨x.1.2.2.drop s++Gj x.2,by
 rw[List.append_assoc,List.append_assoc,←List.append_assoc (List.take _ _),List.take_append_drop];rfl⟩
theorem QA {p:Int→Bool}:∀(k:Nat) (n:Int),0≤n→∃b,filI (n+k) p=filI n p++b
 |0,n,_=>⟨[],by simp⟩
 |k+1,n,h=>by
  obtain⟨b,hb⟩:=QA (p:=p) k n h;have e:n+((k+1:Nat):Int)=n+k+1:=by omega
  rw[e,OW (by omega),hb];split
  ·exact⟨b++[n+k],by rw[List.append_assoc]⟩
  exact⟨b,rfl⟩
theorem V2 {x:PX} {s:Int} (h0:0≤s) (h1:s≤x.2.length):∃b,keyN x=(x.1.1++(x.1.2.1.map (fun n=>n+10)++(x.1.2.2++filI s fun i=>nth x.2 i)))++b:=by
 obtain⟨b,hb⟩:=QA (p:=fun i=>nth x.2 i) (x.2.length-s.toNat) s h0;rw[show s+((x.2.length-s.toNat:Nat):Int)=x.2.length by omega]at hb;refine⟨b,?_⟩;unfold keyN Gj;rw[hb];simp only[List.append_assoc]
theorem MQ (m:Nat):∀(n:Int) (w:World),n.toNat≤m→0≤n∧n≤1000000→
  Calls prog 86 #[.int .i64 n] w (RetB w (.string (digB n))):=by
 refine Nat.strongRecOn (motive:=fun m=>∀(n:Int) (w:World),n.toNat≤m→0≤n∧n≤1000000→Calls prog 86 #[.int .i64 n] w (RetB w (.string (digB n)))) m ?_;intro m ih n w hm h;have hs1:=EM (n/10);have hs2:=EM (n%10);refine En func86 ?_;refine Nz 1 ?_;refine Nx 1 ?_;refine Wk 1 (GT rfl rfl (by omega) (by omega)) ?_;refine Wk 0 (GT rfl rfl (by omega) (by omega)) ?_;refine Wk 0 Za ?_;refine Wk 1 (RA underlying9 rfl rfl rfl (by show _∧_∧_≤((10:Nat):Int);omega)) ?_;refine Nv 2 ?_;refine Wp ?_ ?_<;>intro hc1
 ·refine Nz 2 ?_;exact Wd (Qc (Cr (Qr (out1 rfl rfl (Ab (by rw[K5 (by omega),show n%10=n by omega]))))))
 refine Ck (Qc (Nz 1 ?_));refine Wk 0 (OE rfl rfl (by omega) (by omega) (by omega)) ?_;refine Wk 1 (Cb rfl rfl Qw (fun u hu=>ih (n/10).toNat (by omega) (n/10) u (Nat.le_refl _) (by omega))) ?_;refine Wk 1 (BL rfl rfl (by rw[K5 (by omega)];omega)) ?_;exact Wd (Qc (Cr (out1 rfl rfl (Ab (by rw[K5 (by omega),←Qu (by omega)])))))
theorem Rs (G:Game) (p:Pos) (w:World) (hp:PosOk w p) (hq:posG G.p p.x=0):
  Calls prog 52 #[.agg #[p.st.ths.v,p.st.prs.v,p.st.pls.v,p.rd.v]] w (RetB w (.string (keyR p.x))):=by
 obtain⟨pa,pb,pc,pd⟩:=E9 hq;have plens:=pc.lens;have pply:=pc.ply;have pl1:p.st.ths.l.length=G.rm.ths.l.length:=pa.lt;have pl2:p.st.prs.l.length=G.rm.prs.l.length:=pa.lp;have pl3:(p.st.pls.l.length:Int)=G.rm.ply:=pa.ll;have hth:=hp.st.ths.ints;have hpr:=hp.st.prs.ints;have hpl:=hp.st.pls.ints;have hrd:=hp.rd;have hlp:(p.st.prs.l.map fun n:Int=>n+10).length=p.st.prs.l.length:=List.length_map _;have hd3:(⟨#[32]⟩:ByteArray).size=1:=rfl;have hrl:p.rd.l.length≤16:=by obtain⟨_,b,_,c⟩:=E9 hq;have:p.rd.l.length=G.nts.l.length:=b;omega
 refine En func52 ?_;refine Nz 0 ?_;refine Wr 1 fun b1 hb1=>?_;refine Nx 1 ?_;refine Nv 1 ?_;refine Nu ?_;refine CS.loopM (σ:=Int) (rsL [8,25]) (fun s=>[(4,.int .i64 s),(3,.string (dT (p.st.ths.l.take s.toNat)))]) (fun _=>_) (fun s=>0≤s∧s≤p.st.ths.l.length) (fun s=>(p.st.ths.l.length-s).toNat) 0 (fun _ _=>rfl) rfl rfl ⟨by omega,by omega⟩ ?_;intro s t hs;obtain⟨hs1,hs2⟩:=hs;refine Cs (Nz 3 ?_);refine Wk 0 (Ba 0) ?_;refine Wk 1 Na ?_;refine Wp ?_ ?_<;>intro hc1
 ·have hnb:=Mw hq _ (Ad hs1 (show s<(p.x.1.1.length:Int)from hc1));have hnb2:0≤nth p.st.ths.l s∧nth p.st.ths.l s≤5:=hnb;have hkz:(dT (p.st.ths.l.take s.toNat)).size≤11000:=(VN (x:=p.x) (s:=s.toNat)).elim fun _ e=>Ud hq e;have hdz:=EM (nth p.st.ths.l s);refine Ck (Qc (Cs (Ce (Ny 3 ?_))));refine Wk 1 (Ba 0) ?_;refine Wk 0 Xa ?_;refine Wk 0 Ia ?_;refine Wk 0 (Cb rfl rfl Qw (fun u hu=>MQ _ _ u (Nat.le_refl _) (by omega))) ?_;refine Wk 0 (BL rfl rfl (by omega)) ?_;refine Wk 1 (BL rfl rfl (by rw[ByteArray.size_append];omega)) ?_;refine Wd (Qb (Qc (Ny 1 ?_)));refine Wk 1 Za ?_;exact Wd (QS.head (s+1) (by rw[AW hs1 (by omega),IL];rfl) rfl ⟨⟨by omega,by omega⟩,by omega⟩)
 have hse:s.toNat=p.st.ths.l.length:=by omega
 rewrite [hse,List.take_length]
 refine Cv (Qe (Qe (Qx (Qc (Cs (Nz 1 ?_))))));refine Nu ?_;refine CS.loopM (σ:=Int) (rsL [26,44]) (fun s=>[(5,.int .i64 s),(3,.string (dT (p.st.ths.l++(p.st.prs.l.map fun n:Int=>n+10).take s.toNat)))]) (fun _=>_) (fun s=>0≤s∧s≤p.st.prs.l.length) (fun s=>(p.st.prs.l.length-s).toNat) 0 (fun _ _=>rfl) (by simp;rfl) rfl ⟨by omega,by omega⟩ ?_;intro s t hs;obtain⟨hs1,hs2⟩:=hs;refine Cs (Nz 3 ?_);refine Wk 0 (Ba 0) ?_;refine Wk 1 Na ?_;refine Wp ?_ ?_<;>intro hc2
 ·have hnb:=Mz hq _ (Ad hs1 (show s<(p.x.1.2.1.length:Int)from hc2));have hnb2: -5≤nth p.st.prs.l s∧nth p.st.prs.l s≤7:=hnb;have hkz:(dT (p.st.ths.l++(p.st.prs.l.map fun n:Int=>n+10).take s.toNat)).size≤11000:=(WI (x:=p.x) (s:=s.toNat)).elim fun _ e=>Ud hq e;have hdz:=EM (nth p.st.prs.l s+10);have hn10:nth (p.st.prs.l.map fun n:Int=>n+10) s=nth p.st.prs.l s+10:=Gw (fun n:Int=>n+10) hs1 hc2;refine Ck (Qc (Cs (Ce (Ny 3 ?_))));refine Wk 1 (Ba 0) ?_;refine Wk 0 Xa ?_;refine Wk 0 Ia ?_;refine Wk 0 Za ?_;refine Wk 0 (Cb rfl rfl Qw (fun u hu=>MQ _ _ u (Nat.le_refl _) (by omega))) ?_;refine Wk 0 (BL rfl rfl (by omega)) ?_;refine Wk 1 (BL rfl rfl (by rw[ByteArray.size_append];omega)) ?_;refine Wd (Qb (Qc (Ny 1 ?_)));refine Wk 1 Za ?_;exact Wd (QS.head (s+1) (by rw[AW hs1 (by omega),←List.append_assoc,IL,hn10];rfl) rfl ⟨⟨by omega,by omega⟩,by omega⟩)
 have hse:s.toNat=(p.st.prs.l.map fun n:Int=>n+10).length:=by omega
 rewrite [hse,List.take_length]
 refine Cv (Qe (Qe (Qx (Qc (Cs (Nz 1 ?_))))));refine Nu ?_;refine CS.loopM (σ:=Int) (rsL [45,62]) (fun s=>[(6,.int .i64 s),(3,.string (dT (p.st.ths.l++((p.st.prs.l.map fun n:Int=>n+10)++p.st.pls.l.take s.toNat))))]) (fun _=>_) (fun s=>0≤s∧s≤p.st.pls.l.length) (fun s=>(p.st.pls.l.length-s).toNat) 0 (fun _ _=>rfl) (by simp;rfl) rfl ⟨by omega,by omega⟩ ?_;intro s t hs;obtain⟨hs1,hs2⟩:=hs;refine Cs (Nz 3 ?_);refine Wk 0 (Ba 0) ?_;refine Wk 1 Na ?_;refine Wp ?_ ?_<;>intro hc3
 ·have hnb:=L5 hq _ (Ad hs1 (show s<(p.x.1.2.2.length:Int)from hc3));have hnb2:0≤nth p.st.pls.l s∧nth p.st.pls.l s≤7:=hnb;have hkz:(dT (p.st.ths.l++((p.st.prs.l.map fun n:Int=>n+10)++p.st.pls.l.take s.toNat))).size≤11000:=(VL (x:=p.x) (s:=s.toNat)).elim fun _ e=>Ud hq e;have hdz:=EM (nth p.st.pls.l s);refine Ck (Qc (Cs (Ce (Ny 3 ?_))));refine Wk 1 (Ba 0) ?_;refine Wk 0 Xa ?_;refine Wk 0 Ia ?_;refine Wk 0 (Cb rfl rfl Qw (fun u hu=>MQ _ _ u (Nat.le_refl _) (by omega))) ?_;refine Wk 0 (BL rfl rfl (by omega)) ?_;refine Wk 1 (BL rfl rfl (by rw[ByteArray.size_append];omega)) ?_;refine Wd (Qb (Qc (Ny 1 ?_)));refine Wk 1 Za ?_;exact Wd (QS.head (s+1) (by rw[AW hs1 (by omega),←List.append_assoc,←List.append_assoc,IL,List.append_assoc];rfl) rfl ⟨⟨by omega,by omega⟩,by omega⟩)
 have hse:s.toNat=p.st.pls.l.length:=by omega
 rewrite [hse,List.take_length]
 refine Cv (Qe (Qe (Qx (Qc (Cs (Nz 1 ?_))))));refine Nu ?_;refine CS.loopM (σ:=Int) (rsL [63,79]) (fun s=>[(7,.int .i64 s),(3,.string (dT (p.st.ths.l++((p.st.prs.l.map fun n:Int=>n+10)++(p.st.pls.l++filI s fun i=>nth p.rd.l i)))))]) (fun _=>_) (fun s=>0≤s∧s≤p.rd.l.length) (fun s=>(p.rd.l.length-s).toNat) 0 (fun _ _=>rfl) (by simp[filI,Ca];rfl) rfl ⟨by omega,by omega⟩ ?_;intro s t hs;obtain⟨hs1,hs2⟩:=hs;refine Cs (Nz 2 ?_);refine Wk 0 (Ba 0) ?_;refine Wk 1 Nc ?_;refine Wp ?_ ?_<;>intro hc4
 ·have hkz:(dT (p.st.ths.l++((p.st.prs.l.map fun n:Int=>n+10)++(p.st.pls.l++filI s fun i=>nth p.rd.l i)))).size≤11000:=(V2 (x:=p.x) hs1 hs2).elim fun _ e=>Ud hq e;have hdz:=EM s;refine Ck (Qc (Cs (Ce (Nz 1 ?_))));refine Wk 1 (Ba 0) ?_;refine Wk 0 Xc ?_;refine Wk 0 Ub ?_;refine Wp ?_ ?_<;>intro hc5
  ·have hf9:dT (p.st.ths.l++((p.st.prs.l.map fun n:Int=>n+10)++(p.st.pls.l++filI (s+1) fun i=>nth p.rd.l i)))=dT (p.st.ths.l++((p.st.prs.l.map fun n:Int=>n+10)++(p.st.pls.l++filI s fun i=>nth p.rd.l i)))++digB s++(⟨#[32]⟩:ByteArray):=by
    rw[←ET hs1 hc5,←IL];simp only[List.append_assoc]
   refine Ny 2 ?_;refine Wk 0 (Cb rfl rfl Qw (fun u hu=>MQ _ _ u (Nat.le_refl _) (by omega))) ?_;refine Wk 0 (BL rfl rfl (by omega)) ?_;refine Wk 1 (BL rfl rfl (by rw[ByteArray.size_append];omega)) ?_;refine Wd (Qb (Qc (Ny 1 ?_)));refine Wk 1 Za ?_;exact Wd (QS.head (s+1) (by rw[hf9];rfl) rfl ⟨⟨by omega,by omega⟩,by omega⟩)
  have hf9:dT (p.st.ths.l++((p.st.prs.l.map fun n:Int=>n+10)++(p.st.pls.l++filI (s+1) fun i=>nth p.rd.l i)))=dT (p.st.ths.l++((p.st.prs.l.map fun n:Int=>n+10)++(p.st.pls.l++filI s fun i=>nth p.rd.l i))):=by rw[←GG hs1 hc5]
  refine Ck (Qb (Qc (Ny 1 ?_)));refine Wk 1 Za ?_;exact Wd (QS.head (s+1) (by rw[hf9];rfl) rfl ⟨⟨by omega,by omega⟩,by omega⟩)
 refine Cv (Qe (Qe (Qx (Qc (Nz 2 ?_)))));exact Wd (Qc (Cr (out1 rfl rfl (Ab (by rw[WD];unfold keyN Gj;rw[show s=p.rd.l.length by omega];rfl)))))
theorem Oi (G:Game) (w:World) (hG:GameOk w G) (hn:NearG G):
  Calls prog 19 #[.agg (gcl G).toArray] w (RetG w (Af G.p).2 fun v=>.tuple #[v,.int .i64 (Af G.p).1]):=by
 refine En func19 ?_;refine Nz 0 ?_;refine Wr 0 fun b1 hb1=>?_;refine Wq 1 zv69 fun b2 hb2=>?_;refine Nx 0 ?_;refine Wk 0 (Bb 1) ?_;refine Wc rfl rfl Ja3 (fun u hu=>SO G u (hG.st hu) hn) (fun _=>rfl) ?_;rintro y ⟨hyx,uy,hyok⟩;obtain⟨hya,hyb,hyc⟩:=hyok.st.ones;have hyd:=Sl.one hyok.rd;refine Wz 3 ?_;refine Wq 0 zv98 fun b4 hb4=>?_;refine Wv 1 0 ?_;refine Nv 2 ?_;refine Wp ?_ ?_<;>intro hc1
 ·have hB:¬(Ac G.p).1=0:=hc1;refine Nz 0 ?_;refine Wk 1 (Db Pz zv69) ?_;refine Wv 1 2 ?_;refine Wd (Qc (Cr (Qr ?_)))
  exact outR (Bx rfl (Au (j:=2) rfl rfl tk69) rfl) (by
    rw[RG hB]
    exact fun u hu=>Sd (f:=fun v=>.tuple #[v,.int .i64 (Ac G.p).1]) hu)
 have hB:(Ac G.p).1=0:=by first|exact hc1|simpa using hc1
 have hB0:=CC hB;have hyq:posG G.p y.x=0:=by rw[hyx];exact hB0
 have hcl:∀x,posG G.p x=0→∀m∈Ai G.p x,posG G.p (AM G.p x m)=0:=fun x hx m hm=>Er hx hm;refine Ck (Qc (Nz 0 ?_));refine Wk 0 (Bb 0) ?_;refine WS.buildT1 cPos (a:=y) sl66 zv98 rfl (by decide) (fun _=>rfl) ?_;intro v25;refine WS.oc (j:=0) rfl (fun hv25=>?_);refine Wk 0 (Db Pz zv69) ?_;refine Wq 0 zv69 fun b6 hb6=>?_;refine Wv 0 0 ?_;refine Nx 0 ?_;refine WS.makeMapX (fun _=>rfl) ?_;intro b27 hb27;refine Wk 0 (Bb 3) ?_;refine Wk 0 (Cb rfl rfl VR (fun u hu=>Rs G y u (hu.ro (j:=4) rfl) hyq)) ?_;refine WS.insX underlying129 underlying9 rfl (j:=0) rfl rfl rfl rfl rfl ?_
 rewrite [show updX (fun _=>none) (keyR y.x) 0=Cd keyR ([y].map Pos.x)from(Da (key:=keyR) (ps:=[]) (q:=y.x) rfl).symm]
 refine Wz 2 ?_;refine Nv 1 ?_;refine Nu ?_;refine CS.sel [4,1,1,0,1,1] rfl ?_;refine CS.weak (fun u hu=>((hu.roMap (q:=fun u=>∀p∈[y],PosOk u p) (fun u h p hp=>by rw[List.mem_singleton.1 hp];exact h)).osl0 (e:=112) (size:=1)).roTrue (p:=fun u=>∀e∈([]:List (Sl EdgeD)),SlT cEdge u e) (fun u e he=>by cases he)) ?_;refine CS.sel [3,3,3,1,1,0,0,0] rfl ?_;refine CS.loopM (σ:=Int×Value×List Pos×Value×List (Sl EdgeD)) (rsL [3,3,9,14,31,101]) (fun s=>[(8,.int .i64 s.1)]) (fun s=>[blk b6 [s.2.1,s.2.2.2.1] 69,oT cPos 98 s.2.1 s.2.2.1,mapX b27 (Cd keyR (s.2.2.1.map Pos.x)),oT (cSl cEdge) 112 s.2.2.2.1 s.2.2.2.2,(roS fun u=>∀p∈s.2.2.1,PosOk u p),(roS fun u=>∀e∈s.2.2.2.2,SlT cEdge u e),blk b2 [.slice none 0 0,.slice none 0 0] 69,blk b1 (gcl G) 36]) (fun s=>0≤s.1∧s.1≤s.2.2.1.length∧s.2.1.oneCell'=true∧s.2.2.2.1.oneCell'=true∧expN G.p (Ac G.p).2 s.1.toNat=some (s.2.2.1.map Pos.x,s.2.2.2.2.map Sl.l)) (fun s=>(3000-s.1).toNat) (0,v25,[y],.slice none 0 0,[]) (fun _ _=>rfl) rfl rfl ⟨by simp,by simp,hv25,rfl,by rw[show(Ac G.p).2=y.x from hyx.symm];rfl⟩ ?_;intro a t hs;obtain⟨ha1,ha2,ha3,ha4,ha5⟩:=hs;obtain⟨hgr,hgl⟩:=Jq hcl hB0 ha5;have hlim:=hgr.pk.lim;rw[List.length_map]at hlim;rw[List.length_map,List.length_map]at hgl;refine Cs (Nz 2 ?_);refine Wk 0 (Ba 0) ?_;refine Wk 1 (BG (C:=cPos) (j:=1) sl66 rfl rfl) ?_;refine Wp ?_ ?_<;>intro hc2
 ·have ham:(nth a.2.2.1 a.1)∈a.2.2.1:=Ad ha1 (by omega);have haq:posG G.p (nth a.2.2.1 a.1).x=0:=hgr.pk.ok _ (List.mem_map_of_mem ham);have haP:=BJ haq;have hmn:=Ho haP;have hax:nth (a.2.2.1.map Pos.x) (a.1.toNat:Int)=(nth a.2.2.1 a.1).x:=by rw[show((a.1.toNat:Nat):Int)=a.1 by omega,Gz]
  refine Ck (Qc (Cs (Ce (Cs ?_))));refine CS.drawnAll (k:=8) mixed rfl rfl ?_;refine Ak 0 [1] rfl (Bb 7) ?_;refine Ak 2 [3] rfl (Ba 0) ?_;refine Ak 4 [] rfl (AQ (C:=cPos) (j:=1) sl66 rfl rfl rfl rfl (by omega) (by omega)) ?_;refine Ak 5 [] rfl (Eb (C:=cPos) (j:=1) (cs:=[(nth a.2.2.1 a.1).st.ths.v,(nth a.2.2.1 a.1).st.prs.v,(nth a.2.2.1 a.1).st.pls.v,(nth a.2.2.1 a.1).rd.v]) rfl rfl rfl ⟨by omega,by omega⟩ rfl tk98) ?_;refine Ao 6 rfl ?_;refine Wc rfl rfl ZZ (fun u hu=>Su G u (hG.st hu) hn (nth a.2.2.1 a.1) (hu.ro (j:=4) rfl _ ham) haP) (fun _=>rfl) ?_;rintro vm ⟨um,hmok⟩;refine Wd (Qa ?_);refine Ar [7] ?_;refine Ae ?_;refine Qc (Nz 1 ?_);refine Nv 1 ?_;refine Nu ?_;refine CS.weak (fun _ hu=>hu.osl0 (e:=114) (size:=4)) ?_;refine CS.sel [0,1,1,1,1,1,1,0,0,0] rfl ?_;refine CS.loopM (σ:=Int×Value×List Pos×Value×List EdgeD) (rsL [3,3,12,14,45,95]) (fun s=>[(11,.int .i64 s.1),(10,s.2.2.2.1)]) (fun s=>[oT cEdge 114 s.2.2.2.1 s.2.2.2.2,blk b6 [s.2.1,a.2.2.2.1] 69,oT cPos 98 s.2.1 s.2.2.1,mapX b27 (Cd keyR (s.2.2.1.map Pos.x)),oT (cSl cEdge) 112 a.2.2.2.1 a.2.2.2.2,(roS fun u=>∀p∈s.2.2.1,PosOk u p),(roS fun u=>∀e∈a.2.2.2.2,SlT cEdge u e),roT cMove ⟨vm,(Ai G.p (nth a.2.2.1 a.1).x)⟩,blk b2 [.slice none 0 0,.slice none 0 0] 69,blk b1 (gcl G) 36]) (fun s=>0≤s.1∧s.1≤(Ai G.p (nth a.2.2.1 a.1).x).length∧s.2.1.oneCell'=true∧(∃t,s.2.2.1=a.2.2.1++t)∧edgN G.p (nth a.2.2.1 a.1).x (a.2.2.1.map Pos.x) s.1.toNat=some (s.2.2.1.map Pos.x,s.2.2.2.2)∧s.2.2.2.1.oneCell'=true) (fun s=>((Ai G.p (nth a.2.2.1 a.1).x).length-s.1).toNat) (0,a.2.1,a.2.2.1,.slice none 0 0,[]) (fun _ _=>rfl) rfl rfl ⟨by simp,by simp,ha3,⟨[],by simp⟩,rfl,rfl⟩ ?_;intro q t hs;obtain⟨hq1,hq2,hq3,hq4,hq5,hq6⟩:=hs;refine Cs (Nz 2 ?_);refine Wk 1 (Nc (s:=⟨vm,(Ai G.p (nth a.2.2.1 a.1).x)⟩)) ?_;refine Wp ?_ ?_<;>intro hc3
  ·have hqm:(nth (Ai G.p (nth a.2.2.1 a.1).x) q.1)∈(Ai G.p (nth a.2.2.1 a.1).x):=Ad hq1 (by omega);have hnp:=Er haq hqm;have hst:Ap G.p (nth a.2.2.1 a.1).x (nth (Ai G.p (nth a.2.2.1 a.1).x) q.1)=(0,(AM G.p (nth a.2.2.1 a.1).x (nth (Ai G.p (nth a.2.2.1 a.1).x) q.1))):=by unfold Ap;rw[if_pos haq,if_pos (Eh hqm)]
   obtain⟨hpre,hpl⟩:=Ej hq4 ha1 (show a.1<(a.2.2.1.length:Int) by omega);have hqm2:(nth a.2.2.1 a.1)∈q.2.2.1:=by rw[←hpre];exact Ad ha1 hpl
   obtain⟨hpk,hpt,hek⟩:=IZ hgr.pk (hcl _ haq) (show q.1.toNat≤(Ai G.p (nth a.2.2.1 a.1).x).length by omega) hq5;have hql:=hpk.lim;rw[List.length_map]at hql;have hqo:=hpk.ok;have hel:=congrArg List.length hek.mv;rw[List.length_map,List.length_take]at hel;refine Ck (Qc (Cs (Ce ?_)));refine CS.cut (σ:=Nat×Pos) [51,52,53,54,55,56,57,58,59,60,61] (fun s=>[(12,.pointer (some ⟨s.1,0,none⟩))]) (fun s=>[blk s.1 [s.2.st.ths.v,s.2.st.prs.v,s.2.st.pls.v,s.2.rd.v] 98,roS fun u=>PosOk u s.2,oT cEdge 114 q.2.2.2.1 q.2.2.2.2,blk b6 [q.2.1,a.2.2.2.1] 69,oT cPos 98 q.2.1 q.2.2.1,mapX b27 (Cd keyR (q.2.2.1.map Pos.x)),oT (cSl cEdge) 112 a.2.2.2.1 a.2.2.2.2,(roS fun u=>∀p∈q.2.2.1,PosOk u p),(roS fun u=>∀e∈a.2.2.2.2,SlT cEdge u e),roT cMove ⟨vm,(Ai G.p (nth a.2.2.1 a.1).x)⟩,blk b2 [.slice none 0 0,.slice none 0 0] 69,blk b1 (gcl G) 36]) (fun s=>s.2.x=(AM G.p (nth a.2.2.1 a.1).x (nth (Ai G.p (nth a.2.2.1 a.1).x) q.1))∧∃u0,PosOk u0 s.2) (fun _ _=>rfl) ?_ ?_
   ·refine CS.drawnTill 12 (k:=13) mixed rfl rfl ?_;refine Tk 13 0 [1] rfl (Bb 9) ?_;refine Tk 13 2 [3] rfl (Ba 1) ?_;refine Tk 13 4 [] rfl (AQ (C:=cPos) (j:=2) sl66 rfl rfl rfl rfl (by omega) (by omega)) ?_;refine Tk 13 5 [6,7] rfl (Eb (C:=cPos) (j:=2) (cs:=[(nth a.2.2.1 a.1).st.ths.v,(nth a.2.2.1 a.1).st.prs.v,(nth a.2.2.1 a.1).st.pls.v,(nth a.2.2.1 a.1).rd.v]) rfl rfl rfl ⟨by omega,by omega⟩ (by rw[hpre];rfl) tk98) ?_;refine Tk 13 8 [] rfl (Xc (s:=⟨vm,(Ai G.p (nth a.2.2.1 a.1).x)⟩)) ?_;refine Tk 13 9 [] rfl (CZ (jj:=7) (s:=⟨vm,(Ai G.p (nth a.2.2.1 a.1).x)⟩) rfl rfl rfl ⟨(by omega),(by omega)⟩ rfl tk49) ?_;refine AT.two (i:=10) (j:=11) (by kernel_rfl) rfl rfl (by first|(intro h;exact absurd h (by decide))|exact fun _ _ h=>h|exact fun _ _ h=>h.sub (by repeat first|exact List.Sublist.refl _|apply List.Sublist.cons_cons|apply List.Sublist.cons)) rfl rfl ?_ ?_
    ·refine Wc rfl rfl ZF (fun u hu=>QY G u (hG.st hu) (nth a.2.2.1 a.1) (hu.ro (j:=5) rfl _ hqm2) haP (nth (Ai G.p (nth a.2.2.1 a.1).x) q.1) (Eh hqm)) (fun _=>rfl) ?_;rintro z ⟨hzx,uz,hzok⟩;obtain⟨hza,hzb,hzc⟩:=hzok.st.ones;have hzd:=Sl.one hzok.rd;refine Wd (Qt ?_);refine To 11 rfl ?_;refine Wq 0 zv98 fun b12 hb12=>?_;refine Wd (Qt ?_);refine To 12 rfl ?_;refine Wv 0 0 ?_;refine Wd (Qt ?_);refine Te ?_;exact QS.head ((b12,z)) rfl rfl ⟨hzx,uz,hzok⟩
    refine Wq 0 zv98 fun b12 hb12=>?_;refine Wd (Qt ?_);refine To 10 rfl ?_;refine Wc rfl rfl ZF (fun u hu=>QY G u (hG.st hu) (nth a.2.2.1 a.1) (hu.ro (j:=6) rfl _ hqm2) haP (nth (Ai G.p (nth a.2.2.1 a.1).x) q.1) (Eh hqm)) (fun _=>rfl) ?_;rintro z ⟨hzx,uz,hzok⟩;obtain⟨hza,hzb,hzc⟩:=hzok.st.ones;have hzd:=Sl.one hzok.rd;refine Wd (Qt ?_);refine To 12 rfl ?_;refine Wv 0 1 ?_;refine Wd (Qt ?_);refine Te ?_;refine QS.sel [1,0,0,0,0,0,0,0,0,0,0,0] rfl ?_;exact QS.head ((b12,z)) rfl rfl ⟨hzx,uz,hzok⟩
   intro o t hs;obtain⟨hzx,uz,hzok⟩:=hs;have hzq:posG G.p o.2.x=0:=by rw[hzx];exact hnp
   have hmo:Cd keyR (q.2.2.1.map Pos.x) (keyR o.2.x)=(idxG (q.2.2.1.map Pos.x) o.2.x).map fun n:Nat=>(n:Int):=Mk (fun x hx h=>Si (MH (hqo _ hx) hzq) (LY (hqo _ hx)) (LY hzq) h);refine Nz 1 ?_;refine Wk 0 (Bb 0) ?_;refine Wk 0 (Cb rfl rfl VR (fun u hu=>Rs G o.2 u (hu.ro (j:=1) rfl) hzq)) ?_;refine Wk 5 (GB underlying129 underlying9 (by kernel_rfl) rfl (j:=5) rfl rfl) ?_;refine Nv 2 ?_;refine Wp ?_ ?_<;>intro hc4
   ·have hn9:idxG (q.2.2.1.map Pos.x) o.2.x=none:=by
     cases h9:idxG (q.2.2.1.map Pos.x) o.2.x with
     |none=>rfl
     |some n=>exfalso;rw[hmo,h9]at hc4;cases hc4
    obtain⟨o1,o2,o3⟩:=IP hn9;have hmo9:Cd keyR (q.2.2.1.map Pos.x) (keyR o.2.x)=none:=by rw[hmo,hn9];rfl
    have hln:((q.2.2.1.length:Nat):Int)=(numG (q.2.2.1.map Pos.x) o.2.x):=by rw[o2,List.length_map]
    refine Nz 1 ?_;refine Wk 0 (Ba 3) ?_;refine Wk 1 (BG (C:=cPos) (j:=4) sl66 rfl rfl) ?_;refine Nv 2 ?_;refine Wp ?_ ?_<;>intro hc5
    ·have hfu:Cc (q.2.2.1.map Pos.x) (AM G.p (nth a.2.2.1 a.1).x (nth (Ai G.p (nth a.2.2.1 a.1).x) q.1))=true:=by rw[←hzx,o3,List.length_map];exact decide_eq_true (by omega)
     refine Nz 0 ?_;refine Wk 0 (Db Pz zv69) ?_;refine Wv 1 10 ?_;refine Wd (Qc (Cr (Qr (Qr (Qs (Qr (Qr (Qs (Qr (Qs (Qr (Qr (Qs (Qr ?_))))))))))))))
     exact outR (Bx rfl (Au (j:=10) rfl rfl tk69) rfl) (by
       rw[MF hB ha5 (show a.1.toNat<_ by rw[List.length_map];omega) (show edgN _ _ _ q.1.toNat=_ by rw[hax];exact hq5) (by rw[hax];omega) (by rw[hax,show((q.1.toNat:Nat):Int)=q.1 by omega];exact hfu) (by rw[List.length_map];omega)]
       exact fun u hu=>Sd (f:=fun v=>.tuple #[v,.int .i64 2]) hu)
    have hfl:q.2.2.1.length≠3000:=by omega
    have hfu:Cc (q.2.2.1.map Pos.x) (AM G.p (nth a.2.2.1 a.1).x (nth (Ai G.p (nth a.2.2.1 a.1).x) q.1))=false:=by rw[←hzx,o3,List.length_map];exact decide_eq_false hfl
    have hup:updX (Cd keyR (q.2.2.1.map Pos.x)) (keyR o.2.x) (numG (q.2.2.1.map Pos.x) o.2.x)=Cd keyR ((q.2.2.1++[o.2]).map Pos.x):=by rw[List.map_append];have h9:=Da hmo9;rw[o2];exact h9.symm
    rewrite [hln]
    refine Ck (Qc (Nz 1 ?_));refine Wk 0 (Bb 0) ?_;refine Wk 1 (Cb rfl rfl VR (fun u hu=>Rs G o.2 u (hu.ro (j:=1) rfl) hzq)) ?_;refine WS.updX underlying129 underlying9 rfl (j:=5) rfl rfl rfl hmo9 rfl ?_
    rewrite [hup]
    refine Nw 1 ?_;refine Wk 0 (Ba 3) ?_;refine Wk 0 (Bb 0) ?_;refine WS.buildT1 cPos (a:=o.2) sl66 zv98 rfl (by decide) (fun _=>rfl) ?_;intro v84;refine WS.known (fun u hu=>(show PosOk u o.2 from hu.ro (j:=2) rfl).one4) fun hz4=>?_;refine WS.appendT2 (C:=cPos) (a:=o.2) (j:=5) (jz:=0) sl66 zv98 rfl (by decide) rfl rfl rfl rfl hz4 (by omega) (by omega) (fun _=>rfl) (fun _=>rfl) ?_;intro v85 hv85;refine Wz 1 ?_;refine Ws 0 4 ?_;refine Nw 3 ?_;refine Wk 0 (Xc (s:=⟨vm,(Ai G.p (nth a.2.2.1 a.1).x)⟩)) ?_;refine Wk 1 (CZ (jj:=10) (s:=⟨vm,(Ai G.p (nth a.2.2.1 a.1).x)⟩) rfl rfl rfl ⟨(by omega),(by omega)⟩ rfl tk49) ?_;refine Wk 0 (Aw PO FO (pcs:=[(0,[.int .i64 (nth (Ai G.p (nth a.2.2.1 a.1).x) q.1).p,.int .i64 (nth (Ai G.p (nth a.2.2.1 a.1).x) q.1).k,.int .i64 (nth (Ai G.p (nth a.2.2.1 a.1).x) q.1).n]),(1,[.int .i64 (numG (q.2.2.1.map Pos.x) o.2.x)])]) rfl (CellsOf.agg (CellsOf.one rfl CellsOf.nil)) rfl) ?_;refine WS.buildT1 cEdge (a:=⟨(nth (Ai G.p (nth a.2.2.1 a.1).x) q.1),(numG (q.2.2.1.map Pos.x) o.2.x)⟩) Nl FO rfl (by decide) (fun _=>rfl) ?_;intro v94;refine WS.appendT1 (C:=cEdge) (a:=⟨(nth (Ai G.p (nth a.2.2.1 a.1).x) q.1),(numG (q.2.2.1.map Pos.x) o.2.x)⟩) (j:=4) (jz:=0) Nl FO rfl (by decide) rfl rfl rfl rfl (w:=w) trivial (by omega) (by omega) (fun _=>rfl) (fun _=>rfl) ?_;intro v95 hv95;refine Wz 1 ?_;refine Wd (Qb (Qc (Ny 1 ?_)));refine Wk 1 Za ?_;refine Wd ?_;refine QS.sel [9,3,3,3,3,3,3,3,3,3,3] rfl ?_;refine QS.weak (fun u hu=>by have h9:=hu.addPro;rw[Et hn9 hfl]at h9;exact h9) ?_;refine QS.sel [1,1,1,1,1,0,0,0,0,0] rfl ?_;exact QS.head ((q.1+1,v85,q.2.2.1++[o.2],v95,q.2.2.2.2++[(⟨(nth (Ai G.p (nth a.2.2.1 a.1).x) q.1),(numG (q.2.2.1.map Pos.x) o.2.x)⟩:EdgeD)])) rfl rfl ⟨⟨by simp;omega,by simp;omega,hv85,(by obtain⟨t1,e1⟩:=hq4;exact⟨t1++[o.2],by simp only;rw[e1,List.append_assoc]⟩),(by have h9:=HC hq1 hq5 hzx hfu;rw[Et hn9 hfl,hzx,if_neg (by rw[hfu];decide),←hzx]at h9;exact h9),hv95⟩,by simp;omega⟩
   obtain⟨n9,hn9⟩:∃n,idxG (q.2.2.1.map Pos.x) o.2.x=some n:=by
    cases h9:idxG (q.2.2.1.map Pos.x) o.2.x with
    |some n=>exact⟨n,rfl⟩
    |none=>exfalso;rw[hmo,h9]at hc4;cases hc4
   obtain⟨o1,o2,o3⟩:=Jf hn9;have hfu:Cc (q.2.2.1.map Pos.x) (AM G.p (nth a.2.2.1 a.1).x (nth (Ai G.p (nth a.2.2.1 a.1).x) q.1))=false:=by rw[←hzx];exact o3
   have hgd:(Cd keyR (q.2.2.1.map Pos.x) (keyR o.2.x)).getD 0=(numG (q.2.2.1.map Pos.x) o.2.x):=by rw[hmo,hn9,o2];rfl
   rewrite [hgd]
   refine Ck (Qc (Ny 3 ?_));refine Wk 0 (Xc (s:=⟨vm,(Ai G.p (nth a.2.2.1 a.1).x)⟩)) ?_;refine Wk 1 (CZ (jj:=9) (s:=⟨vm,(Ai G.p (nth a.2.2.1 a.1).x)⟩) rfl rfl rfl ⟨(by omega),(by omega)⟩ rfl tk49) ?_;refine Wk 0 (Aw PO FO (pcs:=[(0,[.int .i64 (nth (Ai G.p (nth a.2.2.1 a.1).x) q.1).p,.int .i64 (nth (Ai G.p (nth a.2.2.1 a.1).x) q.1).k,.int .i64 (nth (Ai G.p (nth a.2.2.1 a.1).x) q.1).n]),(1,[.int .i64 (numG (q.2.2.1.map Pos.x) o.2.x)])]) rfl (CellsOf.agg (CellsOf.one rfl CellsOf.nil)) rfl) ?_;refine WS.buildT1 cEdge (a:=⟨(nth (Ai G.p (nth a.2.2.1 a.1).x) q.1),(numG (q.2.2.1.map Pos.x) o.2.x)⟩) Nl FO rfl (by decide) (fun _=>rfl) ?_;intro v94;refine WS.appendT1 (C:=cEdge) (a:=⟨(nth (Ai G.p (nth a.2.2.1 a.1).x) q.1),(numG (q.2.2.1.map Pos.x) o.2.x)⟩) (j:=3) (jz:=0) Nl FO rfl (by decide) rfl rfl rfl rfl (w:=w) trivial (by omega) (by omega) (fun _=>rfl) (fun _=>rfl) ?_;intro v95 hv95;refine Wz 1 ?_;refine Wd (Qb (Qc (Ny 1 ?_)));refine Wk 1 Za ?_;refine Wd ?_;refine QS.sel [3,3,3,3,3,3,3,3,3,3] rfl ?_;exact QS.head ((q.1+1,q.2.1,q.2.2.1,v95,q.2.2.2.2++[(⟨(nth (Ai G.p (nth a.2.2.1 a.1).x) q.1),(numG (q.2.2.1.map Pos.x) o.2.x)⟩:EdgeD)])) rfl rfl ⟨⟨by simp;omega,by simp;omega,hq3,hq4,(by have h9:=HC hq1 hq5 hzx hfu;rw[I2 hn9,hzx,if_neg (by rw[hfu];decide),←hzx]at h9;exact h9),hv95⟩,by simp;omega⟩
  have hqe:q.1.toNat=(Ai G.p (nth a.2.2.1 a.1).x).length:=by omega
  obtain⟨hpre,hpl⟩:=Ej hq4 ha1 (show a.1<(a.2.2.1.length:Int) by omega);rw[hqe]at hq5;refine Cv (Qe (Qe (Qx (Qc (Ny 1 ?_)))));refine Wk 1 (Ba 1) ?_;refine WS.buildSlice1 sl67 SE (vs:=[q.2.2.2.1]) rfl rfl (by decide) (fun v h=>by simp at h;subst h;exact hq6) (fun _=>rfl) ?_;intro v99;refine WS.appendT2 (C:=cSl cEdge) (a:=⟨q.2.2.2.1,q.2.2.2.2⟩) (j:=5) (jz:=0) sl67 SE rfl (by decide) rfl rfl rfl rfl (fun v h=>by simp[cSl]at h;subst h;exact hq6) (by omega) (by omega) (fun _=>rfl) (fun _=>rfl) ?_;intro v100 hv100;refine Wz 1 ?_;refine Ws 0 2 ?_;refine Wd (Qb (Qc (Ny 1 ?_)));refine Wk 1 Za ?_;refine Wd ?_;refine QS.sel [1,6,1,1,1,1,1,2,2] rfl ?_;refine QS.weak (fun u hu=>hu.addE) ?_;refine QS.sel [1,1,1,1,1,0,0,0] rfl ?_;exact QS.head ((a.1+1,q.2.1,q.2.2.1,v100,a.2.2.2.2++[(⟨q.2.2.2.1,q.2.2.2.2⟩:Sl EdgeD)])) rfl rfl ⟨⟨by simp;omega,by show a.1+1≤(q.2.2.1.length:Int);omega,hq3,hv100,Ju ha1 ha5 (by omega) hq5⟩,by simp;omega⟩
 have hev:=Om hB ha5 (show a.1.toNat=(a.2.2.1.map Pos.x).length by rw[List.length_map];omega) (by rw[List.length_map];omega);refine Cv (Qe (Qe (Qx (Qc (Nz 0 ?_)))));refine Wk 0 (Bb 0) ?_;refine Wv 1 6 ?_;refine Wd (Qc (Cr ?_))
 exact outR (Bx rfl (Au (j:=6) rfl rfl tk69) rfl) (by
   rw[hev]
   exact fun u hu=>retG (f:=fun v=>.tuple #[v,.int .i64 0]) (j1:=1) (j2:=3) (j3:=4) (j4:=5) rfl rfl rfl rfl rfl hu)
section
variable {fin:Int→Bool} {es:List (List EdgeD)}
theorem Rnd.init {d:List Int} (hl:d.length=es.length) (h:∀j:Int,0≤j→j<es.length→nth d j=if fin j=true then 0 else -1):Rnd fin es 0 0 d false:=by
 refine⟨hl,fun j a b c=>?_,fun j a b=>by omega,fun _ j a b=>by omega⟩;have hj:=h j c b
 by_cases hf:fin j=true
 ·rw[if_pos hf]at hj;rw[hj];exact .inr ⟨Int.le_refl _,by omega,hf,fun k hk=>by simp at hk⟩
 rw[if_neg hf]at hj;rw[hj];exact .inl ⟨rfl,by show fin j=false;simpa using hf⟩
def MidR (fin:Int→Bool) (es:List (List EdgeD)) (n:Nat) (i k:Int) (d:List Int) (ch:Bool):Prop:=
 (nth d i<0∧Rnd fin es n i d ch∧∀j:Int,0≤j→j<k→nth d (nth (nth es i) j).to≠n)∨(0≤nth d i∧Rnd fin es n (i+1) d ch)
theorem MidR.len {n:Nat} {i k:Int} {d:List Int} {ch:Bool} (h:MidR fin es n i k d ch):d.length=es.length:=h.elim (fun h=>h.2.1.len) fun h=>h.2.len
theorem MidR.start {n:Nat} {i:Int} {d:List Int} {ch:Bool} (h:Rnd fin es n i d ch) (h0:0≤i) (h1:i<es.length):MidR fin es n i 0 d ch:=by
 by_cases hd:nth d i<0
 ·exact .inl ⟨hd,h,fun j a b=>by omega⟩
 exact .inr ⟨by omega,h.old_ h0 h1 (by omega)⟩
theorem MidR.go {n:Nat} {i k:Int} {d:List Int} {ch:Bool} (h:MidR fin es n i k d ch) (hd:nth d i<0) (hk:nth d (nth (nth es i) k).to≠n):MidR fin es n i (k+1) d ch:=by
 rcases h with⟨a,b,c⟩|⟨a,_⟩
 ·refine .inl ⟨a,b,fun j j0 j1=>?_⟩
  by_cases hj:j=k
  ·rw[hj];exact hk
  exact c j j0 (by omega)
 omega
theorem MidR.end_ {n:Nat} {i k:Int} {d:List Int} {ch:Bool} (h:MidR fin es n i k d ch) (h0:0≤i) (h1:i<es.length) (ht:∀e∈nth es i,0≤e.to∧e.to<es.length) (hk:¬(k<(nth es i).length∧nth d i<0)):Rnd fin es n (i+1) d ch:=by
 rcases h with⟨a,b,c⟩|⟨_,b⟩
 ·refine b.miss h0 h1 a ht fun e he=>?_;obtain⟨j,hj,rfl⟩:=List.getElem_of_mem he;have h2:=c j (by omega) (by omega);have h9:=LN (xs:=nth es i) (i:=(j:Int)) (by omega) (by omega);rw[show((j:Int)).toNat=j by omega,List.getElem?_eq_getElem hj]at h9
  rwa [←Option.some.inj h9]at h2
 exact b
end
theorem HG (X:GraphD) (i:Int):nth X.ed i=(nth X.es.l i).l:=LO X.es.l i
theorem SB (X:GraphD) (i:Int):nth X.xs i=(nth X.ps.l i).x:=Gz X.ps.l i
theorem D1 (X:GraphD):X.ed.length=X.es.l.length:=List.length_map _
theorem UX (X:GraphD):X.xs.length=X.ps.l.length:=List.length_map _
end Go.Proofs.YtmoojmgihdgceaaGreatDoor
