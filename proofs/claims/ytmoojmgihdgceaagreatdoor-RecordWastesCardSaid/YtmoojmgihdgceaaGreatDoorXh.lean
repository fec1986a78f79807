/- Merged texts of this proof (walks and plain laws), printed by a program of the prover. -/
import Derived.Test.YtmoojmgihdgceaaGreatDoorXg
set_option maxHeartbeats 8000000
namespace Go.Proofs.YtmoojmgihdgceaaGreatDoor
open Go.RowKit Go.Proofs Tryz
set_option maxRecDepth 100000
set_option linter.unusedVariables false
set_option linter.unusedSimpArgs false
def dT (l:List Int):ByteArray:=ba (spL (l.map fun n:Int=>Lib.decDigits n.toNat))
theorem J7o (x:PX):keyR x=dT (keyN x):=rfl
theorem J5z (a b:List Int):dT (a++b)=dT a++dT b:=by
 unfold dT;rw[List.map_append,Jkb,Jfq]
theorem Jm2 (a:List Int) (n:Int):dT (a++[n])=dT a++digB n++(⟨#[32]⟩:ByteArray):=by
 have e:dT [n]=digB n++(⟨#[32]⟩:ByteArray):=by
  show ba (Lib.decDigits n.toNat++[32]++[])=ba (Lib.decDigits n.toNat)++ba [32];rw[Jfq,List.append_nil]
 rw[J5z,e,ByteArray.append_assoc]
theorem Kdn:∀{l:List Int},(∀n∈l,0≤n∧n≤100)→(dT l).size≤110*l.length
 |[],_=>by decide
 |n::l,h=>by
  have e:dT (n::l)=dT [n]++dT l:=J5z [n] l
  have e1:dT [n]=digB n++(⟨#[32]⟩:ByteArray):=by
   show ba (Lib.decDigits n.toNat++[32]++[])=ba (Lib.decDigits n.toNat)++ba [32];rw[Jfq,List.append_nil]
  have h1:=h n (by simp);have h2:=Kdn (l:=l) fun m hm=>h m (by simp[hm]);have h3:(⟨#[32]⟩:ByteArray).size=1:=rfl;have h4:=Jg2 n;rw[e,e1,ByteArray.size_append,ByteArray.size_append,List.length_cons];omega
theorem J6y {G:Game} {x:PX} (h:posG G.p x=0):(∀n∈keyN x,0≤n∧n≤100)∧(keyN x).length≤100:=by
 obtain⟨a,b,r,c⟩:=Jhm h;have:=r.lens;have:=r.ply;have:=a.lt;have:=a.lp;have:=a.ll
 have ht:(Ji4 x.2).length≤x.2.length:=by
  have:=Jgq (p:=fun i=>nth x.2 i) (n:=x.2.length) (by omega);unfold Ji4;omega
 refine⟨fun n hn=>?_,?_⟩
 ·unfold keyN at hn;rcases List.mem_append.1 hn with hn|hn
  ·have:=Jrw h n hn;omega
  rcases List.mem_append.1 hn with hn|hn
  ·obtain⟨k,hk,rfl⟩:=List.mem_map.1 hn;have:=Juh h k hk;omega
  rcases List.mem_append.1 hn with hn|hn
  ·have:=Jtr h n hn;omega
  have:=Jhe.1 hn;omega
 unfold keyN;simp only[List.length_append,List.length_map];omega
theorem J22 {G:Game} {x:PX} (h:posG G.p x=0) {a b:List Int} (hk:keyN x=a++b):(dT a).size≤11000:=by
 obtain⟨h1,h2⟩:=J6y h;have h3:=Kdn (l:=a) fun n hn=>h1 n (by rw[hk];exact List.mem_append_left _ hn);rw[hk,List.length_append]at h2;omega
theorem Jzz {n:Int} {p:Int→Bool} (h0:0≤n):filI (n+1) p=if p n=true then filI n p++[n]else filI n p:=by
 split
 ·rename_i h;exact(Jh7 h0 h).symm
 rename_i h;exact(Jjz h0 (by simpa using h)).symm
theorem J7r {x:PX} {s:Nat}:∃b,keyN x=x.1.1.take s++b:=⟨x.1.1.drop s++(x.1.2.1.map (fun n=>n+10)++(x.1.2.2++Ji4 x.2)),by rw[←List.append_assoc,List.take_append_drop];rfl⟩
theorem J9p {x:PX} {s:Nat}:∃b,keyN x=(x.1.1++(x.1.2.1.map (fun n=>n+10)).take s)++b:=⟨(x.1.2.1.map (fun n=>n+10)).drop s++(x.1.2.2++Ji4 x.2),by rw[List.append_assoc,←List.append_assoc (List.take _ _),List.take_append_drop];rfl⟩
theorem J9i {x:PX} {s:Nat}:∃b,keyN x=(x.1.1++(x.1.2.1.map (fun n=>n+10)++x.1.2.2.take s))++b:=⟨x.1.2.2.drop s++Ji4 x.2,by
 rw[List.append_assoc,List.append_assoc,←List.append_assoc (List.take _ _),List.take_append_drop];rfl⟩
theorem Jzj {p:Int→Bool}:∀(k:Nat) (n:Int),0≤n→∃b,filI (n+k) p=filI n p++b
 |0,n,_=>⟨[],by simp⟩
 |k+1,n,h=>by
  obtain⟨b,hb⟩:=Jzj (p:=p) k n h;have e:n+((k+1:Nat):Int)=n+k+1:=by omega
  rw[e,Jzz (by omega),hb];split
  ·exact⟨b++[n+k],by rw[List.append_assoc]⟩
  exact⟨b,rfl⟩
theorem J68 {x:PX} {s:Int} (h0:0≤s) (h1:s≤x.2.length):∃b,keyN x=(x.1.1++(x.1.2.1.map (fun n=>n+10)++(x.1.2.2++filI s fun i=>nth x.2 i)))++b:=by
 obtain⟨b,hb⟩:=Jzj (p:=fun i=>nth x.2 i) (x.2.length-s.toNat) s h0;rw[show s+((x.2.length-s.toNat:Nat):Int)=x.2.length by omega]at hb;refine⟨b,?_⟩;unfold keyN Ji4;rw[hb];simp only[List.append_assoc]
theorem Jst (m:Nat):∀(n:Int) (w:World),n.toNat≤m→0≤n∧n≤1000000→
  Calls prog 86 #[.int .i64 n] w (RetB w (.string (digB n))):=by
 refine Nat.strongRecOn (motive:=fun m=>∀(n:Int) (w:World),n.toNat≤m→0≤n∧n≤1000000→Calls prog 86 #[.int .i64 n] w (RetB w (.string (digB n)))) m ?_;intro m ih n w hm h;have hs1:=Jg2 (n/10);have hs2:=Jg2 (n%10);refine En func86 ?_;refine Nz 1 ?_;refine Nx 1 ?_;refine Wk 1 (Jjm rfl rfl (by omega) (by omega)) ?_;refine Wk 0 (Jjm rfl rfl (by omega) (by omega)) ?_;refine Wk 0 Za ?_;refine Wk 1 (Jxj underlying9 rfl rfl rfl (by show _∧_∧_≤((10:Nat):Int);omega)) ?_;refine Nv 2 ?_;refine Wp ?_ ?_<;>intro hc1
 ·refine Nz 2 ?_;exact Wd (Qc (Cr (Qr (out1 rfl rfl (Jab (by rw[Jrb (by omega),show n%10=n by omega]))))))
 refine Ck (Qc (Nz 1 ?_));refine Wk 0 (Jwe rfl rfl (by omega) (by omega) (by omega)) ?_;refine Wk 1 (Cb rfl rfl Jw9 (fun u hu=>ih (n/10).toNat (by omega) (n/10) u (Nat.le_refl _) (by omega))) ?_;refine Wk 1 (Jcq rfl rfl (by rw[Jrb (by omega)];omega)) ?_;exact Wd (Qc (Cr (out1 rfl rfl (Jab (by rw[Jrb (by omega),←Jxd (by omega)])))))
theorem Jxe (G:Game) (p:Pos) (w:World) (hp:PosOk w p) (hq:posG G.p p.x=0):
  Calls prog 52 #[.agg #[p.st.ths.v,p.st.prs.v,p.st.pls.v,p.rd.v]] w (RetB w (.string (keyR p.x))):=by
 obtain⟨pa,pb,pc,pd⟩:=Jhm hq;have plens:=pc.lens;have pply:=pc.ply;have pl1:p.st.ths.l.length=G.rm.ths.l.length:=pa.lt;have pl2:p.st.prs.l.length=G.rm.prs.l.length:=pa.lp;have pl3:(p.st.pls.l.length:Int)=G.rm.ply:=pa.ll;have hth:=hp.st.ths.ints;have hpr:=hp.st.prs.ints;have hpl:=hp.st.pls.ints;have hrd:=hp.rd;have hlp:(p.st.prs.l.map fun n:Int=>n+10).length=p.st.prs.l.length:=List.length_map _;have hd3:(⟨#[32]⟩:ByteArray).size=1:=rfl;have hrl:p.rd.l.length≤16:=by obtain⟨_,b,_,c⟩:=Jhm hq;have:p.rd.l.length=G.nts.l.length:=b;omega
 refine En func52 ?_;refine Nz 0 ?_;refine Wr 1 fun b1 hb1=>?_;refine Nx 1 ?_;refine Nv 1 ?_;refine Nu ?_;refine CS.loopM (σ:=Int) (rsL [8,25]) (fun s=>[(4,.int .i64 s),(3,.string (dT (p.st.ths.l.take s.toNat)))]) (fun _=>_) (fun s=>0≤s∧s≤p.st.ths.l.length) (fun s=>(p.st.ths.l.length-s).toNat) 0 (fun _ _=>rfl) rfl rfl ⟨by omega,by omega⟩ ?_;intro s t hs;obtain⟨hs1,hs2⟩:=hs;refine Cs (Nz 3 ?_);refine Wk 0 (Ba 0) ?_;refine Wk 1 Na ?_;refine Wp ?_ ?_<;>intro hc1
 ·have hnb:=Jrw hq _ (Jac hs1 (show s<(p.x.1.1.length:Int)from hc1));have hnb2:0≤nth p.st.ths.l s∧nth p.st.ths.l s≤5:=hnb;have hkz:(dT (p.st.ths.l.take s.toNat)).size≤11000:=(J7r (x:=p.x) (s:=s.toNat)).elim fun _ e=>J22 hq e;have hdz:=Jg2 (nth p.st.ths.l s);refine Ck (Qc (Cs (Ce (Ny 3 ?_))));refine Wk 1 (Ba 0) ?_;refine Wk 0 Xa ?_;refine Wk 0 Ia ?_;refine Wk 0 (Cb rfl rfl Jw9 (fun u hu=>Jst _ _ u (Nat.le_refl _) (by omega))) ?_;refine Wk 0 (Jcq rfl rfl (by omega)) ?_;refine Wk 1 (Jcq rfl rfl (by rw[ByteArray.size_append];omega)) ?_;refine Wd (Qb (Qc (Ny 1 ?_)));refine Wk 1 Za ?_;exact Wd (QS.head (s+1) (by rw[Jb0 hs1 (by omega),Jm2];rfl) rfl ⟨⟨by omega,by omega⟩,by omega⟩)
 have hse:s.toNat=p.st.ths.l.length:=by omega
 rewrite [hse,List.take_length]
 refine Cv (Qe (Qe (Qx (Qc (Cs (Nz 1 ?_))))));refine Nu ?_;refine CS.loopM (σ:=Int) (rsL [26,44]) (fun s=>[(5,.int .i64 s),(3,.string (dT (p.st.ths.l++(p.st.prs.l.map fun n:Int=>n+10).take s.toNat)))]) (fun _=>_) (fun s=>0≤s∧s≤p.st.prs.l.length) (fun s=>(p.st.prs.l.length-s).toNat) 0 (fun _ _=>rfl) (by simp;rfl) rfl ⟨by omega,by omega⟩ ?_;intro s t hs;obtain⟨hs1,hs2⟩:=hs;refine Cs (Nz 3 ?_);refine Wk 0 (Ba 0) ?_;refine Wk 1 Na ?_;refine Wp ?_ ?_<;>intro hc2
 ·have hnb:=Juh hq _ (Jac hs1 (show s<(p.x.1.2.1.length:Int)from hc2));have hnb2: -5≤nth p.st.prs.l s∧nth p.st.prs.l s≤7:=hnb;have hkz:(dT (p.st.ths.l++(p.st.prs.l.map fun n:Int=>n+10).take s.toNat)).size≤11000:=(J9p (x:=p.x) (s:=s.toNat)).elim fun _ e=>J22 hq e;have hdz:=Jg2 (nth p.st.prs.l s+10);have hn10:nth (p.st.prs.l.map fun n:Int=>n+10) s=nth p.st.prs.l s+10:=Jjc (fun n:Int=>n+10) hs1 hc2;refine Ck (Qc (Cs (Ce (Ny 3 ?_))));refine Wk 1 (Ba 0) ?_;refine Wk 0 Xa ?_;refine Wk 0 Ia ?_;refine Wk 0 Za ?_;refine Wk 0 (Cb rfl rfl Jw9 (fun u hu=>Jst _ _ u (Nat.le_refl _) (by omega))) ?_;refine Wk 0 (Jcq rfl rfl (by omega)) ?_;refine Wk 1 (Jcq rfl rfl (by rw[ByteArray.size_append];omega)) ?_;refine Wd (Qb (Qc (Ny 1 ?_)));refine Wk 1 Za ?_;exact Wd (QS.head (s+1) (by rw[Jb0 hs1 (by omega),←List.append_assoc,Jm2,hn10];rfl) rfl ⟨⟨by omega,by omega⟩,by omega⟩)
 have hse:s.toNat=(p.st.prs.l.map fun n:Int=>n+10).length:=by omega
 rewrite [hse,List.take_length]
 refine Cv (Qe (Qe (Qx (Qc (Cs (Nz 1 ?_))))));refine Nu ?_;refine CS.loopM (σ:=Int) (rsL [45,62]) (fun s=>[(6,.int .i64 s),(3,.string (dT (p.st.ths.l++((p.st.prs.l.map fun n:Int=>n+10)++p.st.pls.l.take s.toNat))))]) (fun _=>_) (fun s=>0≤s∧s≤p.st.pls.l.length) (fun s=>(p.st.pls.l.length-s).toNat) 0 (fun _ _=>rfl) (by simp;rfl) rfl ⟨by omega,by omega⟩ ?_;intro s t hs;obtain⟨hs1,hs2⟩:=hs;refine Cs (Nz 3 ?_);refine Wk 0 (Ba 0) ?_;refine Wk 1 Na ?_;refine Wp ?_ ?_<;>intro hc3
 ·have hnb:=Jtr hq _ (Jac hs1 (show s<(p.x.1.2.2.length:Int)from hc3));have hnb2:0≤nth p.st.pls.l s∧nth p.st.pls.l s≤7:=hnb;have hkz:(dT (p.st.ths.l++((p.st.prs.l.map fun n:Int=>n+10)++p.st.pls.l.take s.toNat))).size≤11000:=(J9i (x:=p.x) (s:=s.toNat)).elim fun _ e=>J22 hq e;have hdz:=Jg2 (nth p.st.pls.l s);refine Ck (Qc (Cs (Ce (Ny 3 ?_))));refine Wk 1 (Ba 0) ?_;refine Wk 0 Xa ?_;refine Wk 0 Ia ?_;refine Wk 0 (Cb rfl rfl Jw9 (fun u hu=>Jst _ _ u (Nat.le_refl _) (by omega))) ?_;refine Wk 0 (Jcq rfl rfl (by omega)) ?_;refine Wk 1 (Jcq rfl rfl (by rw[ByteArray.size_append];omega)) ?_;refine Wd (Qb (Qc (Ny 1 ?_)));refine Wk 1 Za ?_;exact Wd (QS.head (s+1) (by rw[Jb0 hs1 (by omega),←List.append_assoc,←List.append_assoc,Jm2,List.append_assoc];rfl) rfl ⟨⟨by omega,by omega⟩,by omega⟩)
 have hse:s.toNat=p.st.pls.l.length:=by omega
 rewrite [hse,List.take_length]
 refine Cv (Qe (Qe (Qx (Qc (Cs (Nz 1 ?_))))));refine Nu ?_;refine CS.loopM (σ:=Int) (rsL [63,79]) (fun s=>[(7,.int .i64 s),(3,.string (dT (p.st.ths.l++((p.st.prs.l.map fun n:Int=>n+10)++(p.st.pls.l++filI s fun i=>nth p.rd.l i)))))]) (fun _=>_) (fun s=>0≤s∧s≤p.rd.l.length) (fun s=>(p.rd.l.length-s).toNat) 0 (fun _ _=>rfl) (by simp[filI,Jdx];rfl) rfl ⟨by omega,by omega⟩ ?_;intro s t hs;obtain⟨hs1,hs2⟩:=hs;refine Cs (Nz 2 ?_);refine Wk 0 (Ba 0) ?_;refine Wk 1 Nc ?_;refine Wp ?_ ?_<;>intro hc4
 ·have hkz:(dT (p.st.ths.l++((p.st.prs.l.map fun n:Int=>n+10)++(p.st.pls.l++filI s fun i=>nth p.rd.l i)))).size≤11000:=(J68 (x:=p.x) hs1 hs2).elim fun _ e=>J22 hq e;have hdz:=Jg2 s;refine Ck (Qc (Cs (Ce (Nz 1 ?_))));refine Wk 1 (Ba 0) ?_;refine Wk 0 Xc ?_;refine Wk 0 Ub ?_;refine Wp ?_ ?_<;>intro hc5
  ·have hf9:dT (p.st.ths.l++((p.st.prs.l.map fun n:Int=>n+10)++(p.st.pls.l++filI (s+1) fun i=>nth p.rd.l i)))=dT (p.st.ths.l++((p.st.prs.l.map fun n:Int=>n+10)++(p.st.pls.l++filI s fun i=>nth p.rd.l i)))++digB s++(⟨#[32]⟩:ByteArray):=by
    rw[←Jh7 hs1 hc5,←Jm2];simp only[List.append_assoc]
   refine Ny 2 ?_;refine Wk 0 (Cb rfl rfl Jw9 (fun u hu=>Jst _ _ u (Nat.le_refl _) (by omega))) ?_;refine Wk 0 (Jcq rfl rfl (by omega)) ?_;refine Wk 1 (Jcq rfl rfl (by rw[ByteArray.size_append];omega)) ?_;refine Wd (Qb (Qc (Ny 1 ?_)));refine Wk 1 Za ?_;exact Wd (QS.head (s+1) (by rw[hf9];rfl) rfl ⟨⟨by omega,by omega⟩,by omega⟩)
  have hf9:dT (p.st.ths.l++((p.st.prs.l.map fun n:Int=>n+10)++(p.st.pls.l++filI (s+1) fun i=>nth p.rd.l i)))=dT (p.st.ths.l++((p.st.prs.l.map fun n:Int=>n+10)++(p.st.pls.l++filI s fun i=>nth p.rd.l i))):=by rw[←Jjz hs1 hc5]
  refine Ck (Qb (Qc (Ny 1 ?_)));refine Wk 1 Za ?_;exact Wd (QS.head (s+1) (by rw[hf9];rfl) rfl ⟨⟨by omega,by omega⟩,by omega⟩)
 refine Cv (Qe (Qe (Qx (Qc (Nz 2 ?_)))));exact Wd (Qc (Cr (out1 rfl rfl (Jab (by rw[J7o];unfold keyN Ji4;rw[show s=p.rd.l.length by omega];rfl)))))
theorem Jeo (G:Game) (w:World) (hG:GameOk w G) (hn:NearG G):
  Calls prog 19 #[.agg (gcl G).toArray] w (RetG w (Jai G.p).2 fun v=>.tuple #[v,.int .i64 (Jai G.p).1]):=by
 refine En func19 ?_;refine Nz 0 ?_;refine Wr 0 fun b1 hb1=>?_;refine Wq 1 zv69 fun b2 hb2=>?_;refine Nx 0 ?_;refine Wk 0 (Bb 1) ?_;refine Wc rfl rfl Kbw (fun u hu=>Jrx G u (hG.st hu) hn) (fun _=>rfl) ?_;rintro y ⟨hyx,uy,hyok⟩;obtain⟨hya,hyb,hyc⟩:=hyok.st.ones;have hyd:=Sl.one hyok.rd;refine Wz 3 ?_;refine Wq 0 zv98 fun b4 hb4=>?_;refine Wv 1 0 ?_;refine Nv 2 ?_;refine Wp ?_ ?_<;>intro hc1
 ·have hB:¬(Jad G.p).1=0:=hc1;refine Nz 0 ?_;refine Wk 1 (Db Jwu zv69) ?_;refine Wv 1 2 ?_;refine Wd (Qc (Cr (Qr ?_)))
  exact outR (Jb4 rfl (Jam (j:=2) rfl rfl tk69) rfl) (by
    rw[Jys hB]
    exact fun u hu=>J41 (f:=fun v=>.tuple #[v,.int .i64 (Jad G.p).1]) hu)
 have hB:(Jad G.p).1=0:=by first|exact hc1|simpa using hc1
 have hB0:=Jcz hB;have hyq:posG G.p y.x=0:=by rw[hyx];exact hB0
 have hcl:∀x,posG G.p x=0→∀m∈Jae G.p x,posG G.p (Ja6 G.p x m)=0:=fun x hx m hm=>Jfb hx hm;refine Ck (Qc (Nz 0 ?_));refine Wk 0 (Bb 0) ?_;refine WS.buildT1 cPos (a:=y) sl66 zv98 rfl (by decide) (fun _=>rfl) ?_;intro v25;refine WS.oc (j:=0) rfl (fun hv25=>?_);refine Wk 0 (Db Jwu zv69) ?_;refine Wq 0 zv69 fun b6 hb6=>?_;refine Wv 0 0 ?_;refine Nx 0 ?_;refine WS.makeMapX (fun _=>rfl) ?_;intro b27 hb27;refine Wk 0 (Bb 3) ?_;refine Wk 0 (Cb rfl rfl J8t (fun u hu=>Jxe G y u (hu.ro (j:=4) rfl) hyq)) ?_;refine WS.insX underlying129 underlying9 rfl (j:=0) rfl rfl rfl rfl rfl ?_
 rewrite [show updX (fun _=>none) (keyR y.x) 0=Jdf keyR ([y].map Pos.x)from(Jep (key:=keyR) (ps:=[]) (q:=y.x) rfl).symm]
 refine Wz 2 ?_;refine Nv 1 ?_;refine Nu ?_;refine CS.sel [4,1,1,0,1,1] rfl ?_;refine CS.weak (fun u hu=>((hu.roMap (q:=fun u=>∀p∈[y],PosOk u p) (fun u h p hp=>by rw[List.mem_singleton.1 hp];exact h)).osl0 (e:=112) (size:=1)).roTrue (p:=fun u=>∀e∈([]:List (Sl EdgeD)),SlT Jca u e) (fun u e he=>by cases he)) ?_;refine CS.sel [3,3,3,1,1,0,0,0] rfl ?_;refine CS.loopM (σ:=Int×Value×List Pos×Value×List (Sl EdgeD)) (rsL [3,3,9,14,31,101]) (fun s=>[(8,.int .i64 s.1)]) (fun s=>[blk b6 [s.2.1,s.2.2.2.1] 69,oT cPos 98 s.2.1 s.2.2.1,mapX b27 (Jdf keyR (s.2.2.1.map Pos.x)),oT (cSl Jca) 112 s.2.2.2.1 s.2.2.2.2,(roS fun u=>∀p∈s.2.2.1,PosOk u p),(roS fun u=>∀e∈s.2.2.2.2,SlT Jca u e),blk b2 [.slice none 0 0,.slice none 0 0] 69,blk b1 (gcl G) 36]) (fun s=>0≤s.1∧s.1≤s.2.2.1.length∧s.2.1.oneCell'=true∧s.2.2.2.1.oneCell'=true∧expN G.p (Jad G.p).2 s.1.toNat=some (s.2.2.1.map Pos.x,s.2.2.2.2.map Sl.l)) (fun s=>(3000-s.1).toNat) (0,v25,[y],.slice none 0 0,[]) (fun _ _=>rfl) rfl rfl ⟨by simp,by simp,hv25,rfl,by rw[show(Jad G.p).2=y.x from hyx.symm];rfl⟩ ?_;intro a t hs;obtain⟨ha1,ha2,ha3,ha4,ha5⟩:=hs;obtain⟨hgr,hgl⟩:=Jmc hcl hB0 ha5;have hlim:=hgr.pk.lim;rw[List.length_map]at hlim;rw[List.length_map,List.length_map]at hgl;refine Cs (Nz 2 ?_);refine Wk 0 (Ba 0) ?_;refine Wk 1 (Jcn (C:=cPos) (j:=1) sl66 rfl rfl) ?_;refine Wp ?_ ?_<;>intro hc2
 ·have ham:(nth a.2.2.1 a.1)∈a.2.2.1:=Jac ha1 (by omega);have haq:posG G.p (nth a.2.2.1 a.1).x=0:=hgr.pk.ok _ (List.mem_map_of_mem ham);have haP:=Jb6 haq;have hmn:=Jhr haP;have hax:nth (a.2.2.1.map Pos.x) (a.1.toNat:Int)=(nth a.2.2.1 a.1).x:=by rw[show((a.1.toNat:Nat):Int)=a.1 by omega,Ji9]
  refine Ck (Qc (Cs (Ce (Cs ?_))));refine CS.drawnAll (k:=8) mixed rfl rfl ?_;refine Ak 0 [1] rfl (Bb 7) ?_;refine Ak 2 [3] rfl (Ba 0) ?_;refine Ak 4 [] rfl (Jba (C:=cPos) (j:=1) sl66 rfl rfl rfl rfl (by omega) (by omega)) ?_;refine Ak 5 [] rfl (Jgd (C:=cPos) (j:=1) (cs:=[(nth a.2.2.1 a.1).st.ths.v,(nth a.2.2.1 a.1).st.prs.v,(nth a.2.2.1 a.1).st.pls.v,(nth a.2.2.1 a.1).rd.v]) rfl rfl rfl ⟨by omega,by omega⟩ rfl tk98) ?_;refine Ao 6 rfl ?_;refine Wc rfl rfl Kck (fun u hu=>Jt7 G u (hG.st hu) hn (nth a.2.2.1 a.1) (hu.ro (j:=4) rfl _ ham) haP) (fun _=>rfl) ?_;rintro vm ⟨um,hmok⟩;refine Wd (Qa ?_);refine Ar [7] ?_;refine Ae ?_;refine Qc (Nz 1 ?_);refine Nv 1 ?_;refine Nu ?_;refine CS.weak (fun _ hu=>hu.osl0 (e:=114) (size:=4)) ?_;refine CS.sel [0,1,1,1,1,1,1,0,0,0] rfl ?_;refine CS.loopM (σ:=Int×Value×List Pos×Value×List EdgeD) (rsL [3,3,12,14,45,95]) (fun s=>[(11,.int .i64 s.1),(10,s.2.2.2.1)]) (fun s=>[oT Jca 114 s.2.2.2.1 s.2.2.2.2,blk b6 [s.2.1,a.2.2.2.1] 69,oT cPos 98 s.2.1 s.2.2.1,mapX b27 (Jdf keyR (s.2.2.1.map Pos.x)),oT (cSl Jca) 112 a.2.2.2.1 a.2.2.2.2,(roS fun u=>∀p∈s.2.2.1,PosOk u p),(roS fun u=>∀e∈a.2.2.2.2,SlT Jca u e),roT cMove ⟨vm,(Jae G.p (nth a.2.2.1 a.1).x)⟩,blk b2 [.slice none 0 0,.slice none 0 0] 69,blk b1 (gcl G) 36]) (fun s=>0≤s.1∧s.1≤(Jae G.p (nth a.2.2.1 a.1).x).length∧s.2.1.oneCell'=true∧(∃t,s.2.2.1=a.2.2.1++t)∧edgN G.p (nth a.2.2.1 a.1).x (a.2.2.1.map Pos.x) s.1.toNat=some (s.2.2.1.map Pos.x,s.2.2.2.2)∧s.2.2.2.1.oneCell'=true) (fun s=>((Jae G.p (nth a.2.2.1 a.1).x).length-s.1).toNat) (0,a.2.1,a.2.2.1,.slice none 0 0,[]) (fun _ _=>rfl) rfl rfl ⟨by simp,by simp,ha3,⟨[],by simp⟩,rfl,rfl⟩ ?_;intro q t hs;obtain⟨hq1,hq2,hq3,hq4,hq5,hq6⟩:=hs;refine Cs (Nz 2 ?_);refine Wk 1 (Nc (s:=⟨vm,(Jae G.p (nth a.2.2.1 a.1).x)⟩)) ?_;refine Wp ?_ ?_<;>intro hc3
  ·have hqm:(nth (Jae G.p (nth a.2.2.1 a.1).x) q.1)∈(Jae G.p (nth a.2.2.1 a.1).x):=Jac hq1 (by omega);have hnp:=Jfb haq hqm;have hst:Jak G.p (nth a.2.2.1 a.1).x (nth (Jae G.p (nth a.2.2.1 a.1).x) q.1)=(0,(Ja6 G.p (nth a.2.2.1 a.1).x (nth (Jae G.p (nth a.2.2.1 a.1).x) q.1))):=by unfold Jak;rw[if_pos haq,if_pos (Jgo hqm)]
   obtain⟨hpre,hpl⟩:=Jgn hq4 ha1 (show a.1<(a.2.2.1.length:Int) by omega);have hqm2:(nth a.2.2.1 a.1)∈q.2.2.1:=by rw[←hpre];exact Jac ha1 hpl
   obtain⟨hpk,hpt,hek⟩:=Jmq hgr.pk (hcl _ haq) (show q.1.toNat≤(Jae G.p (nth a.2.2.1 a.1).x).length by omega) hq5;have hql:=hpk.lim;rw[List.length_map]at hql;have hqo:=hpk.ok;have hel:=congrArg List.length hek.mv;rw[List.length_map,List.length_take]at hel;refine Ck (Qc (Cs (Ce ?_)));refine CS.cut (σ:=Nat×Pos) [51,52,53,54,55,56,57,58,59,60,61] (fun s=>[(12,.pointer (some ⟨s.1,0,none⟩))]) (fun s=>[blk s.1 [s.2.st.ths.v,s.2.st.prs.v,s.2.st.pls.v,s.2.rd.v] 98,roS fun u=>PosOk u s.2,oT Jca 114 q.2.2.2.1 q.2.2.2.2,blk b6 [q.2.1,a.2.2.2.1] 69,oT cPos 98 q.2.1 q.2.2.1,mapX b27 (Jdf keyR (q.2.2.1.map Pos.x)),oT (cSl Jca) 112 a.2.2.2.1 a.2.2.2.2,(roS fun u=>∀p∈q.2.2.1,PosOk u p),(roS fun u=>∀e∈a.2.2.2.2,SlT Jca u e),roT cMove ⟨vm,(Jae G.p (nth a.2.2.1 a.1).x)⟩,blk b2 [.slice none 0 0,.slice none 0 0] 69,blk b1 (gcl G) 36]) (fun s=>s.2.x=(Ja6 G.p (nth a.2.2.1 a.1).x (nth (Jae G.p (nth a.2.2.1 a.1).x) q.1))∧∃u0,PosOk u0 s.2) (fun _ _=>rfl) ?_ ?_
   ·refine CS.drawnTill 12 (k:=13) mixed rfl rfl ?_;refine Tk 13 0 [1] rfl (Bb 9) ?_;refine Tk 13 2 [3] rfl (Ba 1) ?_;refine Tk 13 4 [] rfl (Jba (C:=cPos) (j:=2) sl66 rfl rfl rfl rfl (by omega) (by omega)) ?_;refine Tk 13 5 [6,7] rfl (Jgd (C:=cPos) (j:=2) (cs:=[(nth a.2.2.1 a.1).st.ths.v,(nth a.2.2.1 a.1).st.prs.v,(nth a.2.2.1 a.1).st.pls.v,(nth a.2.2.1 a.1).rd.v]) rfl rfl rfl ⟨by omega,by omega⟩ (by rw[hpre];rfl) tk98) ?_;refine Tk 13 8 [] rfl (Xc (s:=⟨vm,(Jae G.p (nth a.2.2.1 a.1).x)⟩)) ?_;refine Tk 13 9 [] rfl (Jd2 (jj:=7) (s:=⟨vm,(Jae G.p (nth a.2.2.1 a.1).x)⟩) rfl rfl rfl ⟨(by omega),(by omega)⟩ rfl tk49) ?_;refine AT.two (i:=10) (j:=11) (by kernel_rfl) rfl rfl (by first|(intro h;exact absurd h (by decide))|exact fun _ _ h=>h|exact fun _ _ h=>h.sub (by repeat first|exact List.Sublist.refl _|apply List.Sublist.cons_cons|apply List.Sublist.cons)) rfl rfl ?_ ?_
    ·refine Wc rfl rfl J66 (fun u hu=>Jqh G u (hG.st hu) (nth a.2.2.1 a.1) (hu.ro (j:=5) rfl _ hqm2) haP (nth (Jae G.p (nth a.2.2.1 a.1).x) q.1) (Jgo hqm)) (fun _=>rfl) ?_;rintro z ⟨hzx,uz,hzok⟩;obtain⟨hza,hzb,hzc⟩:=hzok.st.ones;have hzd:=Sl.one hzok.rd;refine Wd (Qt ?_);refine To 11 rfl ?_;refine Wq 0 zv98 fun b12 hb12=>?_;refine Wd (Qt ?_);refine To 12 rfl ?_;refine Wv 0 0 ?_;refine Wd (Qt ?_);refine Te ?_;exact QS.head ((b12,z)) rfl rfl ⟨hzx,uz,hzok⟩
    refine Wq 0 zv98 fun b12 hb12=>?_;refine Wd (Qt ?_);refine To 10 rfl ?_;refine Wc rfl rfl J66 (fun u hu=>Jqh G u (hG.st hu) (nth a.2.2.1 a.1) (hu.ro (j:=6) rfl _ hqm2) haP (nth (Jae G.p (nth a.2.2.1 a.1).x) q.1) (Jgo hqm)) (fun _=>rfl) ?_;rintro z ⟨hzx,uz,hzok⟩;obtain⟨hza,hzb,hzc⟩:=hzok.st.ones;have hzd:=Sl.one hzok.rd;refine Wd (Qt ?_);refine To 12 rfl ?_;refine Wv 0 1 ?_;refine Wd (Qt ?_);refine Te ?_;refine QS.sel [1,0,0,0,0,0,0,0,0,0,0,0] rfl ?_;exact QS.head ((b12,z)) rfl rfl ⟨hzx,uz,hzok⟩
   intro o t hs;obtain⟨hzx,uz,hzok⟩:=hs;have hzq:posG G.p o.2.x=0:=by rw[hzx];exact hnp
   have hmo:Jdf keyR (q.2.2.1.map Pos.x) (keyR o.2.x)=(idxG (q.2.2.1.map Pos.x) o.2.x).map fun n:Nat=>(n:Int):=Jub (fun x hx h=>J4q (Js1 (hqo _ hx) hzq) (Jt8 (hqo _ hx)) (Jt8 hzq) h);refine Nz 1 ?_;refine Wk 0 (Bb 0) ?_;refine Wk 0 (Cb rfl rfl J8t (fun u hu=>Jxe G o.2 u (hu.ro (j:=1) rfl) hzq)) ?_;refine Wk 5 (Jju underlying129 underlying9 (by kernel_rfl) rfl (j:=5) rfl rfl) ?_;refine Nv 2 ?_;refine Wp ?_ ?_<;>intro hc4
   ·have hn9:idxG (q.2.2.1.map Pos.x) o.2.x=none:=by
     cases h9:idxG (q.2.2.1.map Pos.x) o.2.x with
     |none=>rfl
     |some n=>exfalso;rw[hmo,h9]at hc4;cases hc4
    obtain⟨o1,o2,o3⟩:=Jnb hn9;have hmo9:Jdf keyR (q.2.2.1.map Pos.x) (keyR o.2.x)=none:=by rw[hmo,hn9];rfl
    have hln:((q.2.2.1.length:Nat):Int)=(numG (q.2.2.1.map Pos.x) o.2.x):=by rw[o2,List.length_map]
    refine Nz 1 ?_;refine Wk 0 (Ba 3) ?_;refine Wk 1 (Jcn (C:=cPos) (j:=4) sl66 rfl rfl) ?_;refine Nv 2 ?_;refine Wp ?_ ?_<;>intro hc5
    ·have hfu:Jde (q.2.2.1.map Pos.x) (Ja6 G.p (nth a.2.2.1 a.1).x (nth (Jae G.p (nth a.2.2.1 a.1).x) q.1))=true:=by rw[←hzx,o3,List.length_map];exact decide_eq_true (by omega)
     refine Nz 0 ?_;refine Wk 0 (Db Jwu zv69) ?_;refine Wv 1 10 ?_;refine Wd (Qc (Cr (Qr (Qr (Qs (Qr (Qr (Qs (Qr (Qs (Qr (Qr (Qs (Qr ?_))))))))))))))
     exact outR (Jb4 rfl (Jam (j:=10) rfl rfl tk69) rfl) (by
       rw[Jr4 hB ha5 (show a.1.toNat<_ by rw[List.length_map];omega) (show edgN _ _ _ q.1.toNat=_ by rw[hax];exact hq5) (by rw[hax];omega) (by rw[hax,show((q.1.toNat:Nat):Int)=q.1 by omega];exact hfu) (by rw[List.length_map];omega)]
       exact fun u hu=>J41 (f:=fun v=>.tuple #[v,.int .i64 2]) hu)
    have hfl:q.2.2.1.length≠3000:=by omega
    have hfu:Jde (q.2.2.1.map Pos.x) (Ja6 G.p (nth a.2.2.1 a.1).x (nth (Jae G.p (nth a.2.2.1 a.1).x) q.1))=false:=by rw[←hzx,o3,List.length_map];exact decide_eq_false hfl
    have hup:updX (Jdf keyR (q.2.2.1.map Pos.x)) (keyR o.2.x) (numG (q.2.2.1.map Pos.x) o.2.x)=Jdf keyR ((q.2.2.1++[o.2]).map Pos.x):=by rw[List.map_append];have h9:=Jep hmo9;rw[o2];exact h9.symm
    rewrite [hln]
    refine Ck (Qc (Nz 1 ?_));refine Wk 0 (Bb 0) ?_;refine Wk 1 (Cb rfl rfl J8t (fun u hu=>Jxe G o.2 u (hu.ro (j:=1) rfl) hzq)) ?_;refine WS.updX underlying129 underlying9 rfl (j:=5) rfl rfl rfl hmo9 rfl ?_
    rewrite [hup]
    refine Nw 1 ?_;refine Wk 0 (Ba 3) ?_;refine Wk 0 (Bb 0) ?_;refine WS.buildT1 cPos (a:=o.2) sl66 zv98 rfl (by decide) (fun _=>rfl) ?_;intro v84;refine WS.known (fun u hu=>(show PosOk u o.2 from hu.ro (j:=2) rfl).one4) fun hz4=>?_;refine WS.appendT2 (C:=cPos) (a:=o.2) (j:=5) (jz:=0) sl66 zv98 rfl (by decide) rfl rfl rfl rfl hz4 (by omega) (by omega) (fun _=>rfl) (fun _=>rfl) ?_;intro v85 hv85;refine Wz 1 ?_;refine Ws 0 4 ?_;refine Nw 3 ?_;refine Wk 0 (Xc (s:=⟨vm,(Jae G.p (nth a.2.2.1 a.1).x)⟩)) ?_;refine Wk 1 (Jd2 (jj:=10) (s:=⟨vm,(Jae G.p (nth a.2.2.1 a.1).x)⟩) rfl rfl rfl ⟨(by omega),(by omega)⟩ rfl tk49) ?_;refine Wk 0 (Jaq Jxr Jkl (pcs:=[(0,[.int .i64 (nth (Jae G.p (nth a.2.2.1 a.1).x) q.1).p,.int .i64 (nth (Jae G.p (nth a.2.2.1 a.1).x) q.1).k,.int .i64 (nth (Jae G.p (nth a.2.2.1 a.1).x) q.1).n]),(1,[.int .i64 (numG (q.2.2.1.map Pos.x) o.2.x)])]) rfl (CellsOf.agg (CellsOf.one rfl CellsOf.nil)) rfl) ?_;refine WS.buildT1 Jca (a:=⟨(nth (Jae G.p (nth a.2.2.1 a.1).x) q.1),(numG (q.2.2.1.map Pos.x) o.2.x)⟩) Jmn Jkl rfl (by decide) (fun _=>rfl) ?_;intro v94;refine WS.appendT1 (C:=Jca) (a:=⟨(nth (Jae G.p (nth a.2.2.1 a.1).x) q.1),(numG (q.2.2.1.map Pos.x) o.2.x)⟩) (j:=4) (jz:=0) Jmn Jkl rfl (by decide) rfl rfl rfl rfl (w:=w) trivial (by omega) (by omega) (fun _=>rfl) (fun _=>rfl) ?_;intro v95 hv95;refine Wz 1 ?_;refine Wd (Qb (Qc (Ny 1 ?_)));refine Wk 1 Za ?_;refine Wd ?_;refine QS.sel [9,3,3,3,3,3,3,3,3,3,3] rfl ?_;refine QS.weak (fun u hu=>by have h9:=hu.addPro;rw[Jgl hn9 hfl]at h9;exact h9) ?_;refine QS.sel [1,1,1,1,1,0,0,0,0,0] rfl ?_;exact QS.head ((q.1+1,v85,q.2.2.1++[o.2],v95,q.2.2.2.2++[(⟨(nth (Jae G.p (nth a.2.2.1 a.1).x) q.1),(numG (q.2.2.1.map Pos.x) o.2.x)⟩:EdgeD)])) rfl rfl ⟨⟨by simp;omega,by simp;omega,hv85,(by obtain⟨t1,e1⟩:=hq4;exact⟨t1++[o.2],by simp only;rw[e1,List.append_assoc]⟩),(by have h9:=Jkv hq1 hq5 hzx hfu;rw[Jgl hn9 hfl,hzx,if_neg (by rw[hfu];decide),←hzx]at h9;exact h9),hv95⟩,by simp;omega⟩
   obtain⟨n9,hn9⟩:∃n,idxG (q.2.2.1.map Pos.x) o.2.x=some n:=by
    cases h9:idxG (q.2.2.1.map Pos.x) o.2.x with
    |some n=>exact⟨n,rfl⟩
    |none=>exfalso;rw[hmo,h9]at hc4;cases hc4
   obtain⟨o1,o2,o3⟩:=Jmu hn9;have hfu:Jde (q.2.2.1.map Pos.x) (Ja6 G.p (nth a.2.2.1 a.1).x (nth (Jae G.p (nth a.2.2.1 a.1).x) q.1))=false:=by rw[←hzx];exact o3
   have hgd:(Jdf keyR (q.2.2.1.map Pos.x) (keyR o.2.x)).getD 0=(numG (q.2.2.1.map Pos.x) o.2.x):=by rw[hmo,hn9,o2];rfl
   rewrite [hgd]
   refine Ck (Qc (Ny 3 ?_));refine Wk 0 (Xc (s:=⟨vm,(Jae G.p (nth a.2.2.1 a.1).x)⟩)) ?_;refine Wk 1 (Jd2 (jj:=9) (s:=⟨vm,(Jae G.p (nth a.2.2.1 a.1).x)⟩) rfl rfl rfl ⟨(by omega),(by omega)⟩ rfl tk49) ?_;refine Wk 0 (Jaq Jxr Jkl (pcs:=[(0,[.int .i64 (nth (Jae G.p (nth a.2.2.1 a.1).x) q.1).p,.int .i64 (nth (Jae G.p (nth a.2.2.1 a.1).x) q.1).k,.int .i64 (nth (Jae G.p (nth a.2.2.1 a.1).x) q.1).n]),(1,[.int .i64 (numG (q.2.2.1.map Pos.x) o.2.x)])]) rfl (CellsOf.agg (CellsOf.one rfl CellsOf.nil)) rfl) ?_;refine WS.buildT1 Jca (a:=⟨(nth (Jae G.p (nth a.2.2.1 a.1).x) q.1),(numG (q.2.2.1.map Pos.x) o.2.x)⟩) Jmn Jkl rfl (by decide) (fun _=>rfl) ?_;intro v94;refine WS.appendT1 (C:=Jca) (a:=⟨(nth (Jae G.p (nth a.2.2.1 a.1).x) q.1),(numG (q.2.2.1.map Pos.x) o.2.x)⟩) (j:=3) (jz:=0) Jmn Jkl rfl (by decide) rfl rfl rfl rfl (w:=w) trivial (by omega) (by omega) (fun _=>rfl) (fun _=>rfl) ?_;intro v95 hv95;refine Wz 1 ?_;refine Wd (Qb (Qc (Ny 1 ?_)));refine Wk 1 Za ?_;refine Wd ?_;refine QS.sel [3,3,3,3,3,3,3,3,3,3] rfl ?_;exact QS.head ((q.1+1,q.2.1,q.2.2.1,v95,q.2.2.2.2++[(⟨(nth (Jae G.p (nth a.2.2.1 a.1).x) q.1),(numG (q.2.2.1.map Pos.x) o.2.x)⟩:EdgeD)])) rfl rfl ⟨⟨by simp;omega,by simp;omega,hq3,hq4,(by have h9:=Jkv hq1 hq5 hzx hfu;rw[Jm8 hn9,hzx,if_neg (by rw[hfu];decide),←hzx]at h9;exact h9),hv95⟩,by simp;omega⟩
  have hqe:q.1.toNat=(Jae G.p (nth a.2.2.1 a.1).x).length:=by omega
  obtain⟨hpre,hpl⟩:=Jgn hq4 ha1 (show a.1<(a.2.2.1.length:Int) by omega);rw[hqe]at hq5;refine Cv (Qe (Qe (Qx (Qc (Ny 1 ?_)))));refine Wk 1 (Ba 1) ?_;refine WS.buildSlice1 sl67 J29 (vs:=[q.2.2.2.1]) rfl rfl (by decide) (fun v h=>by simp at h;subst h;exact hq6) (fun _=>rfl) ?_;intro v99;refine WS.appendT2 (C:=cSl Jca) (a:=⟨q.2.2.2.1,q.2.2.2.2⟩) (j:=5) (jz:=0) sl67 J29 rfl (by decide) rfl rfl rfl rfl (fun v h=>by simp[cSl]at h;subst h;exact hq6) (by omega) (by omega) (fun _=>rfl) (fun _=>rfl) ?_;intro v100 hv100;refine Wz 1 ?_;refine Ws 0 2 ?_;refine Wd (Qb (Qc (Ny 1 ?_)));refine Wk 1 Za ?_;refine Wd ?_;refine QS.sel [1,6,1,1,1,1,1,2,2] rfl ?_;refine QS.weak (fun u hu=>hu.addE) ?_;refine QS.sel [1,1,1,1,1,0,0,0] rfl ?_;exact QS.head ((a.1+1,q.2.1,q.2.2.1,v100,a.2.2.2.2++[(⟨q.2.2.2.1,q.2.2.2.2⟩:Sl EdgeD)])) rfl rfl ⟨⟨by simp;omega,by show a.1+1≤(q.2.2.1.length:Int);omega,hq3,hv100,Jo6 ha1 ha5 (by omega) hq5⟩,by simp;omega⟩
 have hev:=J0d hB ha5 (show a.1.toNat=(a.2.2.1.map Pos.x).length by rw[List.length_map];omega) (by rw[List.length_map];omega);refine Cv (Qe (Qe (Qx (Qc (Nz 0 ?_)))));refine Wk 0 (Bb 0) ?_;refine Wv 1 6 ?_;refine Wd (Qc (Cr ?_))
 exact outR (Jb4 rfl (Jam (j:=6) rfl rfl tk69) rfl) (by
   rw[hev]
   exact fun u hu=>retG (f:=fun v=>.tuple #[v,.int .i64 0]) (j1:=1) (j2:=3) (j3:=4) (j4:=5) rfl rfl rfl rfl rfl hu)
def negs (d:List Int):Nat:=(d.filter fun v=>decide (v<0)).length
theorem J9h (d:List Int):negs d≤d.length:=List.length_filter_le _ _
theorem Jsv:∀{d:List Int} {i:Nat} {v:Int},i<d.length→d.getD i 0<0→0≤v→negs (d.set i v)+1=negs d
 |[],_,_,h,_,_=>by simp at h
 |a::d,0,v,_,h,hv=>by
  have h1:a<0:=by simpa using h
  unfold negs;rw[List.set_cons_zero,List.filter_cons,List.filter_cons,if_neg (by rw[decide_eq_true_eq];omega),if_pos (decide_eq_true h1),List.length_cons]
 |a::d,i+1,v,hi,h,hv=>by
  have ih:=Jsv (d:=d) (i:=i) (v:=v) (by simpa using hi) (by simpa using h) hv;unfold negs at ih⊢;rw[List.set_cons_succ,List.filter_cons,List.filter_cons];split
  ·rw[List.length_cons,List.length_cons];omega
  exact ih
theorem J3z {d:List Int} {i v:Int} (h0:0≤i) (h1:i<d.length) (h:nth d i<0) (hv:0≤v):negs (d.set i.toNat v)+1=negs d:=Jsv (by omega) (by simpa [nth]using h) hv
section
variable {fin:Int→Bool} {es:List (List EdgeD)}
theorem Rnd.init {d:List Int} (hl:d.length=es.length) (h:∀j:Int,0≤j→j<es.length→nth d j=if fin j=true then 0 else -1):Rnd fin es 0 0 d false:=by
 refine⟨hl,fun j a b c=>?_,fun j a b=>by omega,fun _ j a b=>by omega⟩;have hj:=h j c b
 by_cases hf:fin j=true
 ·rw[if_pos hf]at hj;rw[hj];exact .inr ⟨Int.le_refl _,by omega,hf,fun k hk=>by simp at hk⟩
 rw[if_neg hf]at hj;rw[hj];exact .inl ⟨rfl,by show fin j=false;simpa using hf⟩
def MidR (fin:Int→Bool) (es:List (List EdgeD)) (n:Nat) (i k:Int) (d:List Int) (ch:Bool):Prop:=
 (nth d i<0∧Rnd fin es n i d ch∧∀j:Int,0≤j→j<k→nth d (nth (nth es i) j).to≠n)∨(0≤nth d i∧Rnd fin es n (i+1) d ch)
theorem MidR.len {n:Nat} {i k:Int} {d:List Int} {ch:Bool} (h:MidR fin es n i k d ch):d.length=es.length:=h.elim (fun h=>h.2.1.len) fun h=>h.2.len
theorem MidR.start {n:Nat} {i:Int} {d:List Int} {ch:Bool} (h:Rnd fin es n i d ch) (h0:0≤i) (h1:i<es.length):MidR fin es n i 0 d ch:=by
 by_cases hd:nth d i<0
 ·exact .inl ⟨hd,h,fun j a b=>by omega⟩
 exact .inr ⟨by omega,h.old_ h0 h1 (by omega)⟩
theorem MidR.go {n:Nat} {i k:Int} {d:List Int} {ch:Bool} (h:MidR fin es n i k d ch) (hd:nth d i<0) (hk:nth d (nth (nth es i) k).to≠n):MidR fin es n i (k+1) d ch:=by
 rcases h with⟨a,b,c⟩|⟨a,_⟩
 ·refine .inl ⟨a,b,fun j j0 j1=>?_⟩
  by_cases hj:j=k
  ·rw[hj];exact hk
  exact c j j0 (by omega)
 omega
theorem MidR.hit {n:Nat} {i k:Int} {d:List Int} {ch:Bool} (h:MidR fin es n i k d ch) (h0:0≤i) (h1:i<es.length) (hd:nth d i<0) (k0:0≤k) (k1:k<(nth es i).length) (ht:∀e∈nth es i,0≤e.to∧e.to<es.length)
  (hk:nth d (nth (nth es i) k).to=n) (m:Int):MidR fin es n i m (d.set i.toNat (n+1)) true:=by
 rcases h with⟨a,b,_⟩|⟨a,_⟩
 ·have he:nth (nth es i) k∈nth es i:=Jac k0 k1;refine .inr ⟨?_,b.hit h0 h1 a he (ht _ he) hk⟩;rw[Jbv h0 (by rw[b.len];exact h1)];omega
 omega
theorem MidR.end_ {n:Nat} {i k:Int} {d:List Int} {ch:Bool} (h:MidR fin es n i k d ch) (h0:0≤i) (h1:i<es.length) (ht:∀e∈nth es i,0≤e.to∧e.to<es.length) (hk:¬(k<(nth es i).length∧nth d i<0)):Rnd fin es n (i+1) d ch:=by
 rcases h with⟨a,b,c⟩|⟨_,b⟩
 ·refine b.miss h0 h1 a ht fun e he=>?_;obtain⟨j,hj,rfl⟩:=List.getElem_of_mem he;have h2:=c j (by omega) (by omega);have h9:=Jtp (xs:=nth es i) (i:=(j:Int)) (by omega) (by omega);rw[show((j:Int)).toNat=j by omega,List.getElem?_eq_getElem hj]at h9
  rwa [←Option.some.inj h9]at h2
 exact b
end
theorem J92 {G:Game} {x:PX} (hq:posG G.p x=0) {m:Move} (hm:m∈Jae G.p x) (hk:m.k=4):0≤m.n:=by
 have hP:=Jb6 (p:=Jin x) hq;have hl:legalB G.rm x.1 m=true:=Jd5 (p:=Jin x) (Jgo hm);exact((Jio hP.ready hP.inn hl).ac hk).1
def RetD (w:World) (G:Game) (X:GraphD) (f:Value→Value):Ending→World→Prop:=fun e w'=>∃y:Sl Int,(Jmt G.p X.xs X.ed y.l∧∃u0,SlT cInt u0 y)∧RetF w (f y.v) (roT cInt y) e w'
theorem J8j (X:GraphD) (i:Int):nth X.ed i=(nth X.es.l i).l:=Jsc X.es.l i
theorem Jql (X:GraphD) (i:Int):nth X.xs i=(nth X.ps.l i).x:=Ji9 X.ps.l i
theorem Jta (X:GraphD):X.ed.length=X.es.l.length:=List.length_map _
theorem Jtn (X:GraphD):X.xs.length=X.ps.l.length:=List.length_map _
theorem Kci (G:Game) (w:World) (hG:GameOk w G) (y:Pos) (hy:PosOk w y) (hq:posG G.p y.x=0):
  Calls prog 71 #[.agg (gcl G).toArray,.agg #[y.st.ths.v,y.st.prs.v,y.st.pls.v,y.rd.v]] w (RetB w (.bool (Jdg G.p y.x))):=by
 have hP:=Jb6 (p:=y) hq;have hgc:Jfe G.rm.ths.l G.rm.gl.l=true:=Jla (Jcl (Jfy hP.ck)).2;have hln:y.st.ths.l.length=G.rm.ths.l.length:=Jib hq;have hdx:Jdg G.p y.x=Jb3 y.st.ths.l G.rm.gl.l:=by unfold Jdg;rw[←G.p_alike.gl];rfl
 refine En func71 ?_;refine Nz 0 ?_;refine Wr 0 fun b2 hb2=>?_;refine Wr 1 fun b3 hb3=>?_;refine Nx 1 ?_;refine Wk 2 (Bc 0) ?_;refine Wk 0 (Ba 1) ?_;refine Wk 1 (Cb rfl rfl Jln (fun u hu=>Jes y.st u (hy.st.st hu) G.rm.gl (hG.rm.gl.st hu) (by rw[hln];exact Jf8 hgc))) ?_;exact Wd (Qc (Cr (out1 rfl rfl (Jab (by rw[hdx])))))
theorem Kd0 (e:EdgeD) (act:Int) (w:World):
  Calls prog 72 #[.agg #[.int .i64 e.m.p,.int .i64 e.m.k,.int .i64 e.m.n,.int .i64 e.to],.int .i64 act] w (RetB w (.bool (decide (e.m.k=4)&&decide (e.m.n=act)))):=by
 refine En func72 ?_;refine Nz 0 ?_;refine Wr 1 fun b2 hb2=>?_;refine Nx 2 ?_;refine Wk 2 (Ba 0) ?_;refine Wj 0 ?_;refine Wj 0 ?_;refine Wj 0 ?_;refine Wj 0 ?_;refine Wj 0 ?_;refine Wk 1 Pa ?_;exact Wd (Qc (Cr (out1 rfl rfl (Jab (by simp)))))
theorem J8k (G:Game) (w:World) (hG:GameOk w G) (X:GraphD) (hX:GraphOk w X) (x0:PX) (hgr:GrAll G.p x0 X.xs X.ed):
  Calls prog 43 #[.agg (gcl G).toArray,.agg #[X.ps.v,X.es.v],.int .i64 (-1)] w (RetD w G X fun v=>v):=by
 have hXp:=hX.ps;have hXe:=hX.es;have oXp:=Sl.one hXp;have oXe:=Sl.one hXe;have hlim:=hgr.ok.pk.lim;have hlen:=hgr.len;rw[Jtn]at hlim hlen;rw[Jta]at hlen;have hes:∀i:Int,0≤i→i<X.ed.length→∀e∈nth X.ed i,0≤e.to∧e.to<X.ed.length:=fun i a b=>hgr.to a b;have hedl:=Jta X;have hPq:∀i:Int,0≤i→i<X.ps.l.length→posG G.p (nth X.ps.l i).x=0:=fun i a b=>hgr.ok.pk.ok _ (by rw[←Jql];exact Jac a (by rw[Jtn];exact b));refine En func43 ?_;refine Nz 0 ?_;refine Wr 0 fun b3 hb3=>?_;refine Wr 1 fun b4 hb4=>?_;refine Nx 1 ?_;refine Wk 0 (Ba 0) ?_;refine Wk 0 Nc ?_;refine WS.makeInts sl37 rfl rfl zv3 (by omega) (by omega) (by omega) (fun _=>rfl) ?_;intro v17;refine WS.oc (j:=0) rfl (fun hv17=>?_);refine Wz 1 ?_;refine Nv 1 ?_;refine Nu ?_;refine CS.loopM (σ:=Int×List Int) (rsL [18,36]) (fun s=>[(8,.int .i64 s.1)]) (fun s=>[oints 3 v17 s.2,blk b4 [X.ps.v,X.es.v] 69,blk b3 (gcl G) 36]) (fun s=>0≤s.1∧s.1≤X.ps.l.length∧s.2.length=X.ps.l.length∧∀j:Int,0≤j→j<s.1→nth s.2 j=if finB G.p X.xs j=true then 0 else -1) (fun s=>(X.ps.l.length-s.1).toNat) (0,List.replicate (X.ps.l.length:Int).toNat 0) (fun _ _=>rfl) rfl rfl ⟨by simp,by simp,by simp,fun j a b=>by simp only at b;omega⟩ ?_;intro a t hs;obtain⟨ha1,ha2,ha3,ha4⟩:=hs;refine Cs (Nz 2 ?_);refine Wk 1 (Nb 0) ?_;refine Wp ?_ ?_<;>intro hc1
 ·have hxq:=hPq a.1 ha1 (by omega);have hxo:PosOk w (nth X.ps.l a.1):=hXp.at ha1 (by omega);refine Ck (Qc (Cs (Ce (Nz 2 ?_))));refine Wk 0 (Xb 0) ?_;refine WS.storeOI (j:=0) rfl rfl (by omega) rfl tk3 rfl ?_;refine Wd (Qc (Cs (Dr mixed 0 ?_)));refine Dk 1 (Bb 2) ?_;refine Dk 1 (Ba 1) ?_;refine Dk 0 Xc ?_;refine Dk 0 Ua ?_;refine Dk 0 (Cb rfl rfl Kez (fun u hu=>Kci G u (hG.st hu) (nth X.ps.l a.1) (hxo.toSt hu) hxq)) ?_;refine Dd (Qc (Cn ?_ ?_))<;>intro hc2
  ·have hse9:(a.2.set a.1.toNat (-1)).length=a.2.length:=List.length_set;have hfa:finB G.p X.xs a.1=true:=by unfold finB;rw[Jql];exact hc2
   refine Ny 2 ?_;refine Wk 0 (Xb 0) ?_;refine WS.storeOI (j:=0) rfl rfl (by omega) rfl tk3 rfl ?_;refine Wd (Qb (Qc (Ny 1 ?_)));refine Wk 1 Za ?_;refine Wd ?_
   exact QS.head ((a.1+1,(a.2.set a.1.toNat (-1)).set a.1.toNat 0)) rfl rfl ⟨⟨by simp;omega,by simp;omega,by simp only[List.length_set];exact ha3,fun j j0 j1=>by
       simp only at j1⊢
       by_cases hj:j=a.1
       ·subst hj;rw[Jbv ha1 (by rw[List.length_set];omega),if_pos hfa]
       rw[Jaz ha1 j0 hj,Jaz ha1 j0 hj];exact ha4 j j0 (by omega)⟩,by simp;omega⟩
  have hfa:¬finB G.p X.xs a.1=true:=by unfold finB;rw[Jql];first|exact hc2|simpa using hc2
  refine Ck (Qb (Qc (Ny 1 ?_)));refine Wk 1 Za ?_;refine Wd ?_
  exact QS.head ((a.1+1,a.2.set a.1.toNat (-1))) rfl rfl ⟨⟨by simp;omega,by simp;omega,by simp only[List.length_set];exact ha3,fun j j0 j1=>by
      simp only at j1⊢
      by_cases hj:j=a.1
      ·subst hj;rw[Jbv ha1 (by omega),if_neg hfa]
      rw[Jaz ha1 j0 hj];exact ha4 j j0 (by omega)⟩,by simp;omega⟩
 have hr0:Rnd (finB G.p X.xs) X.ed 0 0 a.2 false:=Rnd.init (by omega) fun j j0 j1=>ha4 j j0 (by omega);refine Cv (Qe (Qe (Qx (Qc (Cs (Nz 2 ?_))))));refine Nu ?_;refine CS.loopM (σ:=Nat×List Int×Bool) (rsL [11,13,37,88]) (fun s=>[(9,.int .i64 ((s.1:Int)+1)),(10,.bool s.2.2)]) (fun s=>[oints 3 v17 s.2.1,blk b4 [X.ps.v,X.es.v] 69,blk b3 (gcl G) 36]) (fun s=>s.1≤X.es.l.length+1∧(s.2.2=true→s.1+negs s.2.1≤X.es.l.length)∧(s.2.2=true→Rnd (finB G.p X.xs) X.ed s.1 0 s.2.1 false)∧(s.2.2=false→IsD (finB G.p X.xs) X.ed s.2.1)) (fun s=>if s.2.2=true then negs s.2.1+1 else 0) (0,a.2,true) (fun _ _=>rfl) rfl rfl ⟨by simp,fun _=>by have:=J9h a.2;simp only;omega,fun _=>hr0,fun h=>by cases h⟩ ?_;intro n t hs;obtain⟨hn1,hn2,hn3,hn4⟩:=hs;refine Cs (Nz 1 ?_);refine Wp ?_ ?_<;>intro hc3
 ·have hrn:=hn3 hc3;have hn9:=hn2 hc3;refine Ck (Qc (Cs (Ce (Nz 1 ?_))));refine Nx 1 ?_;refine Nu ?_;refine CS.loopM (σ:=Int×List Int×Bool) (rsL [12,13,40,88]) (fun s=>[(11,.int .i64 s.1),(10,.bool s.2.2)]) (fun s=>[oints 3 v17 s.2.1,blk b4 [X.ps.v,X.es.v] 69,blk b3 (gcl G) 36]) (fun s=>0≤s.1∧s.1≤X.es.l.length∧Rnd (finB G.p X.xs) X.ed n.1 s.1 s.2.1 s.2.2∧(s.2.2=true→negs s.2.1+1≤negs n.2.1)∧(s.2.2=false→negs s.2.1=negs n.2.1)) (fun s=>(X.es.l.length-s.1).toNat) (0,n.2.1,false) (fun _ _=>rfl) rfl rfl ⟨by simp,by simp,hrn,(fun h=>by cases h),fun _=>rfl⟩ ?_;intro i t hs;obtain⟨hi1,hi2,hi3,hi4,hi5⟩:=hs;have hil9:=hi3.len;refine Cs (Nz 2 ?_);refine Wk 1 (Nb 0) ?_;refine Wp ?_ ?_<;>intro hc4
  ·have hil:i.1<(X.es.l.length:Int):=by omega
   have hke:SlT Jca w (nth X.es.l i.1):=hXe.at hi1 hil;have kle:=hke.le;have hei:=J8j X i.1;have hti:=hes i.1 hi1 (by omega);rw[hei]at hti;have hxq:=hPq i.1 hi1 (by omega);have hek:=hgr.ok.es i.1 hi1 (by omega);rw[hei,Jql]at hek;refine Ck (Qc (Cs (Ce (Nz 1 ?_))));refine Nu ?_;refine CS.loopM (σ:=Int×List Int×Bool) (rsL [13,13,46,88]) (fun s=>[(12,.int .i64 s.1),(10,.bool s.2.2)]) (fun s=>[oints 3 v17 s.2.1,blk b4 [X.ps.v,X.es.v] 69,blk b3 (gcl G) 36]) (fun s=>0≤s.1∧s.1≤(nth X.es.l i.1).l.length∧MidR (finB G.p X.xs) X.ed n.1 i.1 s.1 s.2.1 s.2.2∧(s.2.2=true→negs s.2.1+1≤negs n.2.1)∧(s.2.2=false→negs s.2.1=negs n.2.1)) (fun s=>((nth X.es.l i.1).l.length-s.1).toNat) (0,i.2.1,i.2.2) (fun _ _=>rfl) rfl rfl ⟨by simp,by simp,MidR.start hi3 hi1 (by omega),hi4,hi5⟩ ?_;intro k t hs;obtain⟨hk1,hk2,hk3,hk4,hk5⟩:=hs;have hkl9:=hk3.len;refine Cs (Nz 2 ?_);refine Wk 1 (Ba 1) ?_;refine Wk 0 Xc ?_;refine Wk 0 Ub ?_;refine Wk 2 Nc ?_;refine Wj 0 ?_;refine Wj 0 ?_;refine Wt 0 rfl rfl (fun hg=>Xb 0 (eg_ hg rfl)) ?_;refine Wt 0 rfl rfl (fun hg=>Ib 0) ?_;refine Wj 0 ?_;refine Wk 0 Pa ?_;refine Wp ?_ ?_<;>intro hc5
   ·obtain⟨hkl,hdn⟩:k.1<((nth X.es.l i.1).l.length:Int)∧nth k.2.1 i.1<0:=by grind
    have hem:(nth (nth X.es.l i.1).l k.1)∈(nth X.es.l i.1).l:=Jac hk1 hkl;obtain⟨ht0,ht1⟩:=hti _ hem;have hmv:(nth (nth X.es.l i.1).l k.1).m∈Jae G.p (nth X.ps.l i.1).x:=by rw[←hek.mv];exact List.mem_map_of_mem hem
    have hno:¬((nth (nth X.es.l i.1).l k.1).m.k=4∧(nth (nth X.es.l i.1).l k.1).m.n = -1):=fun⟨q1,q2⟩=>by have:=J92 hxq hmv q1;omega
    refine Ck (Qc (Cs (Ce (Nz 1 ?_))));refine Wk 1 (Ba 1) ?_;refine Wk 0 Xc ?_;refine Wk 1 Ub ?_;refine Wk 0 Xc ?_;refine Wk 0 Ua ?_;refine Wq 0 Jkl fun b13 hb13=>?_;refine Wv 0 0 ?_;refine Nx 2 ?_;refine Wk 0 (Ba 0) ?_;refine Wk 0 (Xb 1) ?_;refine Wk 1 (Ib 1) ?_;refine Wk 2 Zb ?_;refine Wj 0 ?_;refine Wj 0 ?_;refine Wt 0 rfl rfl (fun hg=>Cb rfl (ec_ (eg_ hg rfl) (ec_ (eg_ hg rfl) en_)) Kfo (fun u hu=>Kd0 (nth (nth X.es.l i.1).l k.1) (-1) u)) ?_;refine Wj 0 ?_;refine Wk 0 Pa ?_;refine Wp ?_ ?_<;>intro hc6
    ·have hhit:nth k.2.1 (nth (nth X.es.l i.1).l k.1).to=(n.1:Int):=by have h9:=hc6;first|exact h9.1|(simp at h9;omega)|grind
     refine Nz 3 ?_;refine Wk 0 (Xb 1) ?_;refine WS.storeOI (j:=1) rfl rfl (by omega) rfl tk3 rfl ?_;refine Nw 1 ?_;refine Wd (Qb (Qc (Ny 1 ?_)));refine Wk 1 Za ?_;refine Wd ?_;refine QS.sel [1,1,1] rfl ?_
     exact QS.head ((k.1+1,k.2.1.set i.1.toNat ((n.1:Int)+1),true)) rfl rfl ⟨⟨by simp;omega,by simp;omega,hk3.hit hi1 (by omega) hdn hk1 (by rw[hei];exact hkl) (by rw[hei];exact hti) (by rw[hei];exact hhit) _,fun _=>by
         have h9:=J3z hi1 (by omega) hdn (show(0:Int)≤(n.1:Int)+1 by omega);simp only;cases hb:k.2.2 with
         |true=>have:=hk4 hb;omega
         |false=>have:=hk5 hb;omega,fun h=>by cases h⟩,by simp;omega⟩
    have hmis:nth k.2.1 (nth (nth X.es.l i.1).l k.1).to≠(n.1:Int):=fun q=>by have h9:=hc6;grind
    refine Ck (Qb (Qc (Ny 1 ?_)));refine Wk 1 Za ?_;refine Wd ?_;refine QS.sel [1,1,1] rfl ?_;exact QS.head ((k.1+1,k.2.1,k.2.2)) rfl rfl ⟨⟨by simp;omega,by simp;omega,hk3.go hdn (by rw[hei];exact hmis),hk4,hk5⟩,by simp;omega⟩
   have hke9:¬(k.1<((nth X.es.l i.1).l.length:Int)∧nth k.2.1 i.1<0):=by grind
   refine Cv (Qe (Qe (Qx (Qb (Qc (Ny 1 ?_))))));refine Wk 1 Za ?_;exact Wd (QS.head ((i.1+1,k.2.1,k.2.2)) rfl rfl ⟨⟨by simp;omega,by simp;omega,hk3.end_ hi1 (by omega) (by rw[hei];exact hti) (by rw[hei];exact hke9),hk4,hk5⟩,by simp;omega⟩)
  refine Cv (Qe (Qe (Qx (Qb (Qc (Ny 1 ?_))))));refine Wk 1 Za ?_;refine Wd ?_
  exact QS.head ((n.1+1,i.2.1,i.2.2)) rfl rfl ⟨⟨by show n.1+1≤_;omega,fun h=>by have:=hi4 h;simp only;omega,fun _=>by have h9:=hi3;rw[show i.1=((X.ed.length:Nat):Int) by omega]at h9;exact h9.next,fun h=>by have h9:=hi3;rw[show i.1=((X.ed.length:Nat):Int) by omega,show i.2.2=false from h]at h9;exact h9.done hes⟩,by
      show(if i.2.2=true then negs i.2.1+1 else 0)<(if n.2.2=true then negs n.2.1+1 else 0);rw[if_pos hc3]
      by_cases hb:i.2.2=true
      exact by rw[if_pos hb];have:=hi4 hb;omega
      rw[if_neg hb];omega⟩
 have hds:=hn4 (by first|exact hc3|simpa using hc3);refine Cv (Qe (Qe (Qx (Qc (Nz 2 ?_)))));exact Wd (Qc (Cr (out1 rfl rfl (fun u hu=>⟨⟨v17,n.2.1⟩,⟨hds,u,(Jaf hu (j:=0) rfl).tree⟩,retR (fun S u h=>(Star.oints (j:=0) rfl h).tree) u hu⟩))))
end Go.Proofs.YtmoojmgihdgceaaGreatDoor
