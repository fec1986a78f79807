/- Merged texts of this proof (walks and plain laws), printed by a program of the prover. -/
import Derived.Test.YtmoojmgihdgceaaGreatDoorZb
import Derived.Test.YtmoojmgihdgceaaGreatDoorZc
set_option maxHeartbeats 8000000
namespace Go.Proofs.YtmoojmgihdgceaaGreatDoor
open Go.RowKit Go.Proofs Tryz
set_option maxRecDepth 100000
set_option linter.unusedVariables false
set_option linter.unusedSimpArgs false
theorem C0 (n lo hi:Int) (w:World):
  Calls prog 76 #[.int .i64 n,.int .i64 lo,.int .i64 hi] w (RetB w (.bool (decide (lo≤n)&&decide (n≤hi)))):=by
 refine En func76 ?_;refine Nz 1 ?_;refine Nx 4 ?_;refine Wj 0 ?_;refine Wj 0 ?_;refine Wj 0 ?_;refine Wk 1 Pa ?_;exact Wd (Qc (Cr (out1 rfl rfl (Ab (by simp)))))
theorem Bq (n lo hi:Int) (w:World):
  Calls prog 170 #[.int .i64 n,.int .i64 lo,.int .i64 hi] w (RetB w (.bool (decide (lo≤n)&&decide (n≤hi)))):=by
 refine En func170 ?_;refine Nz 1 ?_;refine Nx 4 ?_;refine Wj 0 ?_;refine Wj 0 ?_;refine Wj 0 ?_;refine Wk 1 Pa ?_;exact Wd (Qc (Cr (out1 rfl rfl (Ab (by simp)))))
theorem WE (w:World):
  Calls prog 152 #[] w (fun e w'=>∃v:Value,(∃u0,SlT cStr u0 ⟨v,wordL⟩)∧RetF w v (roT cStr ⟨v,wordL⟩) e w'):=by
 refine En func152 ?_;refine Nz 1 ?_;refine Nx 0 ?_;refine WS.buildSlice1 (pl:=[(0,.const (.string ⟨#[97,116]⟩)),(1,.const (.string ⟨#[115,116,97,116,101,115]⟩)),(2,.const (.string ⟨#[115,116,97,114,116]⟩)),(3,.const (.string ⟨#[103,111,110,101]⟩)),(4,.const (.string ⟨#[105,102]⟩)),(5,.const (.string ⟨#[108,111,99,107]⟩)),(6,.const (.string ⟨#[119,105,116,104]⟩)),(7,.const (.string ⟨#[115,101,116,115]⟩)),(8,.const (.string ⟨#[115,112,101,110,100,115]⟩)),(9,.const (.string ⟨#[98,114,105,110,103,115]⟩))]) (vs:=wordL.map .string) sl22 zv9 rfl rfl (by decide) (by intro v hv;simp only[wordL,List.map_cons,List.map_nil,List.mem_cons,List.not_mem_nil,or_false]at hv;rcases hv with rfl|rfl|rfl|rfl|rfl|rfl|rfl|rfl|rfl|rfl<;>rfl) (fun _=>rfl) ?_;intro v1;refine Wz 1 ?_;refine Wd (Qc (Cr ?_));refine QS.weak (L':=[roT cStr ⟨v1,wordL⟩]) (fun u hu=>St.toRo (A:=osl 9 1 v1 10 (wordL.map .string)) (p:=fun u=>SlT cStr u ⟨v1,wordL⟩) (fun S u h=>⟨A1 h.2,fun _ _=>trivial⟩) hu) ?_;exact out1 rfl rfl (fun u hu=>⟨_,⟨u,hu.ro (j:=0) rfl⟩,retF (j:=0) rfl u hu⟩)
theorem Rn (tx:ByteArray) (w:World) (hm:(tx.size:Int)≤9223372036854775806):
  Calls prog 111 #[.string tx] w (RetB w (.bool (BW tx))):=by
 refine En func111 ?_;refine Nz 1 ?_;refine Nv 1 ?_;refine Nu ?_;refine CS.loopM (σ:=Int) (rsL [2,2,6,21]) (fun s=>[(3,.int .i64 s)]) (fun _=>_) (fun s=>0≤s∧s≤tx.size∧∀j:Int,0≤j→j<s→97≤byt tx j∧byt tx j≤122) (fun s=>(tx.size-s).toNat) 0 (fun _ _=>rfl) rfl rfl ⟨by omega,by omega,fun j _ _=>by omega⟩ ?_;intro s t hs;obtain⟨hs1,hs2,hs3⟩:=hs;refine Cs (Nz 2 ?_);refine Wk 1 (A2 underlying9 rfl) ?_;refine Wp ?_ ?_<;>intro hc1
 ·refine Ck (Qc (Cs (Ce (Nz 2 ?_))));refine Wk 2 (B2 underlying9 rfl rfl (by omega) (by omega)) ?_;refine We 0 ?_;refine We 0 ?_;refine Wf 0 rfl rfl (fun hg=>B2 underlying9 (eg_ hg rfl) (eg_ hg rfl) (by(try simp only[bq]at hg);omega) (by(try simp only[bq]at hg);omega)) ?_;refine We 0 ?_;refine Wk 0 Po ?_;refine Wp ?_ ?_<;>intro hc2
  ·refine Nz 1 ?_;exact Wd (Qc (Cr (Qs (Qr (Qr (Qs (Qr (out1 rfl rfl (Ab (by unfold BW;rw[Lv hs1 (by omega) (by omega)];rfl))))))))))
  refine Ck (Qb (Qc (Ny 1 ?_)));refine Wk 1 Za ?_;refine Wd ?_
  exact QS.head (s+1) rfl rfl ⟨⟨by omega,by omega,fun j h0 h1=>by
     rcases(show j<s∨j=s by omega)with h|h
     ·exact hs3 j h0 h
     rw[h];omega⟩,by omega⟩
 refine Cv (Qe (Qe (Qx (Qc (Nz 0 ?_)))));refine Wc rfl rfl Zm (fun u hu=>WE u) (fun _=>rfl) ?_;rintro v22 ⟨u22,hv22⟩;refine Wz 1 ?_;refine Nv 1 ?_;refine Nu ?_;refine CS.loopM (σ:=Int) (rsL [2,2,23,34]) (fun s=>[(5,.int .i64 s)]) (fun _=>_) (fun s=>0≤s∧s≤10∧∀j:Int,0≤j→j<s→seq (nth wordL j) tx=false) (fun s=>(10-s).toNat) 0 (fun _ _=>rfl) rfl rfl ⟨by omega,by omega,fun j _ _=>by omega⟩ ?_;intro q t hs;obtain⟨hq1,hq2,hq3⟩:=hs;refine Cs (Nz 2 ?_);refine WS.det rfl rfl rfl (Bi (n:=10) sl22 rfl hv22.sp) rfl ?_;refine Wz 1 ?_;refine Wp ?_ ?_<;>intro hc3
 ·refine Ck (Qc (Cs (Ce (Nz 2 ?_))));refine Wk 0 (Cy sl22 rfl rfl rfl rfl hv22 (by omega) (by simp[wordL];omega)) ?_;refine Wk 1 (R7 (jj:=0) rfl rfl rfl rfl ⟨by omega,by simp[wordL];omega⟩ rfl tk9) ?_;refine Wk 0 (AL rfl rfl) ?_;refine Wp ?_ ?_<;>intro hc4
  ·refine Nz 1 ?_;refine Wd (Qc (Cr (Qs (Qr (Qr (Qs (Qr ?_)))))))
   exact out1 rfl rfl (Ab (by
      have:(wordL.any fun x=>seq x tx)=true:=List.any_eq_true.2 ⟨_,Ad hq1 (by simp[wordL];omega),hc4⟩
      unfold BW;rw[this];simp))
  refine Ck (Qb (Qc (Ny 1 ?_)));refine Wk 1 Za ?_;refine Wd ?_
  exact QS.head (q+1) rfl rfl ⟨⟨by omega,by omega,fun j h0 h1=>by
     rcases(show j<q∨j=q by omega)with h|h
     ·exact hq3 j h0 h
     rw[h];exact hc4⟩,by omega⟩
 refine Cv (Qe (Qe (Qx (Qc (Nz 1 ?_)))));refine Wk 1 (JG rfl rfl) ?_;refine Wd (Qc (Cr ?_))
 exact out1 rfl rfl (Ab (by
    have h1:lowB tx=true:=Jl fun j h0 h1=>hs3 j h0 (by omega)
    have h2:(wordL.any fun x=>seq x tx)=false:=by
     rw[List.any_eq_false];intro x hx;obtain⟨i,h0,h3,rfl⟩:=Bg hx;rw[hq3 i h0 (by simp[wordL]at h3;omega)];simp
    unfold BW;rw[h1,h2];rfl))
theorem GF (tx:ByteArray) (w:World) (hm:(tx.size:Int)≤9223372036854775806):
  Calls prog 73 #[.string tx] w (RetB w (.bool (Bs tx))):=by
 refine En func73 ?_;refine Nz 1 ?_;refine Nx 1 ?_;refine Wk 2 (A2 underlying9 rfl) ?_;refine Wj 0 ?_;refine Wt 0 rfl rfl (fun hg=>Cb rfl (ec_ (eg_ hg rfl) en_) ZA (fun u hu=>Rn _ u (by omega))) ?_;refine Wk 1 Pa ?_;exact Wd (Qc (Cr (out1 rfl rfl (Ab (by simp[Bs])))))
theorem EG (r:Room) (w:World) (hr:RoomOk w r) (n:Int):
  Calls prog 75 #[.agg (rcl r).toArray,.int .i64 n] w (RetB w (.bool (decide (0≤n)&&decide (n≤r.pls.l.length-1)))):=by
 have kpl:=hr.pls;have lpl:=hr.pls.le;have kth:=hr.ths;have lth:=hr.ths.le;have kpr:=hr.prs;have lpr:=hr.prs.le;have kwy:=hr.wys;have lwy:=hr.wys.le;have kac:=hr.acs;have lac:=hr.acs.le;have kau:=hr.aus;have lau:=hr.aus.le;have kgl:=hr.gl;have lgl:=hr.gl.le;refine En func75 ?_;refine Nz 0 ?_;refine Wr 1 fun b2 hb2=>?_;refine Nx 2 ?_;refine Wk 0 (Ba 0) ?_;refine Wk 0 Nc ?_;refine Wk 0 Zb ?_;refine Wk 1 (Cb rfl rfl EU (fun u hu=>C0 _ _ _ u)) ?_;exact Wd (Qc (Cr (out1 rfl rfl (Ab rfl))))
theorem TE (r:Room) (w:World) (hr:RoomOk w r) (a b:Int):
  Calls prog 78 #[.agg (rcl r).toArray,.int .i64 a,.int .i64 b] w (RetB w (.bool (putB r.ths.l a b))):=by
 have kpl:=hr.pls;have lpl:=hr.pls.le;have kth:=hr.ths;have lth:=hr.ths.le;have kpr:=hr.prs;have lpr:=hr.prs.le;have kwy:=hr.wys;have lwy:=hr.wys.le;have kac:=hr.acs;have lac:=hr.acs.le;have kau:=hr.aus;have lau:=hr.aus.le;have kgl:=hr.gl;have lgl:=hr.gl.le;refine En func78 ?_;refine Nz 0 ?_;refine Wr 1 fun b3 hb3=>?_;refine Nx 2 ?_;refine Wk 0 (Ba 0) ?_;refine Wk 0 Nc ?_;refine Wk 0 Zb ?_;refine Wk 1 (Cb rfl rfl EU (fun u hu=>C0 _ _ _ u)) ?_;refine Wj 0 ?_;refine Wj 0 ?_;refine Wj 0 ?_;refine Wj 0 ?_;refine Wt 0 rfl rfl (fun hg=>Cy (C:=cThing) (s:=r.ths) sl23 (eg_ hg rfl) (eg_ hg rfl) rfl rfl hr.ths (by(try simp only[decide_eq_true_eq,Bool.and_eq_true]at hg);omega) (by(try simp only[decide_eq_true_eq,Bool.and_eq_true]at hg);omega)) ?_;refine Wj 0 ?_;refine Wt 0 rfl rfl (fun hg=>CW (C:=cThing) (s:=r.ths) (i:=a) (j:=2) (eg_ hg rfl) rfl rfl hr.ths (by(try simp only[decide_eq_true_eq,Bool.and_eq_true]at hg);omega) (by decide) rfl tk3) ?_;refine Wt 0 rfl rfl (fun hg=>IR (eg_ hg rfl) rfl) ?_;refine Wt 0 rfl rfl (fun hg=>Cb rfl (ec_ (eg_ hg rfl) (ec_ rfl (ec_ (eg_ hg rfl) en_))) EU (fun u hu=>C0 _ _ _ u)) ?_;refine Wk 1 Pa ?_;exact Wd (Qc (Cr (out1 rfl rfl (Ab rfl))))
theorem Eq (r:Room) (w:World) (hr:RoomOk w r) (c:Sl Lit) (hk:SlT cLit w c):
  Calls prog 49 #[.agg (rcl r).toArray,c.v] w (RetB w (.bool (D6 r.ths.l c.l))):=by
 have kpl:=hr.pls;have lpl:=hr.pls.le;have kth:=hr.ths;have lth:=hr.ths.le;have kpr:=hr.prs;have lpr:=hr.prs.le;have kwy:=hr.wys;have lwy:=hr.wys.le;have kac:=hr.acs;have lac:=hr.acs.le;have kau:=hr.aus;have lau:=hr.aus.le;have kgl:=hr.gl;have lgl:=hr.gl.le;have hcs:=hk.sp;have lcs:=hk.le;refine En func49 ?_;refine Nz 0 ?_;refine Wr 1 fun b2 hb2=>?_;refine Nv 1 ?_;refine Nu ?_;refine CS.loopM (σ:=Int) (rsL [4,4,6,24]) (fun s=>[(5,.int .i64 s)]) (fun _=>_) (fun s=>0≤s∧s≤c.l.length∧∀j:Int,0≤j→j<s→putB r.ths.l (nth c.l j).t (nth c.l j).s=true) (fun s=>(c.l.length-s).toNat) 0 (fun _ _=>rfl) rfl rfl ⟨by omega,by omega,fun j _ _=>by omega⟩ ?_;intro s t hs;obtain⟨hs1,hs2,hs3⟩:=hs;refine Cs (Nz 2 ?_);refine Wk 1 Nc ?_;refine Wp ?_ ?_<;>intro hc1
 ·refine Ck (Qc (Cs (Ce (Cs (Dr mixed 0 ?_)))));refine Dk 2 (Bb 0) ?_;refine Dk 1 (Cy (C:=cLit) (s:=c) sl29 rfl rfl rfl rfl hk (by omega) (by omega)) ?_;refine Dk 2 (CW (C:=cLit) (s:=c) (i:=s) (j:=0) rfl rfl rfl hk ⟨by omega,by omega⟩ (by decide) rfl tk3) ?_;refine Dk 1 (Cy (C:=cLit) (s:=c) sl29 rfl rfl rfl rfl hk (by omega) (by omega)) ?_;refine Dk 0 (CW (C:=cLit) (s:=c) (i:=s) (j:=1) rfl rfl rfl hk ⟨by omega,by omega⟩ (by decide) rfl tk3) ?_;refine Dk 1 (Cb rfl rfl Sb (fun u hu=>TE r u (hr.st hu) _ _)) ?_;refine Dd (Qc (Cn ?_ ?_))<;>intro hc2
  ·refine Nz 1 ?_;refine Wd (Qc (Cr (Qs (Qr (Qr (Qs (Qr ?_)))))))
   exact out1 rfl rfl (Ab (by
      have:c.l.all (fun x=>putB r.ths.l x.t x.s)=false:=by
       rw[List.all_eq_false];exact⟨_,Ad hs1 (by omega),by simpa using hc2⟩
      unfold D6;rw[this];rfl))
  refine Ck (Qb (Qc (Ny 1 ?_)));refine Wk 1 Za ?_;refine Wd ?_
  exact QS.head (s+1) rfl rfl ⟨⟨by omega,by omega,fun j h0 h1=>by
     rcases(show j<s∨j=s by omega)with h|h
     ·exact hs3 j h0 h
     rw[h];exact hc2⟩,by omega⟩
 refine Cv (Qe (Qe (Qx (Qc (Nz 1 ?_)))));refine Wk 2 Nc ?_;refine Wd (Qc (Cr ?_))
 exact out1 rfl rfl (Ab (by
    have:c.l.all (fun x=>putB r.ths.l x.t x.s)=true:=by
     rw[List.all_eq_true];intro x hx;obtain⟨i,h0,h3,rfl⟩:=Bg hx;exact hs3 i h0 (by omega)
    unfold D6;rw[this];rfl))
theorem DX (z:Stt) (w:World) (hz:SttOk w z) (c:Sl Lit) (hk:SlT cLit w c) (hb:∀x∈c.l,0≤x.t∧x.t<z.ths.l.length):
  Calls prog 110 #[.agg #[z.ths.v,z.prs.v,z.pls.v],c.v] w (RetB w (.bool (Bt z.ths.l c.l))):=by
 have zth:=hz.ths.ints;have zpr:=hz.prs.ints;have zpl:=hz.pls.ints;have lth:=zth.le;have lpr:=zpr.le;have lpl:=zpl.le;have hcs:=hk.sp;have lcs:=hk.le;refine En func110 ?_;refine Nz 0 ?_;refine Wr 1 fun b2 hb2=>?_;refine Nv 1 ?_;refine Nu ?_;refine CS.loopM (σ:=Int) (rsL [4,4,6,32]) (fun s=>[(5,.int .i64 s)]) (fun _=>_) (fun s=>0≤s∧s≤c.l.length∧∀j:Int,0≤j→j<s→(decide (nth z.ths.l (nth c.l j).t=(nth c.l j).s) == (nth c.l j).nt)=false) (fun s=>(c.l.length-s).toNat) 0 (fun _ _=>rfl) rfl rfl ⟨by omega,by omega,fun j _ _=>by omega⟩ ?_;intro s t hs;obtain⟨hs1,hs2,hs3⟩:=hs;refine Cs (Nz 2 ?_);refine Wk 1 Nc ?_;refine Wp ?_ ?_<;>intro hc1
 ·have hbn:=hb _ (Ad hs1 (by omega));refine Ck (Qc (Cs (Ce (Cs (Dr mixed 1 ?_)))));refine Dk 2 (Ba 0) ?_;refine Dk 1 (Cy (C:=cLit) (s:=c) sl29 rfl rfl rfl rfl hk (by omega) (by omega)) ?_;refine Dk 0 (CW (C:=cLit) (s:=c) (i:=s) (j:=0) rfl rfl rfl hk ⟨by omega,by omega⟩ (by decide) rfl tk3) ?_;refine Dk 0 (IE sl37 rfl rfl zth (by omega) (by omega)) ?_;refine Dk 2 (RK rfl zth ⟨by omega,by omega⟩ tk3) ?_;refine Dk 1 (Cy (C:=cLit) (s:=c) sl29 rfl rfl rfl rfl hk (by omega) (by omega)) ?_;refine Dk 3 (CW (C:=cLit) (s:=c) (i:=s) (j:=1) rfl rfl rfl hk ⟨by omega,by omega⟩ (by decide) rfl tk3) ?_;refine Dk 1 (Cy (C:=cLit) (s:=c) sl29 rfl rfl rfl rfl hk (by omega) (by omega)) ?_;refine Dk 0 (CW (C:=cLit) (s:=c) (i:=s) (j:=2) rfl rfl rfl hk ⟨by omega,by omega⟩ (by decide) rfl tk4) ?_;refine Dk 0 (KY rfl rfl underlying4) ?_;refine Dd (Qc (Cn ?_ ?_))<;>intro hc2
  ·refine Nz 1 ?_;refine Wd (Qc (Cr (Qs (Qr (Qr (Qs (Qr ?_)))))))
   exact out1 rfl rfl (Ab (by
      have:Bt z.ths.l c.l=false:=by
       unfold Bt;rw[List.all_eq_false];exact⟨_,Ad hs1 (by omega),by simpa using hc2⟩
      rw[this]))
  refine Ck (Qb (Qc (Ny 1 ?_)));refine Wk 1 Za ?_;refine Wd ?_
  exact QS.head (s+1) rfl rfl ⟨⟨by omega,by omega,fun j h0 h1=>by
     rcases(show j<s∨j=s by omega)with h|h
     ·exact hs3 j h0 h
     rw[h];simpa using hc2⟩,by omega⟩
 refine Cv (Qe (Qe (Qx (Qc (Nz 1 ?_)))));refine Wd (Qc (Cr ?_))
 exact out1 rfl rfl (Ab (by
    have:Bt z.ths.l c.l=true:=by
     unfold Bt;rw[List.all_eq_true];intro x hx;obtain⟨i,h0,h3,rfl⟩:=Bg hx;rw[hs3 i h0 (by omega)];rfl
    rw[this]))
theorem in_c (xs:List Int) (v:Value) (n:Int) (w:World) (h1:SlI w v xs):
  Calls prog 113 #[v,.int .i64 n] w (RetB w (.bool (decide (n∈xs)))):=by
 have hl1:=h1.le;refine En func113 ?_;refine Nz 1 ?_;refine Nv 1 ?_;refine Nu ?_;refine CS.loopM (σ:=Int) (rsL [4,4,6,17]) (fun s=>[(5,.int .i64 s)]) (fun _=>_) (fun s=>0≤s∧s≤xs.length∧∀j:Int,0≤j→j<s→¬nth xs j=n) (fun s=>(xs.length-s).toNat) 0 (fun _ _=>rfl) rfl rfl ⟨by omega,by omega,fun j _ _=>by omega⟩ ?_;intro s t hs;obtain⟨hs1,hs2,hs3⟩:=hs;refine Cs (Nz 2 ?_);refine Wk 1 Na ?_;refine Wp ?_ ?_<;>intro hc1
 ·refine Ck (Qc (Cs (Ce (Nz 2 ?_))));refine Wk 0 Xa ?_;refine Wk 2 Ia ?_;refine Wp ?_ ?_<;>intro hc2
  ·refine Nz 1 ?_;exact Wd (Qc (Cr (Qs (Qr (Qr (Qs (Qr (out1 rfl rfl (Ab (by rw[decide_eq_true (by rw[←hc2];exact Ad hs1 (by omega))]))))))))))
  refine Ck (Qb (Qc (Ny 1 ?_)));refine Wk 1 Za ?_;refine Wd ?_
  exact QS.head (s+1) rfl rfl ⟨⟨by omega,by omega,fun j h0 h1=>by
     rcases(show j<s∨j=s by omega)with h|h
     ·exact hs3 j h0 h
     rw[h];exact hc2⟩,by omega⟩
 refine Cv (Qe (Qe (Qx (Qc (Nz 1 ?_)))));refine Wd (Qc (Cr ?_))
 exact out1 rfl rfl (Ab (by
    rw[decide_eq_false];intro hm;obtain⟨i,h0,h3,h4⟩:=Bg hm
    exact hs3 i h0 (by omega) h4))
theorem Ro (l:Sl ByteArray) (i:Int) (w:World) (hk:SlT cStr w l) (h0:0≤i) (h1:i<l.l.length):
  Calls prog 74 #[l.v,.int .i64 i] w (RetB w (.bool ((l.l.take i.toNat).any fun x=>seq x (nth l.l i)))):=by
 have hls:=hk.sp;have lls:=hk.le;refine En func74 ?_;refine Nz 1 ?_;refine Nv 1 ?_;refine Nu ?_;refine CS.loopM (σ:=Int) (rsL [4,4,6,19]) (fun s=>[(5,.int .i64 s)]) (fun _=>_) (fun s=>0≤s∧s≤i∧∀j:Int,0≤j→j<s→seq (nth l.l j) (nth l.l i)=false) (fun s=>(i-s).toNat) 0 (fun _ _=>rfl) rfl rfl ⟨by omega,by omega,fun j _ _=>by omega⟩ ?_;intro s t hs;obtain⟨hs1,hs2,hs3⟩:=hs;refine Cs (Nz 3 ?_);refine Wp ?_ ?_<;>intro hc1
 ·refine Ck (Qc (Cs (Ce (Cs (Dr mixed 2 ?_)))));refine Dk 0 (Cy (C:=cStr) (s:=l) sl22 rfl rfl rfl rfl hk (by omega) (by omega)) ?_;refine Dk 2 (Jp (C:=cStr) (s:=l) (i:=s) rfl rfl rfl hk ⟨by omega,by omega⟩ rfl tk9) ?_;refine Dk 0 (Cy (C:=cStr) (s:=l) sl22 rfl rfl rfl rfl hk (by omega) (by omega)) ?_;refine Dk 0 (Jp (C:=cStr) (s:=l) (i:=i) rfl rfl rfl hk ⟨by omega,by omega⟩ rfl tk9) ?_;refine Dk 0 (AL rfl rfl) ?_;refine Dd (Qc (Cn ?_ ?_))<;>intro hc2
  ·refine Nz 1 ?_;exact Wd (Qc (Cr (Qs (Qr (Qr (Qs (Qr (out1 rfl rfl (Ab (by rw[C2 hs1 hc1 (by omega) hc2]))))))))))
  refine Ck (Qb (Qc (Ny 1 ?_)));refine Wk 1 Za ?_;refine Wd ?_
  exact QS.head (s+1) rfl rfl ⟨⟨by omega,by omega,fun j h0 h1=>by
     rcases(show j<s∨j=s by omega)with h|h
     ·exact hs3 j h0 h
     rw[h];exact hc2⟩,by omega⟩
 refine Cv (Qe (Qe (Qx (Qc (Nz 1 ?_)))));exact Wd (Qc (Cr (out1 rfl rfl (Ab (by rw[Du fun j a b=>hs3 j a (by omega)])))))
theorem Nj (l:Sl Int) (w:World) (hk:SlT cInt w l) (hm:(l.l.length:Int)≤1000000):
  Calls prog 58 #[l.v] w (fun e w'=>∃v:Value,v.oneCell'=true∧RetF w v (oints 3 v l.l) e w'):=by
 have hki:=hk.ints;have hone:=hk.one;refine En func58 ?_;refine Nz 1 ?_;refine Nx 0 ?_;refine WS.build0 sl37 zv3 (fun _=>rfl) ?_;intro v3;refine Wz 1 ?_;refine WS.append (j:=0) (xs:=[]) (news:=ints l.l) (m:=l.l.length) sl37 zv3 rfl (by decide) rfl rfl rfl (fun u hu=>(hk.st hu).ints) (by simp[ints,Value.oneCell']) (by omega) (by omega) (fun _=>rfl) (fun _=>rfl) ?_;intro v5;refine WS.oc (j:=0) rfl (fun hv5=>?_);refine Wz 1 ?_;refine Wd (Qc (Cr ?_))
 exact out1 rfl rfl (fun u hu=>⟨v5,hv5,by
   have:=retF (v:=v5) (j:=0) rfl u hu;rw[Nat.zero_add]at this
   exact this⟩)
theorem Dh (l:Sl Lit) (w:World) (hk:SlT cLit w l) (hm:(l.l.length:Int)≤1000000):
  Calls prog 57 #[l.v] w (fun e w'=>∃v:Value,(∃u0,SlT cLit u0 ⟨v,l.l⟩)∧RetF w v (roT cLit ⟨v,l.l⟩) e w'):=by
 have hls:=hk.sp;have hone:=hk.one;refine En func57 ?_;refine Nz 1 ?_;refine Nx 0 ?_;refine WS.build0 sl29 TL (fun _=>rfl) ?_;intro v3;refine Wz 1 ?_;refine WS.append (j:=0) (xs:=[]) (news:=Ay cLit l.l) (m:=l.l.length) sl29 TL rfl (by decide) rfl rfl rfl (fun u hu=>(hk.st hu).sp) hone (by omega) (by omega) (fun _=>rfl) (fun _=>rfl) ?_;intro v5;refine Wz 1 ?_;refine Wd (Qc (Cr ?_));refine QS.weak (L':=[roT cLit ⟨v5,l.l⟩]) (fun u hu=>St.toRo (A:=osl 152 3 v5 (0+l.l.length) ([]++Ay cLit l.l)) (p:=fun u=>SlT cLit u ⟨v5,l.l⟩) (fun S u h=>⟨by have:=A1 h.2;rw[Nat.zero_add]at this;exact this,fun _ _=>trivial⟩) hu) ?_;exact out1 rfl rfl (fun u hu=>⟨_,⟨u,hu.ro (j:=0) rfl⟩,retF (j:=0) rfl u hu⟩)
theorem EF (r:Room) (w:World) (hr:RoomOk w r) (v:Value) (xs:List Int) (hx:SlI w v xs):
  Calls prog 112 #[.agg (rcl r).toArray,v] w (RetB w (.bool (ascB r.prs.l.length xs))):=by
 have kpl:=hr.pls;have lpl:=hr.pls.le;have kth:=hr.ths;have lth:=hr.ths.le;have kpr:=hr.prs;have lpr:=hr.prs.le;have kwy:=hr.wys;have lwy:=hr.wys.le;have kac:=hr.acs;have lac:=hr.acs.le;have kau:=hr.aus;have lau:=hr.aus.le;have kgl:=hr.gl;have lgl:=hr.gl.le;have lxs:=hx.le;refine En func112 ?_;refine Nz 0 ?_;refine Wr 1 fun b2 hb2=>?_;refine Nv 1 ?_;refine Nu ?_;refine CS.loopM (σ:=Int) (rsL [4,4,6,37]) (fun s=>[(5,.int .i64 s)]) (fun _=>_) (fun s=>0≤s∧s≤xs.length∧∀j:Int,0≤j→j<s→((decide (0≤nth xs j)&&decide (nth xs j≤(r.prs.l.length:Int)-1))&&(decide (j=0)||decide (nth xs (j-1)<nth xs j)))=true) (fun s=>(xs.length-s).toNat) 0 (fun _ _=>rfl) rfl rfl ⟨by omega,by omega,fun j _ _=>by omega⟩ ?_;intro s t hs;obtain⟨hs1,hs2,hs3⟩:=hs;refine Cs (Nz 2 ?_);refine Wk 1 Na ?_;refine Wp ?_ ?_<;>intro hc1
 ·refine Ck (Qc (Cs (Ce (Cs (Dr mixed 2 ?_)))));refine Dk 0 Xa ?_;refine Dk 1 Ia ?_;refine Dk 0 (Ba 0) ?_;refine Dk 0 Nc ?_;refine Dk 0 Zb ?_;refine Dk 2 (Cb rfl rfl EU (fun u hu=>C0 _ _ _ u)) ?_;refine De 0 ?_;refine De 0 ?_;refine Df 0 rfl rfl (fun hg=>Fm (eg_ hg rfl)) ?_;refine Dn 0 rfl rfl rfl (fun hg=>Fm) ?_;refine Dn 0 rfl rfl rfl (fun hg=>Fm) ?_;refine Dn 0 rfl rfl rfl (fun hg=>Xa (eg_ hg rfl)) ?_;refine Dn 0 rfl rfl rfl (fun hg=>Ia) ?_;refine Dn 0 rfl rfl rfl (fun hg=>Fm) ?_;refine Dn 0 rfl rfl rfl (fun hg=>Fm) ?_;refine Dn 0 rfl rfl rfl (fun hg=>Zb) ?_;refine Dn 0 rfl rfl rfl (fun hg=>Xa (eg_ hg rfl)) ?_;refine Dn 0 rfl rfl rfl (fun hg=>Ia) ?_;refine Dn 0 rfl rfl rfl (fun hg=>Fk) ?_;refine Df 0 rfl rfl (fun hg=>CD (eg_ hg rfl) (Jd hg rfl) rfl) ?_;refine Dk 0 Po ?_;refine Dd (Qc (Cn ?_ ?_))<;>intro hc2
  ·refine Nz 1 ?_;exact Wd (Qc (Cr (Qs (Qr (Qr (Qs (Qr (out1 rfl rfl (Ab (by rw[show ascB r.prs.l.length xs=false from Dp hs1 (by omega) (by simp only[Bool.and_eq_false_iff,Bool.or_eq_false_iff,decide_eq_false_iff_not];omega)]))))))))))
  refine Ck (Qb (Qc (Ny 1 ?_)));refine Wk 1 Za ?_;refine Wd ?_
  exact QS.head (s+1) rfl rfl ⟨⟨by omega,by omega,fun j h0 h1=>by
     rcases(show j<s∨j=s by omega)with h|h
     ·exact hs3 j h0 h
     rw[h];simp only[Bool.and_eq_true,Bool.or_eq_true,decide_eq_true_eq];omega⟩,by omega⟩
 refine Cv (Qe (Qe (Qx (Qc (Nz 1 ?_)))));exact Wd (Qc (Cr (out1 rfl rfl (Ab (by rw[show ascB r.prs.l.length xs=true from CI fun j h0 h1=>hs3 j h0 (by omega)])))))
theorem Jbj (r:Room) (w:World) (hr:RoomOk w r) (i:Int) (h0:0≤i) (h1:i<r.acs.l.length) (hn:∀x∈r.acs.l,x.nm.size≤70000):
  Calls prog 77 #[.agg (rcl r).toArray,.int .i64 i] w (RetB w (.bool (actB r i))):=by
 have kpl:=hr.pls;have lpl:=hr.pls.le;have kth:=hr.ths;have lth:=hr.ths.le;have kpr:=hr.prs;have lpr:=hr.prs.le;have kwy:=hr.wys;have lwy:=hr.wys.le;have kac:=hr.acs;have lac:=hr.acs.le;have kau:=hr.aus;have lau:=hr.aus.le;have kgl:=hr.gl;have lgl:=hr.gl.le;have ha:ActOk w (nth r.acs.l i):=hr.acs.at h0 h1;have hus:=ha.us.ints;have hsp:=ha.sp.ints;have hbr:=ha.br.ints;have kse:=ha.se;have lse:=kse.le;have lus:=hus.le;have lsp:=hsp.le;have lbr:=hbr.le;have hnm:=hn _ (Ad h0 h1);refine En func77 ?_;refine Nz 0 ?_;refine Wr 1 fun b2 hb2=>?_;refine Nx 1 ?_;refine Wk 1 (Ba 0) ?_;refine Wk 0 Xc ?_;refine Wk 0 Ua ?_;refine Wq 0 G1 fun b5 hb5=>?_;refine Wv 0 0 ?_;refine Nv 1 ?_;refine Nu ?_;refine CS.loopM (σ:=Int) (rsL [4,4,16,29]) (fun s=>[(6,.int .i64 s)]) (fun _=>_) (fun s=>0≤s∧s≤i∧∀j:Int,0≤j→j<s→seq (nth r.acs.l j).nm (nth r.acs.l i).nm=false) (fun s=>(i-s).toNat) 0 (fun _ _=>rfl) rfl rfl ⟨by omega,by omega,fun j _ _=>by omega⟩ ?_;intro a t hs;obtain⟨ha1,ha2,ha3⟩:=hs;refine Cs (Nz 3 ?_);refine Wp ?_ ?_<;>intro hc1
 ·refine Ck (Qc (Cs (Ce (Cs (Dr mixed 1 ?_)))));refine Dk 1 (Ba 1) ?_;refine Dk 1 Xc ?_;refine Dk 1 (Uc 8 0) ?_;refine Dk 0 (Ba 0) ?_;refine Dk 0 (AL rfl rfl) ?_;refine Dd (Qc (Cn ?_ ?_))<;>intro hc2
  ·refine Nz 1 ?_;exact Wd (Qc (Cr (Qs (Qr (Qr (Qs (Qr (out1 rfl rfl (Ab (by rw[show actB r i=false by unfold actB newB;rw[C2 ha1 hc1 (by omega) hc2];rfl]))))))))))
  refine Ck (Qb (Qc (Ny 1 ?_)));refine Wk 1 Za ?_;refine Wd ?_
  exact QS.head (a+1) rfl rfl ⟨⟨by omega,by omega,fun j h0 h1=>by
     rcases(show j<a∨j=a by omega)with h|h
     ·exact ha3 j h0 h
     rw[h];exact hc2⟩,by omega⟩
 refine Cv (Qe (Qe (Qx (Qc (Cs (Nz 1 ?_))))));refine Wk 0 (Ba 0) ?_;refine Wk 2 (Cb rfl rfl QJ (fun u hu=>GF _ u (by omega))) ?_;refine We 0 ?_;refine We 0 ?_;refine We 0 ?_;refine Wf 0 rfl rfl (fun hg=>Cb rfl (ec_ (eg_ hg rfl) (ec_ (eg_ hg rfl) en_)) KJ (fun u hu=>EG r u (hr.st hu) _)) ?_;refine We 0 ?_;refine Wk 1 Po ?_;refine We 0 ?_;refine We 0 ?_;refine Wf 0 rfl rfl (fun hg=>Cb rfl (ec_ (eg_ hg rfl) (ec_ rfl (ec_ rfl en_))) EU (fun u hu=>C0 _ _ _ u)) ?_;refine We 0 ?_;refine Wk 1 Po ?_;refine We 0 ?_;refine We 0 ?_;refine We 0 ?_;refine Wf 0 rfl rfl (fun hg=>Cb rfl (ec_ (eg_ hg rfl) (ec_ (eg_ hg rfl) en_)) PY (fun u hu=>EF r u (hr.st hu) _ _ (hus.st hu))) ?_;refine We 0 ?_;refine Wk 1 Po ?_;refine We 0 ?_;refine We 0 ?_;refine We 0 ?_;refine Wf 0 rfl rfl (fun hg=>Cb rfl (ec_ (eg_ hg rfl) (ec_ (eg_ hg rfl) en_)) PY (fun u hu=>EF r u (hr.st hu) _ _ (hsp.st hu))) ?_;refine We 0 ?_;refine Wk 1 Po ?_;refine We 0 ?_;refine We 0 ?_;refine We 0 ?_;refine Wf 0 rfl rfl (fun hg=>Cb rfl (ec_ (eg_ hg rfl) (ec_ (eg_ hg rfl) en_)) PY (fun u hu=>EF r u (hr.st hu) _ _ (hbr.st hu))) ?_;refine We 0 ?_;refine Wk 1 Po ?_;refine We 0 ?_;refine We 0 ?_;refine We 0 ?_;refine We 0 ?_;refine Wk 0 Po ?_;refine Wp ?_ ?_<;>intro hc3
 ·refine Nz 1 ?_;exact Wd (Qc (Cr (Qr (out1 rfl rfl (Ab (by unfold actB;rw[show act2 r (nth r.acs.l i)=false by(unfold act2 placeB;grind)];simp))))))
 refine Ck (Qc (Cs (Nz 1 ?_)));refine Nu ?_;refine CS.loopM (σ:=Int) (rsL [4,4,74,89]) (fun s=>[(7,.int .i64 s)]) (fun _=>_) (fun s=>0≤s∧s≤(nth r.acs.l i).sp.l.length∧∀j:Int,0≤j→j<s→nth (nth r.acs.l i).sp.l j∈(nth r.acs.l i).us.l) (fun s=>((nth r.acs.l i).sp.l.length-s).toNat) 0 (fun _ _=>rfl) rfl rfl ⟨by omega,by omega,fun j _ _=>by omega⟩ ?_;intro b t hs;obtain⟨hb1,hb2,hb3⟩:=hs;refine Cs (Nz 2 ?_);refine Wk 0 (Ba 0) ?_;refine Wk 1 Na ?_;refine Wp ?_ ?_<;>intro hc4
 ·refine Ck (Qc (Cs (Ce (Cs (Dr mixed 1 ?_)))));refine Dk 1 (Ba 0) ?_;refine Dk 1 (Ba 0) ?_;refine Dk 0 Xa ?_;refine Dk 0 Ia ?_;refine Dk 1 (Cb rfl rfl Us (fun u hu=>in_c _ _ _ u (hus.st hu))) ?_;refine Dd (Qc (Cn ?_ ?_))<;>intro hc5
  ·refine Nz 1 ?_;exact Wd (Qc (Cr (Qs (Qr (Qr (Qs (Qr (out1 rfl rfl (Ab (by unfold actB;rw[show act3 (nth r.acs.l i)=false from Dp hb1 (by omega) (by simpa using hc5)];simp))))))))))
  refine Ck (Qb (Qc (Ny 1 ?_)));refine Wk 1 Za ?_;refine Wd ?_
  exact QS.head (b+1) rfl rfl ⟨⟨by omega,by omega,fun j h0 h1=>by
     rcases(show j<b∨j=b by omega)with h|h
     ·exact hb3 j h0 h
     rw[h];exact hc5⟩,by omega⟩
 refine Cv (Qe (Qe (Qx (Qc (Cs (Nz 1 ?_))))));refine Nu ?_;refine CS.loopM (σ:=Int) (rsL [4,4,90,104]) (fun s=>[(8,.int .i64 s)]) (fun _=>_) (fun s=>0≤s∧s≤(nth r.acs.l i).br.l.length∧∀j:Int,0≤j→j<s→nth (nth r.acs.l i).br.l j∉(nth r.acs.l i).us.l) (fun s=>((nth r.acs.l i).br.l.length-s).toNat) 0 (fun _ _=>rfl) rfl rfl ⟨by omega,by omega,fun j _ _=>by omega⟩ ?_;intro c t hs;obtain⟨hc1,hc2,hc3⟩:=hs;refine Cs (Nz 2 ?_);refine Wk 0 (Ba 0) ?_;refine Wk 1 Na ?_;refine Wp ?_ ?_<;>intro hc6
 ·refine Ck (Qc (Cs (Ce (Cs (Dr mixed 1 ?_)))));refine Dk 1 (Ba 0) ?_;refine Dk 1 (Ba 0) ?_;refine Dk 0 Xa ?_;refine Dk 0 Ia ?_;refine Dk 0 (Cb rfl rfl Us (fun u hu=>in_c _ _ _ u (hus.st hu))) ?_;refine Dd (Qc (Cn ?_ ?_))<;>intro hc7
  ·refine Nz 1 ?_;exact Wd (Qc (Cr (Qs (Qr (Qr (Qs (Qr (out1 rfl rfl (Ab (by unfold actB;rw[show act4 (nth r.acs.l i)=false from Dp hc1 (by omega) (by simpa using hc7)];simp))))))))))
  refine Ck (Qb (Qc (Ny 1 ?_)));refine Wk 1 Za ?_;refine Wd ?_
  exact QS.head (c+1) rfl rfl ⟨⟨by omega,by omega,fun j h0 h1=>by
     rcases(show j<c∨j=c by omega)with h|h
     ·exact hc3 j h0 h
     rw[h];exact hc7⟩,by omega⟩
 refine Cv (Qe (Qe (Qx (Qc (Cs (Nz 1 ?_))))));refine Nu ?_;refine CS.loopM (σ:=Int) (rsL [4,4,10,10,105,144]) (fun s=>[(9,.int .i64 s)]) (fun _=>_) (fun s=>0≤s∧s≤(nth r.acs.l i).se.l.length∧∀j:Int,0≤j→j<s→(putB r.ths.l (nth (nth r.acs.l i).se.l j).t (nth (nth r.acs.l i).se.l j).s&&!(((nth r.acs.l i).se.l.take j.toNat).any fun x=>decide (x.t=(nth (nth r.acs.l i).se.l j).t)))=true) (fun s=>((nth r.acs.l i).se.l.length-s).toNat) 0 (fun _ _=>rfl) rfl rfl ⟨by omega,by omega,fun j _ _=>by omega⟩ ?_;intro p t hs;obtain⟨hp1,hp2,hp3⟩:=hs;refine Cs (Nz 2 ?_);refine Wk 0 (Ba 0) ?_;refine Wk 1 Nc ?_;refine Wp ?_ ?_<;>intro hc8
 ·refine Ck (Qc (Cs (Ce (Cs (Cs (Dr mixed 0 ?_))))));refine Dk 1 (Bb 1) ?_;refine Dk 1 (Ba 0) ?_;refine Dk 1 Xc ?_;refine Dk 1 (Uc 2 0) ?_;refine Dk 1 (Ba 0) ?_;refine Dk 1 Xc ?_;refine Dk 0 (Uc 2 1) ?_;refine Dk 1 (Cb rfl rfl Sb (fun u hu=>TE r u (hr.st hu) _ _)) ?_;refine Dd (Qc (Cn ?_ ?_))<;>intro hc9
  ·refine Nz 1 ?_;exact Wd (Qc (Cr (Qr (Qs (Qr (Qr (Qs (Qr (out1 rfl rfl (Ab (by unfold actB;rw[show act5 r (nth r.acs.l i)=false from Dp hp1 (by omega) (by rw[hc9];rfl)];simp)))))))))))
  refine Ck (Qc (Nz 1 ?_));refine Nu ?_;refine CS.loopM (σ:=Int) (rsL [4,4,127,144]) (fun s=>[(10,.int .i64 s)]) (fun _=>_) (fun s=>0≤s∧s≤p∧∀j:Int,0≤j→j<s→¬(nth (nth r.acs.l i).se.l j).t=(nth (nth r.acs.l i).se.l p).t) (fun s=>(p-s).toNat) 0 (fun _ _=>rfl) rfl rfl ⟨by omega,by omega,fun j _ _=>by omega⟩ ?_;intro q t hs;obtain⟨hq1,hq2,hq3⟩:=hs;refine Cs (Nz 3 ?_);refine Wp ?_ ?_<;>intro hc10
  ·refine Ck (Qc (Cs (Ce (Cs (Dr mixed 1 ?_)))));refine Dk 1 (Ba 0) ?_;refine Dk 1 Xc ?_;refine Dk 1 (Uc 2 0) ?_;refine Dk 1 (Ba 0) ?_;refine Dk 1 Xc ?_;refine Dk 1 (Uc 2 0) ?_;refine Dd (Qc (Cn ?_ ?_))<;>intro hc11
   ·refine Nz 1 ?_;exact Wd (Qc (Cr (Qs (Qr (Qr (Qs (Qs (Qr (Qr (Qs (Qr (out1 rfl rfl (Ab (by unfold actB;rw[show act5 r (nth r.acs.l i)=false from Dp hp1 (by omega) (by rw[C2 (p:=fun x:Put=>decide (x.t=(nth (nth r.acs.l i).se.l p).t)) hq1 hc10 (by omega) (decide_eq_true hc11)];simp)];simp))))))))))))))
   refine Ck (Qb (Qc (Ny 1 ?_)));refine Wk 1 Za ?_;refine Wd ?_
   exact QS.head (q+1) rfl rfl ⟨⟨by omega,by omega,fun j h0 h1=>by
      rcases(show j<q∨j=q by omega)with h|h
      ·exact hq3 j h0 h
      rw[h];exact hc11⟩,by omega⟩
  refine Cv (Qe (Qe (Qx (Qb (Qc (Ny 1 ?_))))));refine Wk 1 Za ?_;refine Wd ?_
  exact QS.head (p+1) rfl rfl ⟨⟨by omega,by omega,fun j h0 h1=>by
     rcases(show j<p∨j=p by omega)with h|h
     ·exact hp3 j h0 h
     rw[h];rw[hc9,Du (p:=fun x:Put=>decide (x.t=(nth (nth r.acs.l i).se.l p).t)) fun j a b=>decide_eq_false (hq3 j a (by omega))];rfl⟩,by omega⟩
 refine Cv (Qe (Qe (Qx (Qc (Nz 1 ?_)))));refine Wd (Qc (Cr ?_));have q1:newB Actn.nm r.acs.l i=true:=by unfold newB;rw[Du fun j a b=>ha3 j a (by omega)];rfl
 have q2:act2 r (nth r.acs.l i)=true:=by(unfold act2 placeB;grind)
 have q3:act3 (nth r.acs.l i)=true:=CI fun j a b=>decide_eq_true (hb3 j a (by omega));have q4:act4 (nth r.acs.l i)=true:=CI fun j a b=>by rw[decide_eq_false (hc3 j a (by omega))];rfl
 have q5:act5 r (nth r.acs.l i)=true:=CI fun j a b=>hp3 j a (by omega);exact out1 rfl rfl (Ab (by unfold actB;rw[q1,q2,q3,q4,q5];rfl))
theorem Md {n0:Nat} {w0 u:World} {L:List SA} {j:Nat} {e:TypeId} {v:Value} {xs:List ByteArray} {a:ByteArray} (hj:L[j]? = some (osl e 1 v (Ay cStr xs++[Value.string a]).length (Ay cStr xs++[Value.string a]))) (hu:St n0 w0 L u):SlT cStr u ⟨v,xs++[a]⟩:=by
 have h:=AX hu hj;refine⟨?_,fun _ _=>trivial⟩;have h2:Ay cStr xs++[Value.string a]=Ay cStr (xs++[a]):=by rw[B6,DU];rfl
 have h3:(Ay cStr xs++[Value.string a]).length=(xs++[a]).length:=by rw[h2,Bv];exact Nat.mul_one _
 rw[h3,h2]at h;exact h
theorem Ko {α:Type} [Inhabited α] (f:α→ByteArray) {l:List α} {s:Int} (h0:0≤s) (h1:s<l.length):Ay cStr ((l.take s.toNat).map f)++[Value.string (f (nth l s))]=Ay cStr ((l.take (s+1).toNat).map f):=by
 have h2:s.toNat<l.length:=by omega
 rw[show(s+1).toNat=s.toNat+1 by omega,List.take_succ_eq_append_getElem h2,List.map_append,B6];congr 1;simp[Ay,cStr,nth,List.getD,h2]
theorem LF {α:Type} (f:α→ByteArray) {l:List α} {s:Int} (h0:0≤s) (h1:s≤l.length):(Ay cStr ((l.take s.toNat).map f)).length=s.toNat:=by
 rw[Bv,List.length_map,List.length_take];show min s.toNat l.length*1=s.toNat;omega
theorem Qy {α:Type} [Inhabited α] (f:α→ByteArray) {l:List α} {i:Int} (h0:0≤i) (h1:i<l.length):
  ((((l.take i.toNat).map f++[f (nth l i)]).take i.toNat).any fun x=>seq x (nth ((l.take i.toNat).map f++[f (nth l i)]) i)) = !newB f l i:=by
 have h2:((l.take i.toNat).map f).length=i.toNat:=by simp;omega
 rw[Ra h2,List.take_append_of_le_length (by omega),List.take_of_length_le (by omega),List.any_map];unfold newB;rw[Bool.not_not]
 rfl
theorem LG {α:Type} [Inhabited α] (f:α→ByteArray) (l:List α) (i:Int) (v:Value) (w:World) (hk:SlT cStr w ⟨v,(l.take i.toNat).map f++[f (nth l i)]⟩) (h0:0≤i) (h1:i<l.length):
  Calls prog 74 #[v,.int .i64 i] w (RetB w (.bool (!newB f l i))):=by
 have:=Ro ⟨v,(l.take i.toNat).map f++[f (nth l i)]⟩ i w hk h0 (by simp;omega)
 rwa [Qy f h0 h1]at this
theorem TB (l:Sl ByteArray) (i:Int) (w:World) (hk:SlT cStr w l) (h0:0≤i) (h1:i<l.l.length):
  Calls prog 74 #[l.v,.int .i64 i] w (RetB w (.bool (!newB id l.l i))):=by
 have:=Ro l i w hk h0 h1;unfold newB
 rwa [Bool.not_not]
theorem OA (r:Room) (w:World) (hr:RoomOk w r) (hn:NmB r):
  Calls prog 45 #[.agg (rcl r).toArray] w (RetB w (.int .i64 (checkE r))):=by
 have kpl:=hr.pls;have lpl:=hr.pls.le;have kth:=hr.ths;have lth:=hr.ths.le;have kpr:=hr.prs;have lpr:=hr.prs.le;have kwy:=hr.wys;have lwy:=hr.wys.le;have kac:=hr.acs;have lac:=hr.acs.le;have kau:=hr.aus;have lau:=hr.aus.le;have kgl:=hr.gl;have lgl:=hr.gl.le;refine En func45 ?_;refine Nz 0 ?_;refine Wr 1 fun b1 hb1=>?_;refine Nv 1 ?_;refine Wk 0 (Ba 0) ?_;refine Wk 2 Nc ?_;refine We 0 ?_;refine We 0 ?_;refine We 0 ?_;refine We 0 ?_;refine Wk 1 Po ?_;refine We 0 ?_;refine We 0 ?_;refine We 0 ?_;refine We 0 ?_;refine Wk 1 Po ?_;refine We 0 ?_;refine We 0 ?_;refine We 0 ?_;refine We 0 ?_;refine Wk 1 Po ?_;refine We 0 ?_;refine We 0 ?_;refine We 0 ?_;refine We 0 ?_;refine Wk 1 Po ?_;refine We 0 ?_;refine We 0 ?_;refine We 0 ?_;refine We 0 ?_;refine Wk 0 Po ?_;refine Wp ?_ ?_<;>intro hc1
 ·refine Nz 1 ?_;exact Wd (Qc (Cr (Qr (out1 rfl rfl (Ab (by rw[show checkE r=2 from if_pos (by(unfold manyB;grind))]))))))
 have e0:manyB r=false:=by(unfold manyB;grind)
 refine Ck (Qc (Cs (Nz 1 ?_)));refine Wk 0 (Ba 0) ?_;refine Wk 1 Nc ?_;refine Wp ?_ ?_<;>intro hc2
 ·refine Nz 1 ?_;exact Wd (Qc (Cr (Qr (out1 rfl rfl (Ab (by unfold checkE;rw[if_neg (by rw[e0];decide),if_pos (by omega)]))))))
 have e1:checkE r=F6 r:=by unfold checkE;rw[if_neg (by rw[e0];decide),if_neg (by omega)]
 refine Ck (Qc (Cs (Nz 1 ?_)));refine Nu ?_;refine CS.loopM (σ:=Int) (rsL [2,2,51,70]) (fun s=>[(3,.int .i64 s)]) (fun _=>_) (fun s=>0≤s∧s≤r.pls.l.length∧∀j:Int,0≤j→j<s→plO r j=0) (fun s=>(r.pls.l.length-s).toNat) 0 (fun _ _=>rfl) rfl rfl ⟨by omega,by omega,fun j _ _=>by omega⟩ ?_;intro a t hs;obtain⟨ha1,ha2,ha3⟩:=hs;refine Cs (Nz 2 ?_);refine Wk 0 (Ba 0) ?_;refine Wk 1 Nc ?_;refine Wp ?_ ?_<;>intro hc3
 ·have hnm:=hn.pl _ (Ad ha1 (by omega));refine Ck (Qc (Cs (Ce (Nz 1 ?_))));refine Wk 1 (Ba 0) ?_;refine Wk 0 Xc ?_;refine Wk 0 Ub ?_;refine Wk 2 (Cb rfl rfl QJ (fun u hu=>GF _ u (by omega))) ?_;refine We 0 ?_;refine We 0 ?_;refine We 0 ?_;refine Wf 0 rfl rfl (fun hg=>Cb rfl (ec_ (eg_ hg rfl) (ec_ (eg_ hg rfl) en_)) WH (fun u hu=>TB r.pls _ u (hr.pls.st hu) ha1 (by omega))) ?_;refine Wk 0 Po ?_;refine Wp ?_ ?_<;>intro hc4
  ·refine Nz 1 ?_;refine Wd (Qc (Cr (Qs (Qr (Qr (Qs (Qr ?_)))))))
   exact out1 rfl rfl (Ab (by
      have hE:plO r a=22:=by(unfold plO;grind)
      rw[e1,show F6 r=22 from Bn ((Aq ha1 (by omega) ha3 (by rw[hE];decide)).trans hE) (by decide)]))
  refine Ck (Qb (Qc (Ny 1 ?_)));refine Wk 1 Za ?_;refine Wd ?_
  exact QS.head (a+1) rfl rfl ⟨⟨by omega,by omega,fun j h0 h1=>by
     rcases(show j<a∨j=a by omega)with h|h
     ·exact ha3 j h0 h
     rw[h];exact(show plO r a=0 by(unfold plO;grind))⟩,by omega⟩
 have e2:checkE r=HO r:=e1.trans (Bm (As fun j a b=>ha3 j a (by omega)));refine Cv (Qe (Qe (Qx (Qc (Nz 1 ?_)))));refine Nv 1 ?_;refine Nu ?_;refine CS.weak (fun _ hu=>hu.osl0 (e:=9) (size:=1)) ?_;refine CS.loopM (σ:=Int×Value) (rsL [2,2,6,6,71,118]) (fun s=>[(5,.int .i64 s.1),(4,s.2)]) (fun s=>[osl 9 1 s.2 (Ay cStr ((r.ths.l.take (s.1).toNat).map Thing.nm)).length (Ay cStr ((r.ths.l.take (s.1).toNat).map Thing.nm)),blk b1 (rcl r) 31]) (fun s=>0≤s.1∧s.1≤r.ths.l.length∧∀j:Int,0≤j→j<s.1→thO r j=0) (fun s=>(r.ths.l.length-s.1).toNat) (0,.slice none 0 0) (fun _ _=>rfl) rfl rfl ⟨by simp,by simp,fun j h0 h1=>by simp at h1;omega⟩ ?_;intro b t hs;obtain⟨hb1,hb2,hb3⟩:=hs;have hln:=LF Thing.nm (l:=r.ths.l) hb1 hb2;refine Cs (Nz 2 ?_);refine Wk 0 (Ba 1) ?_;refine Wk 1 Nc ?_;refine Wp ?_ ?_<;>intro hc5
 ·have hnm:=hn.th _ (Ad hb1 (by omega));refine Ck (Qc (Cs (Ce (Nz 1 ?_))));refine Wk 1 (Ba 1) ?_;refine Wk 0 Xc ?_;refine Wk 0 Ua ?_;refine Wq 0 PL fun b6 hb6=>?_;refine Wv 0 0 ?_;refine Nx 2 ?_;refine Wk 0 (Ba 0) ?_;refine WS.buildV1 sl22 zv9 rfl (by first|rfl|assumption) (fun _=>rfl) ?_;intro v86;refine WS.append1 (j:=2) (jz:=0) sl22 zv9 rfl rfl rfl rfl (by first|rfl|assumption) (by first|omega|(simp;omega)|(simp only[List.length_append,List.length_singleton,List.length_map,List.length_cons,List.length_nil]at*;omega)) (by first|omega|(simp;omega)|(simp only[List.length_append,List.length_singleton,List.length_map,List.length_cons,List.length_nil]at*;omega)) (fun _=>rfl) (fun _=>rfl) ?_;intro v87;refine WS.oc (j:=2) rfl (fun hv87=>?_);refine Wz 1 ?_;refine Nx 1 ?_;refine Wk 0 (Ba 1) ?_;refine Wk 2 (Cb rfl rfl QJ (fun u hu=>GF _ u (by omega))) ?_;refine We 0 ?_;refine We 0 ?_;refine Wf 0 rfl rfl (fun hg=>Cb rfl (ec_ (eg_ hg rfl) (ec_ (eg_ hg rfl) en_)) WH (fun u hu=>LG Thing.nm r.ths.l b.1 _ u (Md (j:=2) rfl hu) hb1 (by omega))) ?_;refine Wk 1 Po ?_;refine We 0 ?_;refine We 0 ?_;refine We 0 ?_;refine Wf 0 rfl rfl (fun hg=>Cb rfl (ec_ (eg_ hg rfl) (ec_ (eg_ hg rfl) en_)) KJ (fun u hu=>EG r u (hr.st hu) _)) ?_;refine We 0 ?_;refine Wk 1 Po ?_;refine We 0 ?_;refine We 0 ?_;refine Wf 0 rfl rfl (fun hg=>Cb rfl (ec_ (eg_ hg rfl) (ec_ rfl (ec_ rfl en_))) EU (fun u hu=>C0 _ _ _ u)) ?_;refine We 0 ?_;refine Wk 1 Po ?_;refine We 0 ?_;refine We 0 ?_;refine We 0 ?_;refine We 0 ?_;refine We 0 ?_;refine Wf 0 rfl rfl (fun hg=>Cb rfl (ec_ (eg_ hg rfl) (ec_ rfl (ec_ (eg_ hg rfl) en_))) EU (fun u hu=>C0 _ _ _ u)) ?_;refine We 0 ?_;refine Wk 0 Po ?_;refine Wp ?_ ?_<;>intro hc6
  ·refine Nz 1 ?_;refine Wd (Qc (Cr (Qs (Qr (Qr (Qs (Qr ?_)))))))
   exact out1 rfl rfl (Ab (by
      have hE:thO r b.1=21:=by(unfold thO thB placeB;grind)
      rw[e2,show HO r=21 from Bn ((Aq hb1 (by omega) hb3 (by rw[hE];decide)).trans hE) (by decide)]))
  refine Ck (Qb (Qc (Ny 1 ?_)));refine Wk 1 Za ?_;refine Wd ?_;refine QS.sel [2,2] rfl ?_
  exact QS.head ((b.1+1,v87)) rfl (by simp only[Ko Thing.nm (l:=r.ths.l) hb1 (by omega)]) ⟨⟨by simp;omega,by simp;omega,fun j h0 h1=>by
     simp only at h1;rcases(show j<b.1∨j=b.1 by omega)with h|h
     ·exact hb3 j h0 h
     rw[h];exact(show thO r b.1=0 by(unfold thO thB placeB;grind))⟩,by simp;omega⟩
 have e3:checkE r=Gc r:=e2.trans (Bm (As fun j a b=>hb3 j a (by omega)));refine Cv (Qe (Qe (Qx (Qc (Nz 1 ?_)))));refine Nv 1 ?_;refine Nu ?_;refine CS.weak (fun _ hu=>hu.osl0 (e:=9) (size:=1)) ?_;refine CS.sel [0,1] rfl ?_;refine CS.loopM (σ:=Int×Value) (rsL [2,2,8,8,119,161]) (fun s=>[(7,.int .i64 s.1),(4,s.2)]) (fun s=>[osl 9 1 s.2 (Ay cStr ((r.prs.l.take (s.1).toNat).map Pro.nm)).length (Ay cStr ((r.prs.l.take (s.1).toNat).map Pro.nm)),blk b1 (rcl r) 31]) (fun s=>0≤s.1∧s.1≤r.prs.l.length∧∀j:Int,0≤j→j<s.1→prO r j=0) (fun s=>(r.prs.l.length-s.1).toNat) (0,.slice none 0 0) (fun _ _=>rfl) rfl rfl ⟨by simp,by simp,fun j h0 h1=>by simp at h1;omega⟩ ?_;intro d t hs;obtain⟨hd1,hd2,hd3⟩:=hs;have hln:=LF Pro.nm (l:=r.prs.l) hd1 hd2;refine Cs (Nz 2 ?_);refine Wk 0 (Ba 1) ?_;refine Wk 1 Nc ?_;refine Wp ?_ ?_<;>intro hc7
 ·have hnm:=hn.pr _ (Ad hd1 (by omega));have hwh:SlT cLit w (nth r.prs.l d.1).wh:=hr.prs.at hd1 (by omega);refine Ck (Qc (Cs (Ce (Nz 1 ?_))));refine Wk 1 (Ba 1) ?_;refine Wk 0 Xc ?_;refine Wk 0 Ua ?_;refine Wq 0 P2 fun b8 hb8=>?_;refine Wv 0 0 ?_;refine Nx 2 ?_;refine Wk 0 (Ba 0) ?_;refine WS.buildV1 sl22 zv9 rfl (by first|rfl|assumption) (fun _=>rfl) ?_;intro v134;refine WS.append1 (j:=2) (jz:=0) sl22 zv9 rfl rfl rfl rfl (by first|rfl|assumption) (by first|omega|(simp;omega)|(simp only[List.length_append,List.length_singleton,List.length_map,List.length_cons,List.length_nil]at*;omega)) (by first|omega|(simp;omega)|(simp only[List.length_append,List.length_singleton,List.length_map,List.length_cons,List.length_nil]at*;omega)) (fun _=>rfl) (fun _=>rfl) ?_;intro v135;refine WS.oc (j:=2) rfl (fun hv135=>?_);refine Wz 1 ?_;refine Nv 1 ?_;refine Wk 0 (Ba 1) ?_;refine Wk 2 (Cb rfl rfl QJ (fun u hu=>GF _ u (by omega))) ?_;refine We 0 ?_;refine We 0 ?_;refine Wf 0 rfl rfl (fun hg=>Cb rfl (ec_ (eg_ hg rfl) (ec_ (eg_ hg rfl) en_)) WH (fun u hu=>LG Pro.nm r.prs.l d.1 _ u (Md (j:=2) rfl hu) hd1 (by omega))) ?_;refine Wk 1 Po ?_;refine We 0 ?_;refine We 0 ?_;refine We 0 ?_;refine Wf 0 rfl rfl (fun hg=>Fm (eg_ hg rfl)) ?_;refine Wn 0 rfl rfl rfl (fun hg=>Bb 3) ?_;refine Wn 0 rfl rfl rfl (fun hg=>Ff) ?_;refine Wn 0 rfl rfl rfl (fun hg=>Ba 1) ?_;refine Wn 0 rfl rfl rfl (fun hg=>Cb rfl (ec_ (eg_ hg rfl) (ec_ (eg_ hg rfl) en_)) KJ (fun u hu=>EG r u (hr.st hu) _)) ?_;refine Wn 0 rfl rfl rfl (fun hg=>Fn) ?_;refine Wf 0 rfl rfl (fun hg=>CD (eg_ hg rfl) (Jd hg rfl) rfl) ?_;refine Wk 0 Po ?_;refine Wp ?_ ?_<;>intro hc8
  ·refine Nz 1 ?_;refine Wd (Qc (Cr (Qr (Qs (Qr (Qr (Qs (Qr ?_))))))))
   exact out1 rfl rfl (Ab (by
      have hE:prO r d.1=24:=by(unfold prO or0 placeB;grind)
      rw[e3,show Gc r=24 from Bn ((Aq hd1 (by omega) hd3 (by rw[hE];decide)).trans hE) (by decide)]))
  refine Ck (Qc (Nz 0 ?_));refine Wk 1 (Bb 3) ?_;refine Wk 0 (Ba 1) ?_;refine Wk 1 (Cb rfl rfl N4 (fun u hu=>Eq r u (hr.st hu) _ (hwh.st hu))) ?_;refine Wp ?_ ?_<;>intro hc9
  ·refine Nz 1 ?_;refine Wd (Qc (Cr (Qs (Qr (Qr (Qs (Qr ?_)))))))
   exact out1 rfl rfl (Ab (by
      have hE:prO r d.1=25:=by(unfold prO or0 whO placeB;grind)
      rw[e3,show Gc r=25 from Bn ((Aq hd1 (by omega) hd3 (by rw[hE];decide)).trans hE) (by decide)]))
  refine Ck (Qb (Qc (Ny 1 ?_)));refine Wk 1 Za ?_;refine Wd ?_;refine QS.sel [2,2] rfl ?_
  exact QS.head ((d.1+1,v135)) rfl (by simp only[Ko Pro.nm (l:=r.prs.l) hd1 (by omega)]) ⟨⟨by simp;omega,by simp;omega,fun j h0 h1=>by
     simp only at h1;rcases(show j<d.1∨j=d.1 by omega)with h|h
     ·exact hd3 j h0 h
     rw[h];exact(show prO r d.1=0 by(unfold prO or0 whO placeB;grind))⟩,by simp;omega⟩
 have e4:checkE r=Gh r:=e3.trans (Bm (As fun j a b=>hd3 j a (by omega)));refine Cv (Qe (Qe (Qx (Qc (Cs (Nz 1 ?_))))));refine Nu ?_;refine CS.loopM (σ:=Int) (rsL [2,2,10,10,162,197]) (fun s=>[(9,.int .i64 s)]) (fun _=>_) (fun s=>0≤s∧s≤r.wys.l.length∧∀j:Int,0≤j→j<s→wyO r j=0) (fun s=>(r.wys.l.length-s).toNat) 0 (fun _ _=>rfl) rfl rfl ⟨by omega,by omega,fun j _ _=>by omega⟩ ?_;intro e t hs;obtain⟨he1,he2,he3⟩:=hs;refine Cs (Nz 2 ?_);refine Wk 0 (Ba 1) ?_;refine Wk 1 Nc ?_;refine Wp ?_ ?_<;>intro hc10
 ·have hwh:SlT cLit w (nth r.wys.l e).wh:=hr.wys.at he1 (by omega);refine Ck (Qc (Cs (Ce (Nz 1 ?_))));refine Wk 1 (Ba 1) ?_;refine Wk 0 Xc ?_;refine Wk 0 Ua ?_;refine Wq 0 N6 fun b10 hb10=>?_;refine Wv 0 0 ?_;refine Nv 0 ?_;refine Wk 1 (Bb 2) ?_;refine Wk 0 (Ba 0) ?_;refine Wk 2 (Cb rfl rfl KJ (fun u hu=>EG r u (hr.st hu) _)) ?_;refine We 0 ?_;refine We 0 ?_;refine We 0 ?_;refine Wf 0 rfl rfl (fun hg=>Cb rfl (ec_ (eg_ hg rfl) (ec_ (eg_ hg rfl) en_)) KJ (fun u hu=>EG r u (hr.st hu) _)) ?_;refine We 0 ?_;refine Wk 1 Po ?_;refine We 0 ?_;refine We 0 ?_;refine We 0 ?_;refine We 0 ?_;refine We 0 ?_;refine Wk 0 Po ?_;refine Wp ?_ ?_<;>intro hc11
  ·refine Nz 1 ?_;refine Wd (Qc (Cr (Qr (Qs (Qr (Qr (Qs (Qr ?_))))))))
   exact out1 rfl rfl (Ab (by
      have hE:wyO r e=23:=by(unfold wyO or0 placeB;grind)
      rw[e4,show Gh r=23 from Bn ((Aq he1 (by omega) he3 (by rw[hE];decide)).trans hE) (by decide)]))
  refine Ck (Qc (Nz 0 ?_));refine Wk 1 (Bb 2) ?_;refine Wk 0 (Ba 0) ?_;refine Wk 1 (Cb rfl rfl N4 (fun u hu=>Eq r u (hr.st hu) _ (hwh.st hu))) ?_;refine Wp ?_ ?_<;>intro hc12
  ·refine Nz 1 ?_;refine Wd (Qc (Cr (Qs (Qr (Qr (Qs (Qr ?_)))))))
   exact out1 rfl rfl (Ab (by
      have hE:wyO r e=25:=by(unfold wyO or0 whO placeB;grind)
      rw[e4,show Gh r=25 from Bn ((Aq he1 (by omega) he3 (by rw[hE];decide)).trans hE) (by decide)]))
  refine Ck (Qb (Qc (Ny 1 ?_)));refine Wk 1 Za ?_;refine Wd ?_;refine QS.sel [1,1] rfl ?_
  exact QS.head (e+1) rfl rfl ⟨⟨by omega,by omega,fun j h0 h1=>by
     rcases(show j<e∨j=e by omega)with h|h
     ·exact he3 j h0 h
     rw[h];exact(show wyO r e=0 by(unfold wyO or0 whO placeB;grind))⟩,by omega⟩
 have e5:checkE r=Ge r:=e4.trans (Bm (As fun j a b=>he3 j a (by omega)));refine Cv (Qe (Qe (Qx (Qc (Cs (Nz 1 ?_))))));refine Nu ?_;refine CS.loopM (σ:=Int) (rsL [2,2,198,217]) (fun s=>[(11,.int .i64 s)]) (fun _=>_) (fun s=>0≤s∧s≤r.acs.l.length∧∀j:Int,0≤j→j<s→acO r j=0) (fun s=>(r.acs.l.length-s).toNat) 0 (fun _ _=>rfl) rfl rfl ⟨by omega,by omega,fun j _ _=>by omega⟩ ?_;intro g t hs;obtain⟨hg1,hg2,hg3⟩:=hs;refine Cs (Nz 2 ?_);refine Wk 0 (Ba 1) ?_;refine Wk 1 Nc ?_;refine Wp ?_ ?_<;>intro hc13
 ·have hwh:SlT cLit w (nth r.acs.l g).wh:=(hr.acs.at hg1 (by omega):ActOk w _).wh;refine Ck (Qc (Cs (Ce (Cs (Nz 0 ?_)))));refine Wk 1 (Bb 1) ?_;refine Wk 1 (Cb rfl rfl Jaf (fun u hu=>Jbj r u (hr.st hu) _ hg1 (by omega) (fun x hx=>(hn.ac x hx).1))) ?_;refine Wp ?_ ?_<;>intro hc14
  ·refine Nz 1 ?_;refine Wd (Qc (Cr (Qr (Qs (Qr (Qr (Qs (Qr ?_))))))))
   exact out1 rfl rfl (Ab (by
      have hE:acO r g=26:=by(unfold acO or0;grind)
      rw[e5,show Ge r=26 from Bn ((Aq hg1 (by omega) hg3 (by rw[hE];decide)).trans hE) (by decide)]))
  refine Ck (Qc (Cs (Dr mixed 0 ?_)));refine Dk 1 (Bb 1) ?_;refine Dk 1 (Ba 1) ?_;refine Dk 1 Xc ?_;refine Dk 0 (Uc 8 4) ?_;refine Dk 1 (Cb rfl rfl N4 (fun u hu=>Eq r u (hr.st hu) _ (hwh.st hu))) ?_;refine Dd (Qc (Cn ?_ ?_))<;>intro hc15
  ·refine Nz 1 ?_;refine Wd (Qc (Cr (Qs (Qr (Qr (Qs (Qr ?_)))))))
   exact out1 rfl rfl (Ab (by
      have hE:acO r g=25:=by(unfold acO or0 whO;grind)
      rw[e5,show Ge r=25 from Bn ((Aq hg1 (by omega) hg3 (by rw[hE];decide)).trans hE) (by decide)]))
  refine Ck (Qb (Qc (Ny 1 ?_)));refine Wk 1 Za ?_;refine Wd ?_
  exact QS.head (g+1) rfl rfl ⟨⟨by omega,by omega,fun j h0 h1=>by
     rcases(show j<g∨j=g by omega)with h|h
     ·exact hg3 j h0 h
     rw[h];exact(show acO r g=0 by(unfold acO or0 whO;grind))⟩,by omega⟩
 have e6:checkE r=Gg r:=e5.trans (Bm (As fun j a b=>hg3 j a (by omega)));refine Cv (Qe (Qe (Qx (Qc (Cs (Nz 1 ?_))))));refine Nu ?_;refine CS.loopM (σ:=Int) (rsL [2,2,218,250]) (fun s=>[(12,.int .i64 s)]) (fun _=>_) (fun s=>0≤s∧s≤r.aus.l.length∧∀j:Int,0≤j→j<s→auO r j=0) (fun s=>(r.aus.l.length-s).toNat) 0 (fun _ _=>rfl) rfl rfl ⟨by omega,by omega,fun j _ _=>by omega⟩ ?_;intro m t hs;obtain⟨hm1,hm2,hm3⟩:=hs;refine Cs (Nz 2 ?_);refine Wk 0 (Ba 1) ?_;refine Wk 1 Nc ?_;refine Wp ?_ ?_<;>intro hc16
 ·have hwh:SlT cLit w (nth r.aus.l m).wh:=hr.aus.at hm1 (by omega);refine Ck (Qc (Cs (Ce (Cs (Cs (Dr mixed 0 ?_))))));refine Dk 1 (Bb 1) ?_;refine Dk 1 (Ba 1) ?_;refine Dk 2 Xc ?_;refine Dk 1 (Uc 3 1) ?_;refine Dk 1 (Ba 1) ?_;refine Dk 2 Xc ?_;refine Dk 0 (Uc 3 2) ?_;refine Dk 1 (Cb rfl rfl Sb (fun u hu=>TE r u (hr.st hu) _ _)) ?_;refine Dd (Qc (Cn ?_ ?_))<;>intro hc17
  ·refine Nz 1 ?_;refine Wd (Qc (Cr (Qr (Qs (Qr (Qr (Qs (Qr ?_))))))))
   exact out1 rfl rfl (Ab (by
      have hE:auO r m=27:=by(unfold auO or0;grind)
      rw[e6,show Gg r=27 from Bn ((Aq hm1 (by omega) hm3 (by rw[hE];decide)).trans hE) (by decide)]))
  refine Ck (Qc (Cs (Dr mixed 0 ?_)));refine Dk 1 (Bb 1) ?_;refine Dk 1 (Ba 1) ?_;refine Dk 1 Xc ?_;refine Dk 0 (Uc 3 0) ?_;refine Dk 1 (Cb rfl rfl N4 (fun u hu=>Eq r u (hr.st hu) _ (hwh.st hu))) ?_;refine Dd (Qc (Cn ?_ ?_))<;>intro hc18
  ·refine Nz 1 ?_;refine Wd (Qc (Cr (Qs (Qr (Qr (Qs (Qr ?_)))))))
   exact out1 rfl rfl (Ab (by
      have hE:auO r m=25:=by(unfold auO or0 whO;grind)
      rw[e6,show Gg r=25 from Bn ((Aq hm1 (by omega) hm3 (by rw[hE];decide)).trans hE) (by decide)]))
  refine Ck (Qb (Qc (Ny 1 ?_)));refine Wk 1 Za ?_;refine Wd ?_
  exact QS.head (m+1) rfl rfl ⟨⟨by omega,by omega,fun j h0 h1=>by
     rcases(show j<m∨j=m by omega)with h|h
     ·exact hm3 j h0 h
     rw[h];exact(show auO r m=0 by(unfold auO or0 whO;grind))⟩,by omega⟩
 have e7:checkE r=glO r:=e6.trans (Bm (As fun j a b=>hm3 j a (by omega)));refine Cv (Qe (Qe (Qx (Qc (Cs (Nz 1 ?_))))));refine Wk 0 (Ba 1) ?_;refine Wk 1 (Cb rfl rfl EU (fun u hu=>C0 _ _ _ u)) ?_;refine Wp ?_ ?_<;>intro hc19
 ·refine Nz 1 ?_;exact Wd (Qc (Cr (Qr (out1 rfl rfl (Ab (by rw[e7,show glO r=1 by(unfold glO or0;grind)]))))))
 refine Ck (Qc (Cs (Nz 0 ?_)));refine Wk 1 (Bb 1) ?_;refine Wk 0 (Ba 1) ?_;refine Wk 1 (Cb rfl rfl N4 (fun u hu=>Eq r u (hr.st hu) _ (kgl.st hu))) ?_;refine Wp ?_ ?_<;>intro hc20
 ·refine Nz 1 ?_;exact Wd (Qc (Cr (Qr (out1 rfl rfl (Ab (by rw[e7,show glO r=25 by(unfold glO or0 whO;grind)]))))))
 refine Ck (Qc (Nz 1 ?_));exact Wd (Qc (Cr (out1 rfl rfl (Ab (by rw[e7,show glO r=0 by(unfold glO or0 whO;grind)])))))
theorem IJ (r:Room) (w:World) (hr:RoomOk w r) (hn:Near r):Calls prog 45 #[.agg (rcl r).toArray] w (RetB w (.int .i64 (checkE r))):=OA r w hr hn.nm
theorem I3 (r:Room) (w:World) (hr:RoomOk w r) (hn:Near r) (z:Stt) (hz:SttOk w z):
  Calls prog 154 #[.agg (rcl r).toArray,.agg #[z.ths.v,z.prs.v,z.pls.v]] w (RetB w (.int .i64 (CX r z))):=by
 have kpl:=hr.pls;have lpl:=hr.pls.le;have kth:=hr.ths;have lth:=hr.ths.le;have kpr:=hr.prs;have lpr:=hr.prs.le;have kwy:=hr.wys;have lwy:=hr.wys.le;have kac:=hr.acs;have lac:=hr.acs.le;have kau:=hr.aus;have lau:=hr.aus.le;have kgl:=hr.gl;have lgl:=hr.gl.le;have zth:=hz.ths.ints;have zpr:=hz.prs.ints;have zpl:=hz.pls.ints;have mth:=zth.le;have mpr:=zpr.le;have mpl:=zpl.le;refine En func154 ?_;refine Nz 0 ?_;refine Wr 0 fun b2 hb2=>?_;refine Wr 1 fun b3 hb3=>?_;refine Nx 0 ?_;refine Wk 0 (Bb 1) ?_;refine Wk 1 (Cb rfl rfl U6 (fun u hu=>IJ r u (hr.st hu) hn)) ?_;refine Nv 2 ?_;refine Wp ?_ ?_<;>intro hc1
 ·have e0:CX r z=checkE r:=Bn rfl hc1;refine Nz 2 ?_;exact Wd (Qc (Cr (Qr (out1 rfl rfl (Ab (by rw[e0]))))))
 have e0:CX r z=stE r z.ths.l z.prs.l z.pls.l:=Bm (by omega);have hpy:1≤r.ply∧r.ply≤4:=Em (by omega);refine Ck (Qc (Cs (Nz 1 ?_)));refine Wk 0 (Ba 0) ?_;refine Wk 1 Na ?_;refine Wk 0 (Ba 1) ?_;refine Wk 2 Nc ?_;refine We 0 ?_;refine We 0 ?_;refine We 0 ?_;refine We 0 ?_;refine We 0 ?_;refine We 0 ?_;refine We 0 ?_;refine Wk 1 Po ?_;refine We 0 ?_;refine We 0 ?_;refine We 0 ?_;refine We 0 ?_;refine We 0 ?_;refine We 0 ?_;refine Wk 0 Po ?_;refine Wp ?_ ?_<;>intro hc2
 ·refine Nz 1 ?_;exact Wd (Qc (Cr (Qr (out1 rfl rfl (Ab (by rw[e0,show stE r z.ths.l z.prs.l z.pls.l=28 from if_neg (by simp only[Bool.and_eq_true,decide_eq_true_eq];omega)]))))))
 have e1:stE r z.ths.l z.prs.l z.pls.l=or0 (AV (ED r z.ths.l) z.ths.l.length) (or0 (AV (EQ r z.prs.l) z.prs.l.length) (AV (EN r z.pls.l) z.pls.l.length)):=if_pos (by simp only[Bool.and_eq_true,decide_eq_true_eq];omega);refine Ck (Qc (Cs (Nz 1 ?_)));refine Nu ?_;refine CS.loopM (σ:=Int) (rsL [4,4,39,54]) (fun s=>[(6,.int .i64 s)]) (fun _=>_) (fun s=>0≤s∧s≤z.ths.l.length∧∀j:Int,0≤j→j<s→ED r z.ths.l j=0) (fun s=>(z.ths.l.length-s).toNat) 0 (fun _ _=>rfl) rfl rfl ⟨by omega,by omega,fun j _ _=>by omega⟩ ?_;intro a t hs;obtain⟨ha1,ha2,ha3⟩:=hs;refine Cs (Nz 2 ?_);refine Wk 0 (Ba 0) ?_;refine Wk 1 Na ?_;refine Wp ?_ ?_<;>intro hc3
 ·refine Ck (Qc (Cs (Ce (Cs (Dr mixed 0 ?_)))));refine Dk 2 (Bb 1) ?_;refine Dk 1 (Ba 0) ?_;refine Dk 0 Xa ?_;refine Dk 0 Ia ?_;refine Dk 1 (Cb rfl rfl Sb (fun u hu=>TE r u (hr.st hu) _ _)) ?_;refine Dd (Qc (Cn ?_ ?_))<;>intro hc4
  ·refine Nz 1 ?_;refine Wd (Qc (Cr (Qs (Qr (Qr (Qs (Qr ?_)))))))
   exact out1 rfl rfl (Ab (by
      have hE:ED r z.ths.l a=28:=by(unfold ED;grind)
      rw[e0,e1,Bn ((Aq ha1 (by omega) ha3 (by rw[hE];decide)).trans hE) (by decide)]))
  refine Ck (Qb (Qc (Ny 1 ?_)));refine Wk 1 Za ?_;refine Wd ?_
  exact QS.head (a+1) rfl rfl ⟨⟨by omega,by omega,fun j h0 h1=>by
     rcases(show j<a∨j=a by omega)with h|h
     ·exact ha3 j h0 h
     rw[h];unfold ED;exact if_pos hc4⟩,by omega⟩
 have e2:=(e0.trans e1).trans (Bm (As fun j a b=>ha3 j a (by omega)));refine Cv (Qe (Qe (Qx (Qc (Cs (Nz 1 ?_))))));refine Nu ?_;refine CS.loopM (σ:=Int) (rsL [4,4,8,8,55,83]) (fun s=>[(7,.int .i64 s)]) (fun _=>_) (fun s=>0≤s∧s≤z.prs.l.length∧∀j:Int,0≤j→j<s→EQ r z.prs.l j=0) (fun s=>(z.prs.l.length-s).toNat) 0 (fun _ _=>rfl) rfl rfl ⟨by omega,by omega,fun j _ _=>by omega⟩ ?_;intro b t hs;obtain⟨hb1,hb2,hb3⟩:=hs;refine Cs (Nz 2 ?_);refine Wk 0 (Ba 0) ?_;refine Wk 1 Na ?_;refine Wp ?_ ?_<;>intro hc5
 ·refine Ck (Qc (Cs (Ce (Nz 1 ?_))));refine Wk 1 (Ba 0) ?_;refine Wk 0 Xa ?_;refine Wk 1 Ia ?_;refine Nx 0 ?_;refine Wk 1 (Bb 1) ?_;refine Wk 2 (Cb rfl rfl KJ (fun u hu=>EG r u (hr.st hu) _)) ?_;refine Wj 0 ?_;refine Wj 0 ?_;refine Wk 1 Pa ?_;refine Wj 0 ?_;refine Wj 0 ?_;refine Wj 0 ?_;refine Wj 0 ?_;refine Wj 0 ?_;refine Wt 0 rfl rfl (fun hg=>Cb rfl (ec_ (eg_ hg rfl) (ec_ (eg_ hg rfl) (ec_ rfl en_))) EU (fun u hu=>C0 _ _ _ u)) ?_;refine Wj 0 ?_;refine Wk 0 Pa ?_;refine Wp ?_ ?_<;>intro hc6
  ·refine Nz 1 ?_;refine Wd (Qc (Cr (Qs (Qr (Qr (Qs (Qr ?_)))))))
   exact out1 rfl rfl (Ab (by
      have hE:EQ r z.prs.l b=28:=by(unfold EQ placeB;grind)
      rw[e2,Bn ((Aq hb1 (by omega) hb3 (by rw[hE];decide)).trans hE) (by decide)]))
  refine Ck (Qb (Qc (Ny 1 ?_)));refine Wk 1 Za ?_;refine Wd ?_
  exact QS.head (b+1) rfl rfl ⟨⟨by omega,by omega,fun j h0 h1=>by
     rcases(show j<b∨j=b by omega)with h|h
     ·exact hb3 j h0 h
     rw[h];unfold EQ placeB;grind⟩,by omega⟩
 have e3:=e2.trans (Bm (As fun j a b=>hb3 j a (by omega)));refine Cv (Qe (Qe (Qx (Qc (Cs (Nz 1 ?_))))));refine Nu ?_;refine CS.loopM (σ:=Int) (rsL [4,4,84,98]) (fun s=>[(9,.int .i64 s)]) (fun _=>_) (fun s=>0≤s∧s≤z.pls.l.length∧∀j:Int,0≤j→j<s→EN r z.pls.l j=0) (fun s=>(z.pls.l.length-s).toNat) 0 (fun _ _=>rfl) rfl rfl ⟨by omega,by omega,fun j _ _=>by omega⟩ ?_;intro d t hs;obtain⟨hd1,hd2,hd3⟩:=hs;refine Cs (Nz 2 ?_);refine Wk 0 (Ba 0) ?_;refine Wk 1 Na ?_;refine Wp ?_ ?_<;>intro hc7
 ·refine Ck (Qc (Cs (Ce (Cs (Dr mixed 0 ?_)))));refine Dk 1 (Bb 1) ?_;refine Dk 1 (Ba 0) ?_;refine Dk 0 Xa ?_;refine Dk 0 Ia ?_;refine Dk 1 (Cb rfl rfl KJ (fun u hu=>EG r u (hr.st hu) _)) ?_;refine Dd (Qc (Cn ?_ ?_))<;>intro hc8
  ·refine Nz 1 ?_;refine Wd (Qc (Cr (Qs (Qr (Qr (Qs (Qr ?_)))))))
   exact out1 rfl rfl (Ab (by
      have hE:EN r z.pls.l d=28:=by(unfold EN placeB;grind)
      rw[e3,(Aq hd1 (by omega) hd3 (by rw[hE];decide)).trans hE]))
  refine Ck (Qb (Qc (Ny 1 ?_)));refine Wk 1 Za ?_;refine Wd ?_
  exact QS.head (d+1) rfl rfl ⟨⟨by omega,by omega,fun j h0 h1=>by
     rcases(show j<d∨j=d by omega)with h|h
     ·exact hd3 j h0 h
     rw[h];unfold EN placeB;grind⟩,by omega⟩
 have e4:=e3.trans (As fun j a b=>hd3 j a (by omega));refine Cv (Qe (Qe (Qx (Qc (Nz 1 ?_)))));exact Wd (Qc (Cr (out1 rfl rfl (Ab (by rw[e4])))))
end Go.Proofs.YtmoojmgihdgceaaGreatDoor
