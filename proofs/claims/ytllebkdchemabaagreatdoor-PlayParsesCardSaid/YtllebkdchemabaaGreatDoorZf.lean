/- Merged texts of this proof. -/
import Derived.Test.YtllebkdchemabaaGreatDoorZb
import Derived.Test.YtllebkdchemabaaGreatDoorZc
set_option maxHeartbeats 8000000
namespace Go.Proofs.YtllebkdchemabaaGreatDoor
open Go.RowKit Go.Proofs Tryz
set_option maxRecDepth 100000
set_option linter.unusedVariables false
set_option linter.unusedSimpArgs false
theorem Hi (n lo hi:Int) (w:World):
  Calls prog 206 #[.int .i64 n,.int .i64 lo,.int .i64 hi] w (RetB w (.bool (decide (lo<=n)&&decide (n<=hi)))):=by
 refine Eg func206 ?_
 iterate 4 refine Aa ?_
 exact out1 rfl rfl (Af (by simp))
theorem Bq (n lo hi:Int) (w:World):
  Calls prog 168 #[.int .i64 n,.int .i64 lo,.int .i64 hi] w (RetB w (.bool (decide (lo<=n)&&decide (n<=hi)))):=by
 refine Eg func168 ?_
 iterate 4 refine Aa ?_
 exact out1 rfl rfl (Af (by simp))
theorem YZ (w:World):
  Calls prog 318 #[] w (fun e w'=>∃v:Value,(∃u0,SlT cStr u0 ⟨v,wordL⟩)/\RetF w v (roT cStr ⟨v,wordL⟩) e w'):=by
 refine Eg func318 ?_;refine WS.buildSlice1 (pl:=[(0,.const (.string ⟨#[97,116]⟩)),(1,.const (.string ⟨#[115,116,97,116,101,115]⟩)),(2,.const (.string ⟨#[115,116,97,114,116]⟩)),(3,.const (.string ⟨#[103,111,110,101]⟩)),(4,.const (.string ⟨#[105,102]⟩)),(5,.const (.string ⟨#[108,111,99,107]⟩)),(6,.const (.string ⟨#[119,105,116,104]⟩)),(7,.const (.string ⟨#[115,101,116,115]⟩)),(8,.const (.string ⟨#[115,112,101,110,100,115]⟩)),(9,.const (.string ⟨#[98,114,105,110,103,115]⟩))]) (vs:=wordL.map .string) sl23 zv9 rfl rfl (by decide) (by intro v hv;simp only[wordL,List.map_cons,List.map_nil,List.mem_cons,List.not_mem_nil,or_false]at hv;rcases hv with rfl|rfl|rfl|rfl|rfl|rfl|rfl|rfl|rfl|rfl<;>rfl) (fun _=>rfl) ?_;intro v1;refine Nr ?_;refine QS.weak (L':=[roT cStr ⟨v1,wordL⟩]) (fun u hu=>St.toRo (A:=osl 9 1 v1 10 (wordL.map .string)) (p:=fun u=>SlT cStr u ⟨v1,wordL⟩) (fun S u h=>⟨C8 h.2,fun _ _=>trivial⟩) hu) ?_;exact out1 rfl rfl (fun u hu=>⟨_,⟨u,hu.ro (j:=0) rfl⟩,retF (j:=0) rfl u hu⟩)
theorem F1 (tx:ByteArray) (w:World) (hm:(tx.size:Int)<=9223372036854775806):
  Calls prog 273 #[.string tx] w (RetB w (.bool (Au tx))):=by
 refine Eg func273 ?_;refine CS.loopM (σ:=Int) (rsL [2,2,6,21]) (fun s=>[(3,.int .i64 s)]) (fun _=>_) (fun s=>0<=s/\s<=tx.size/\∀j:Int,0<=j->j<s->97<=byt tx j/\byt tx j<=122) (fun s=>(tx.size-s).toNat) 0 (fun _ _=>rfl) rfl rfl ⟨by omega,by omega,fun j _ _=>by omega⟩ ?_;intro s t hs;obtain⟨hs1,hs2,hs3⟩:=hs;refine Nf ?_;refine Wk 1 (Al underlying9 rfl) ?_;refine Nf ?_;refine Cm ?_ ?_<;>intro hc1
 ·refine Wk 2 (An underlying9 rfl rfl (by omega) (by omega)) ?_
  iterate 2 refine Aa ?_
  refine Wf 0 rfl rfl (fun hg=>An underlying9 (eg_ hg rfl) (eg_ hg rfl) (by(try simp only[bq]at hg);omega) (by(try simp only[bq]at hg);omega)) ?_
  iterate 2 refine Aa ?_
  refine Cm ?_ ?_<;>intro hc2
  ·exact out1 rfl rfl (Af (by unfold Au;rw[JW hs1 (by omega) (by omega)];rfl))
  refine Aa ?_
  exact QS.head (s+1) rfl rfl ⟨⟨by omega,by omega,fun j h0 h1=>by
     rcases(show j<s\/j=s by omega)with h|h
     ·exact hs3 j h0 h
     rw[h];omega⟩,by omega⟩
 refine Wc rfl rfl Ja5 (fun u hu=>YZ u) (fun _=>rfl) ?_;rintro v22 ⟨u22,hv22⟩;refine Nr ?_;refine CS.loopM (σ:=Int) (rsL [2,2,23,34]) (fun s=>[(5,.int .i64 s)]) (fun _=>_) (fun s=>0<=s/\s<=10/\∀j:Int,0<=j->j<s->seq (nth wordL j) tx=false) (fun s=>(10-s).toNat) 0 (fun _ _=>rfl) rfl rfl ⟨by omega,by omega,fun j _ _=>by omega⟩ ?_;intro q t hs;obtain⟨hq1,hq2,hq3⟩:=hs;refine Nf ?_;refine WS.det rfl rfl rfl (Ds (n:=10) sl23 rfl hv22.sp) rfl ?_;refine Nr ?_;refine Cm ?_ ?_<;>intro hc3
 ·refine Wk 0 (D6 sl23 rfl rfl rfl rfl hv22 (by omega) (by simp[wordL];omega)) ?_;refine Wk 1 (O8 (jj:=0) rfl rfl rfl rfl ⟨by omega,by simp[wordL];omega⟩ rfl tk9) ?_;refine Wk 0 (Ah rfl rfl) ?_;refine Nf ?_;refine Cm ?_ ?_<;>intro hc4
  ·exact out1 rfl rfl (Af (by
      have:(wordL.any fun x=>seq x tx)=true:=List.any_eq_true.2 ⟨_,Ai hq1 (by simp[wordL];omega),hc4⟩
      unfold Au;rw[this];simp))
  refine Aa ?_
  exact QS.head (q+1) rfl rfl ⟨⟨by omega,by omega,fun j h0 h1=>by
     rcases(show j<q\/j=q by omega)with h|h
     ·exact hq3 j h0 h
     rw[h];exact hc4⟩,by omega⟩
 refine Wk 1 (A3 rfl rfl) ?_;refine Nf ?_
 exact out1 rfl rfl (Af (by
    have h1:lowB tx=true:=HH fun j h0 h1=>hs3 j h0 (by omega)
    have h2:(wordL.any fun x=>seq x tx)=false:=by
     rw[List.any_eq_false];intro x hx;obtain⟨i,h0,h3,rfl⟩:=Bz hx;rw[hq3 i h0 (by simp[wordL]at h3;omega)];simp
    unfold Au;rw[h1,h2];rfl))
theorem HU (tx:ByteArray) (w:World) (hm:(tx.size:Int)<=9223372036854775806):
  Calls prog 203 #[.string tx] w (RetB w (.bool (AY tx))):=by
 refine Eg func203 ?_;refine Wk 2 (Al underlying9 rfl) ?_;refine Aa ?_;refine Wt 0 rfl rfl (fun hg=>Cb rfl (ec_ (eg_ hg rfl) en_) Pv (fun u hu=>F1 _ u (by omega))) ?_;refine Aa ?_;exact out1 rfl rfl (Af (by simp[AY]))
theorem Iu (r:Room) (w:World) (hr:RoomOk w r) (n:Int):
  Calls prog 205 #[.agg (rcl r).toArray,.int .i64 n] w (RetB w (.bool (decide (0<=n)&&decide (n<=r.pls.l.length-1)))):=by
 have kpl:=hr.pls;have lpl:=hr.pls.le;have kth:=hr.ths;have lth:=hr.ths.le;have kpr:=hr.prs;have lpr:=hr.prs.le;have kwy:=hr.wys;have lwy:=hr.wys.le;have kac:=hr.acs;have lac:=hr.acs.le;have kau:=hr.aus;have lau:=hr.aus.le;have kgl:=hr.gl;have lgl:=hr.gl.le;refine Eg func205 ?_;refine Wr 1 fun b2 hb2=>?_;refine Nf ?_
 iterate 3 refine Aa ?_
 refine Wk 1 (Cb rfl rfl G8 (fun u hu=>Hi _ _ _ u)) ?_;refine Nf ?_;exact out1 rfl rfl (Af rfl)
theorem Y1 (r:Room) (w:World) (hr:RoomOk w r) (a b:Int):
  Calls prog 208 #[.agg (rcl r).toArray,.int .i64 a,.int .i64 b] w (RetB w (.bool (putB r.ths.l a b))):=by
 have kpl:=hr.pls;have lpl:=hr.pls.le;have kth:=hr.ths;have lth:=hr.ths.le;have kpr:=hr.prs;have lpr:=hr.prs.le;have kwy:=hr.wys;have lwy:=hr.wys.le;have kac:=hr.acs;have lac:=hr.acs.le;have kau:=hr.aus;have lau:=hr.aus.le;have kgl:=hr.gl;have lgl:=hr.gl.le;refine Eg func208 ?_;refine Wr 1 fun b3 hb3=>?_;refine Nf ?_
 iterate 3 refine Aa ?_
 refine Wk 1 (Cb rfl rfl G8 (fun u hu=>Hi _ _ _ u)) ?_
 iterate 4 refine Aa ?_
 refine Wt 0 rfl rfl (fun hg=>D6 (C:=cThing) (s:=r.ths) sl24 (eg_ hg rfl) (eg_ hg rfl) rfl rfl hr.ths (by(try simp only[decide_eq_true_eq,Bool.and_eq_true]at hg);omega) (by(try simp only[decide_eq_true_eq,Bool.and_eq_true]at hg);omega)) ?_;refine Aa ?_;refine Wt 0 rfl rfl (fun hg=>F5 (C:=cThing) (s:=r.ths) (i:=a) (j:=2) (eg_ hg rfl) rfl rfl hr.ths (by(try simp only[decide_eq_true_eq,Bool.and_eq_true]at hg);omega) (by decide) rfl tk3) ?_;refine Wt 0 rfl rfl (fun hg=>JQ (eg_ hg rfl) rfl) ?_;refine Wt 0 rfl rfl (fun hg=>Cb rfl (ec_ (eg_ hg rfl) (ec_ rfl (ec_ (eg_ hg rfl) en_))) G8 (fun u hu=>Hi _ _ _ u)) ?_;refine Aa ?_;exact out1 rfl rfl (Af rfl)
theorem ER (r:Room) (w:World) (hr:RoomOk w r) (c:Sl Lit) (hk:SlT cLit w c):
  Calls prog 100 #[.agg (rcl r).toArray,c.v] w (RetB w (.bool (FD r.ths.l c.l))):=by
 have kpl:=hr.pls;have lpl:=hr.pls.le;have kth:=hr.ths;have lth:=hr.ths.le;have kpr:=hr.prs;have lpr:=hr.prs.le;have kwy:=hr.wys;have lwy:=hr.wys.le;have kac:=hr.acs;have lac:=hr.acs.le;have kau:=hr.aus;have lau:=hr.aus.le;have kgl:=hr.gl;have lgl:=hr.gl.le;have hcs:=hk.sp;have lcs:=hk.le;refine Eg func100 ?_;refine Wr 1 fun b2 hb2=>?_;refine Nf ?_;refine CS.loopM (σ:=Int) (rsL [4,4,6,24]) (fun s=>[(5,.int .i64 s)]) (fun _=>_) (fun s=>0<=s/\s<=c.l.length/\∀j:Int,0<=j->j<s->putB r.ths.l (nth c.l j).t (nth c.l j).s=true) (fun s=>(c.l.length-s).toNat) 0 (fun _ _=>rfl) rfl rfl ⟨by omega,by omega,fun j _ _=>by omega⟩ ?_;intro s t hs;obtain⟨hs1,hs2,hs3⟩:=hs;refine Nf ?_;refine Aa ?_;refine Cm ?_ ?_<;>intro hc1
 ·refine Dg mixed ?_;refine Ad ?_;refine Dk 1 (D6 (C:=cLit) (s:=c) sl30 rfl rfl rfl rfl hk (by omega) (by omega)) ?_;refine Dk 2 (F5 (C:=cLit) (s:=c) (i:=s) (j:=0) rfl rfl rfl hk ⟨by omega,by omega⟩ (by decide) rfl tk3) ?_;refine Dk 1 (D6 (C:=cLit) (s:=c) sl30 rfl rfl rfl rfl hk (by omega) (by omega)) ?_;refine Dk 0 (F5 (C:=cLit) (s:=c) (i:=s) (j:=1) rfl rfl rfl hk ⟨by omega,by omega⟩ (by decide) rfl tk3) ?_;refine Dk 1 (Cb rfl rfl UO (fun u hu=>Y1 r u (hr.st hu) _ _)) ?_;refine Nf ?_;refine Cm ?_ ?_<;>intro hc2
  ·exact out1 rfl rfl (Af (by
      have:c.l.all (fun x=>putB r.ths.l x.t x.s)=false:=by
       rw[List.all_eq_false];exact⟨_,Ai hs1 (by omega),by simpa using hc2⟩
      unfold FD;rw[this];rfl))
  refine Aa ?_
  exact QS.head (s+1) rfl rfl ⟨⟨by omega,by omega,fun j h0 h1=>by
     rcases(show j<s\/j=s by omega)with h|h
     ·exact hs3 j h0 h
     rw[h];exact hc2⟩,by omega⟩
 refine Aa ?_
 exact out1 rfl rfl (Af (by
    have:c.l.all (fun x=>putB r.ths.l x.t x.s)=true:=by
     rw[List.all_eq_true];intro x hx;obtain⟨i,h0,h3,rfl⟩:=Bz hx;exact hs3 i h0 (by omega)
    unfold FD;rw[this];rfl))
theorem in_c (xs:List Int) (v:Value) (n:Int) (w:World) (h1:SlI w v xs):
  Calls prog 277 #[v,.int .i64 n] w (RetB w (.bool (decide (n∈xs)))):=by
 have hl1:=h1.le;refine Eg func277 ?_;refine CS.loopM (σ:=Int) (rsL [4,4,6,17]) (fun s=>[(5,.int .i64 s)]) (fun _=>_) (fun s=>0<=s/\s<=xs.length/\∀j:Int,0<=j->j<s->¬nth xs j=n) (fun s=>(xs.length-s).toNat) 0 (fun _ _=>rfl) rfl rfl ⟨by omega,by omega,fun j _ _=>by omega⟩ ?_;intro s t hs;obtain⟨hs1,hs2,hs3⟩:=hs;refine Nf ?_;refine Aa ?_;refine Cm ?_ ?_<;>intro hc1
 ·iterate 2 refine Aa ?_
  refine Cm ?_ ?_<;>intro hc2
  ·exact out1 rfl rfl (Af (by rw[decide_eq_true (by rw[<-hc2];exact Ai hs1 (by omega))]))
  refine Aa ?_
  exact QS.head (s+1) rfl rfl ⟨⟨by omega,by omega,fun j h0 h1=>by
     rcases(show j<s\/j=s by omega)with h|h
     ·exact hs3 j h0 h
     rw[h];exact hc2⟩,by omega⟩
 exact out1 rfl rfl (Af (by
    rw[decide_eq_false];intro hm;obtain⟨i,h0,h3,h4⟩:=Bz hm
    exact hs3 i h0 (by omega) h4))
theorem DK (xs ys:List Int) (v1 v2:Value) (w:World) (h1:SlI w v1 xs) (h2:SlI w v2 ys):
  Calls prog 38 #[v1,v2] w (RetB w (.bool (decide (xs=ys)))):=by
 have hl1:=h1.le;have hl2:=h2.le;refine Eg func38 ?_
 iterate 2 refine Aa ?_
 refine Cm ?_ ?_<;>intro hc1
 ·exact out1 rfl rfl (Af (OR fun h=>by subst h;omega))
 refine CS.loopM (σ:=Int) (rsL [4,4,11,25]) (fun s=>[(5,.int .i64 s)]) (fun _=>_) (fun s=>0<=s/\s<=xs.length/\xs.length=ys.length/\∀j:Int,0<=j->j<s->nth xs j=nth ys j) (fun s=>(xs.length-s).toNat) 0 (fun _ _=>rfl) rfl rfl ⟨by omega,by omega,by omega,fun j h1 h2=>by omega⟩ ?_;intro s t hs;obtain⟨hs1,hs2,hs3,hs4⟩:=hs;refine Nf ?_;refine Aa ?_;refine Cm ?_ ?_<;>intro hc2
 ·refine Dg mixed ?_
  iterate 4 refine Ad ?_
  refine Cm ?_ ?_<;>intro hc3
  ·exact out1 rfl rfl (Af (OR fun h=>by subst h;omega))
  refine Aa ?_;exact QS.head (s+1) rfl rfl ⟨⟨by omega,by omega,hs3,fun j h1 h2=>if hj:j=s then by rw[hj];omega else hs4 j h1 (by omega)⟩,by omega⟩
 exact out1 rfl rfl (Af (Yb (Ti hs3 fun i h1 h2=>hs4 i h1 (by omega))))
theorem Tj (l:Sl ByteArray) (i:Int) (w:World) (hk:SlT cStr w l) (h0:0<=i) (h1:i<l.l.length):
  Calls prog 204 #[l.v,.int .i64 i] w (RetB w (.bool ((l.l.take i.toNat).any fun x=>seq x (nth l.l i)))):=by
 have hls:=hk.sp;have lls:=hk.le;refine Eg func204 ?_;refine CS.loopM (σ:=Int) (rsL [4,4,6,19]) (fun s=>[(5,.int .i64 s)]) (fun _=>_) (fun s=>0<=s/\s<=i/\∀j:Int,0<=j->j<s->seq (nth l.l j) (nth l.l i)=false) (fun s=>(i-s).toNat) 0 (fun _ _=>rfl) rfl rfl ⟨by omega,by omega,fun j _ _=>by omega⟩ ?_;intro s t hs;obtain⟨hs1,hs2,hs3⟩:=hs;refine Nf ?_;refine Cm ?_ ?_<;>intro hc1
 ·refine Dg mixed ?_;refine Dk 0 (D6 (C:=cStr) (s:=l) sl23 rfl rfl rfl rfl hk (by omega) (by omega)) ?_;refine Dk 2 (Ko (C:=cStr) (s:=l) (i:=s) rfl rfl rfl hk ⟨by omega,by omega⟩ rfl tk9) ?_;refine Dk 0 (D6 (C:=cStr) (s:=l) sl23 rfl rfl rfl rfl hk (by omega) (by omega)) ?_;refine Dk 0 (Ko (C:=cStr) (s:=l) (i:=i) rfl rfl rfl hk ⟨by omega,by omega⟩ rfl tk9) ?_;refine Dk 0 (Ah rfl rfl) ?_;refine Nf ?_;refine Cm ?_ ?_<;>intro hc2
  ·exact out1 rfl rfl (Af (by rw[Dx hs1 hc1 (by omega) hc2]))
  refine Aa ?_
  exact QS.head (s+1) rfl rfl ⟨⟨by omega,by omega,fun j h0 h1=>by
     rcases(show j<s\/j=s by omega)with h|h
     ·exact hs3 j h0 h
     rw[h];exact hc2⟩,by omega⟩
 exact out1 rfl rfl (Af (by rw[D8 fun j a b=>hs3 j a (by omega)]))
theorem FC (r:Room) (w:World) (hr:RoomOk w r) (v:Value) (xs:List Int) (hx:SlI w v xs):
  Calls prog 276 #[.agg (rcl r).toArray,v] w (RetB w (.bool (ascB r.prs.l.length xs))):=by
 have kpl:=hr.pls;have lpl:=hr.pls.le;have kth:=hr.ths;have lth:=hr.ths.le;have kpr:=hr.prs;have lpr:=hr.prs.le;have kwy:=hr.wys;have lwy:=hr.wys.le;have kac:=hr.acs;have lac:=hr.acs.le;have kau:=hr.aus;have lau:=hr.aus.le;have kgl:=hr.gl;have lgl:=hr.gl.le;have lxs:=hx.le;refine Eg func276 ?_;refine Wr 1 fun b2 hb2=>?_;refine Nf ?_;refine CS.loopM (σ:=Int) (rsL [4,4,6,37]) (fun s=>[(5,.int .i64 s)]) (fun _=>_) (fun s=>0<=s/\s<=xs.length/\∀j:Int,0<=j->j<s->((decide (0<=nth xs j)&&decide (nth xs j<=(r.prs.l.length:Int)-1))&&(decide (j=0)||decide (nth xs (j-1)<nth xs j)))=true) (fun s=>(xs.length-s).toNat) 0 (fun _ _=>rfl) rfl rfl ⟨by omega,by omega,fun j _ _=>by omega⟩ ?_;intro s t hs;obtain⟨hs1,hs2,hs3⟩:=hs;refine Nf ?_;refine Aa ?_;refine Cm ?_ ?_<;>intro hc1
 ·refine Dg mixed ?_
  iterate 5 refine Ad ?_
  refine Dk 2 (Cb rfl rfl G8 (fun u hu=>Hi _ _ _ u)) ?_
  iterate 2 refine Ad ?_
  refine Df 0 rfl rfl (fun hg=>Fm (eg_ hg rfl)) ?_;refine Dn 0 rfl rfl rfl (fun hg=>Fm) ?_;refine Dn 0 rfl rfl rfl (fun hg=>Fm) ?_;refine Dn 0 rfl rfl rfl (fun hg=>Xa (eg_ hg rfl)) ?_;refine Dn 0 rfl rfl rfl (fun hg=>Ia) ?_;refine Dn 0 rfl rfl rfl (fun hg=>Fm) ?_;refine Dn 0 rfl rfl rfl (fun hg=>Fm) ?_;refine Dn 0 rfl rfl rfl (fun hg=>Zb) ?_;refine Dn 0 rfl rfl rfl (fun hg=>Xa (eg_ hg rfl)) ?_;refine Dn 0 rfl rfl rfl (fun hg=>Ia) ?_;refine Dn 0 rfl rfl rfl (fun hg=>Fk) ?_;refine Df 0 rfl rfl (fun hg=>AW (eg_ hg rfl) (Cg hg rfl) rfl) ?_;refine Ad ?_;refine Cm ?_ ?_<;>intro hc2
  ·exact out1 rfl rfl (Af (by rw[show ascB r.prs.l.length xs=false from Fp hs1 (by omega) (by simp only[Bool.and_eq_false_iff,Bool.or_eq_false_iff,decide_eq_false_iff_not];omega)]))
  refine Aa ?_
  exact QS.head (s+1) rfl rfl ⟨⟨by omega,by omega,fun j h0 h1=>by
     rcases(show j<s\/j=s by omega)with h|h
     ·exact hs3 j h0 h
     rw[h];simp only[Bool.and_eq_true,Bool.or_eq_true,decide_eq_true_eq];omega⟩,by omega⟩
 exact out1 rfl rfl (Af (by rw[show ascB r.prs.l.length xs=true from Ed fun j h0 h1=>hs3 j h0 (by omega)]))
theorem Jhm (r:Room) (w:World) (hr:RoomOk w r) (i:Int) (h0:0<=i) (h1:i<r.acs.l.length) (hn:∀x∈r.acs.l,x.nm.size<=70000):
  Calls prog 207 #[.agg (rcl r).toArray,.int .i64 i] w (RetB w (.bool (actB r i))):=by
 have kpl:=hr.pls;have lpl:=hr.pls.le;have kth:=hr.ths;have lth:=hr.ths.le;have kpr:=hr.prs;have lpr:=hr.prs.le;have kwy:=hr.wys;have lwy:=hr.wys.le;have kac:=hr.acs;have lac:=hr.acs.le;have kau:=hr.aus;have lau:=hr.aus.le;have kgl:=hr.gl;have lgl:=hr.gl.le;have ha:ActOk w (nth r.acs.l i):=hr.acs.at h0 h1;have hus:=ha.us.ints;have hsp:=ha.sp.ints;have hbr:=ha.br.ints;have kse:=ha.se;have lse:=kse.le;have lus:=hus.le;have lsp:=hsp.le;have lbr:=hbr.le;have hnm:=hn _ (Ai h0 h1);refine Eg func207 ?_;refine Wr 1 fun b2 hb2=>?_;refine Nf ?_
 iterate 3 refine Aa ?_
 refine Wq 0 E3 fun b5 hb5=>?_;refine Wv 0 0 ?_;refine Nf ?_;refine CS.loopM (σ:=Int) (rsL [4,4,16,29]) (fun s=>[(6,.int .i64 s)]) (fun _=>_) (fun s=>0<=s/\s<=i/\∀j:Int,0<=j->j<s->seq (nth r.acs.l j).nm (nth r.acs.l i).nm=false) (fun s=>(i-s).toNat) 0 (fun _ _=>rfl) rfl rfl ⟨by omega,by omega,fun j _ _=>by omega⟩ ?_;intro a t hs;obtain⟨ha1,ha2,ha3⟩:=hs;refine Nf ?_;refine Cm ?_ ?_<;>intro hc1
 ·refine Dg mixed ?_
  iterate 4 refine Ad ?_
  refine Dk 0 (Ah rfl rfl) ?_;refine Nf ?_;refine Cm ?_ ?_<;>intro hc2
  ·exact out1 rfl rfl (Af (by rw[show actB r i=false by unfold actB newB;rw[Dx ha1 hc1 (by omega) hc2];rfl]))
  refine Aa ?_
  exact QS.head (a+1) rfl rfl ⟨⟨by omega,by omega,fun j h0 h1=>by
     rcases(show j<a\/j=a by omega)with h|h
     ·exact ha3 j h0 h
     rw[h];exact hc2⟩,by omega⟩
 refine Aa ?_;refine Wk 2 (Cb rfl rfl LF (fun u hu=>HU _ u (by omega))) ?_
 iterate 3 refine Aa ?_
 refine Wf 0 rfl rfl (fun hg=>Cb rfl (ec_ (eg_ hg rfl) (ec_ (eg_ hg rfl) en_)) LL (fun u hu=>Iu r u (hr.st hu) _)) ?_
 iterate 4 refine Aa ?_
 refine Wf 0 rfl rfl (fun hg=>Cb rfl (ec_ (eg_ hg rfl) (ec_ rfl (ec_ rfl en_))) G8 (fun u hu=>Hi _ _ _ u)) ?_
 iterate 5 refine Aa ?_
 refine Wf 0 rfl rfl (fun hg=>Cb rfl (ec_ (eg_ hg rfl) (ec_ (eg_ hg rfl) en_)) UF (fun u hu=>FC r u (hr.st hu) _ _ (hus.st hu))) ?_
 iterate 5 refine Aa ?_
 refine Wf 0 rfl rfl (fun hg=>Cb rfl (ec_ (eg_ hg rfl) (ec_ (eg_ hg rfl) en_)) UF (fun u hu=>FC r u (hr.st hu) _ _ (hsp.st hu))) ?_
 iterate 5 refine Aa ?_
 refine Wf 0 rfl rfl (fun hg=>Cb rfl (ec_ (eg_ hg rfl) (ec_ (eg_ hg rfl) en_)) UF (fun u hu=>FC r u (hr.st hu) _ _ (hbr.st hu))) ?_
 iterate 7 refine Aa ?_
 refine Cm ?_ ?_<;>intro hc3
 ·exact out1 rfl rfl (Af (by unfold actB;rw[show act2 r (nth r.acs.l i)=false by(unfold act2 placeB;grind)];simp))
 refine CS.loopM (σ:=Int) (rsL [4,4,74,89]) (fun s=>[(7,.int .i64 s)]) (fun _=>_) (fun s=>0<=s/\s<=(nth r.acs.l i).sp.l.length/\∀j:Int,0<=j->j<s->nth (nth r.acs.l i).sp.l j∈(nth r.acs.l i).us.l) (fun s=>((nth r.acs.l i).sp.l.length-s).toNat) 0 (fun _ _=>rfl) rfl rfl ⟨by omega,by omega,fun j _ _=>by omega⟩ ?_;intro b t hs;obtain⟨hb1,hb2,hb3⟩:=hs;refine Nf ?_
 iterate 2 refine Aa ?_
 refine Cm ?_ ?_<;>intro hc4
 ·refine Dg mixed ?_
  iterate 4 refine Ad ?_
  refine Dk 1 (Cb rfl rfl XG (fun u hu=>in_c _ _ _ u (hus.st hu))) ?_;refine Nf ?_;refine Cm ?_ ?_<;>intro hc5
  ·exact out1 rfl rfl (Af (by unfold actB;rw[show act3 (nth r.acs.l i)=false from Fp hb1 (by omega) (by simpa using hc5)];simp))
  refine Aa ?_
  exact QS.head (b+1) rfl rfl ⟨⟨by omega,by omega,fun j h0 h1=>by
     rcases(show j<b\/j=b by omega)with h|h
     ·exact hb3 j h0 h
     rw[h];exact hc5⟩,by omega⟩
 refine CS.loopM (σ:=Int) (rsL [4,4,90,104]) (fun s=>[(8,.int .i64 s)]) (fun _=>_) (fun s=>0<=s/\s<=(nth r.acs.l i).br.l.length/\∀j:Int,0<=j->j<s->nth (nth r.acs.l i).br.l j∉(nth r.acs.l i).us.l) (fun s=>((nth r.acs.l i).br.l.length-s).toNat) 0 (fun _ _=>rfl) rfl rfl ⟨by omega,by omega,fun j _ _=>by omega⟩ ?_;intro c t hs;obtain⟨hc1,hc2,hc3⟩:=hs;refine Nf ?_
 iterate 2 refine Aa ?_
 refine Cm ?_ ?_<;>intro hc6
 ·refine Dg mixed ?_
  iterate 4 refine Ad ?_
  refine Dk 0 (Cb rfl rfl XG (fun u hu=>in_c _ _ _ u (hus.st hu))) ?_;refine Nf ?_;refine Cm ?_ ?_<;>intro hc7
  ·exact out1 rfl rfl (Af (by unfold actB;rw[show act4 (nth r.acs.l i)=false from Fp hc1 (by omega) (by simpa using hc7)];simp))
  refine Aa ?_
  exact QS.head (c+1) rfl rfl ⟨⟨by omega,by omega,fun j h0 h1=>by
     rcases(show j<c\/j=c by omega)with h|h
     ·exact hc3 j h0 h
     rw[h];exact hc7⟩,by omega⟩
 refine CS.loopM (σ:=Int) (rsL [4,4,10,10,105,144]) (fun s=>[(9,.int .i64 s)]) (fun _=>_) (fun s=>0<=s/\s<=(nth r.acs.l i).se.l.length/\∀j:Int,0<=j->j<s->(putB r.ths.l (nth (nth r.acs.l i).se.l j).t (nth (nth r.acs.l i).se.l j).s&&!(((nth r.acs.l i).se.l.take j.toNat).any fun x=>decide (x.t=(nth (nth r.acs.l i).se.l j).t)))=true) (fun s=>((nth r.acs.l i).se.l.length-s).toNat) 0 (fun _ _=>rfl) rfl rfl ⟨by omega,by omega,fun j _ _=>by omega⟩ ?_;intro p t hs;obtain⟨hp1,hp2,hp3⟩:=hs;refine Nf ?_
 iterate 2 refine Aa ?_
 refine Cm ?_ ?_<;>intro hc8
 ·refine Dg mixed ?_
  iterate 7 refine Ad ?_
  refine Dk 1 (Cb rfl rfl UO (fun u hu=>Y1 r u (hr.st hu) _ _)) ?_;refine Nf ?_;refine Cm ?_ ?_<;>intro hc9
  ·exact out1 rfl rfl (Af (by unfold actB;rw[show act5 r (nth r.acs.l i)=false from Fp hp1 (by omega) (by rw[hc9];rfl)];simp))
  refine CS.loopM (σ:=Int) (rsL [4,4,127,144]) (fun s=>[(10,.int .i64 s)]) (fun _=>_) (fun s=>0<=s/\s<=p/\∀j:Int,0<=j->j<s->¬(nth (nth r.acs.l i).se.l j).t=(nth (nth r.acs.l i).se.l p).t) (fun s=>(p-s).toNat) 0 (fun _ _=>rfl) rfl rfl ⟨by omega,by omega,fun j _ _=>by omega⟩ ?_;intro q t hs;obtain⟨hq1,hq2,hq3⟩:=hs;refine Nf ?_;refine Cm ?_ ?_<;>intro hc10
  ·refine Dg mixed ?_
   iterate 6 refine Ad ?_
   refine Cm ?_ ?_<;>intro hc11
   ·exact out1 rfl rfl (Af (by unfold actB;rw[show act5 r (nth r.acs.l i)=false from Fp hp1 (by omega) (by rw[Dx (p:=fun x:Put=>decide (x.t=(nth (nth r.acs.l i).se.l p).t)) hq1 hc10 (by omega) (decide_eq_true hc11)];simp)];simp))
   refine Aa ?_
   exact QS.head (q+1) rfl rfl ⟨⟨by omega,by omega,fun j h0 h1=>by
      rcases(show j<q\/j=q by omega)with h|h
      ·exact hq3 j h0 h
      rw[h];exact hc11⟩,by omega⟩
  refine Aa ?_
  exact QS.head (p+1) rfl rfl ⟨⟨by omega,by omega,fun j h0 h1=>by
     rcases(show j<p\/j=p by omega)with h|h
     ·exact hp3 j h0 h
     rw[h];rw[hc9,D8 (p:=fun x:Put=>decide (x.t=(nth (nth r.acs.l i).se.l p).t)) fun j a b=>decide_eq_false (hq3 j a (by omega))];rfl⟩,by omega⟩
 have q1:newB Actn.nm r.acs.l i=true:=by unfold newB;rw[D8 fun j a b=>ha3 j a (by omega)];rfl
 have q2:act2 r (nth r.acs.l i)=true:=by(unfold act2 placeB;grind)
 have q3:act3 (nth r.acs.l i)=true:=Ed fun j a b=>decide_eq_true (hb3 j a (by omega));have q4:act4 (nth r.acs.l i)=true:=Ed fun j a b=>by rw[decide_eq_false (hc3 j a (by omega))];rfl
 have q5:act5 r (nth r.acs.l i)=true:=Ed fun j a b=>hp3 j a (by omega);exact out1 rfl rfl (Af (by unfold actB;rw[q1,q2,q3,q4,q5];rfl))
theorem Pm {n0:Nat} {w0 u:World} {L:List SA} {j:Nat} {e:TypeId} {v:Value} {xs:List ByteArray} {a:ByteArray} (hj:L[j]? = some (osl e 1 v (A1 cStr xs++[Value.string a]).length (A1 cStr xs++[Value.string a]))) (hu:St n0 w0 L u):SlT cStr u ⟨v,xs++[a]⟩:=by
 have h:=BZ hu hj;refine⟨?_,fun _ _=>trivial⟩;have h2:A1 cStr xs++[Value.string a]=A1 cStr (xs++[a]):=by rw[FP,Iv];rfl
 have h3:(A1 cStr xs++[Value.string a]).length=(xs++[a]).length:=by rw[h2,BQ];exact Nat.mul_one _
 rw[h3,h2]at h;exact h
variable {α:Type} {l:List α}
theorem Ml [Inhabited α] (f:α->ByteArray) {s:Int} (h0:0<=s) (h1:s<l.length):A1 cStr ((l.take s.toNat).map f)++[Value.string (f (nth l s))]=A1 cStr ((l.take (s+1).toNat).map f):=by
 have h2:s.toNat<l.length:=by omega
 rw[show(s+1).toNat=s.toNat+1 by omega,List.take_succ_eq_append_getElem h2,List.map_append,FP];congr 1;simp[A1,cStr,nth,List.getD,h2]
theorem PJ (f:α->ByteArray) {s:Int} (h0:0<=s) (h1:s<=l.length):(A1 cStr ((l.take s.toNat).map f)).length=s.toNat:=by
 rw[BQ,List.length_map,List.length_take];show min s.toNat l.length*1=s.toNat;omega
theorem R5 [Inhabited α] (f:α->ByteArray) {i:Int} (h0:0<=i) (h1:i<l.length):
  ((((l.take i.toNat).map f++[f (nth l i)]).take i.toNat).any fun x=>seq x (nth ((l.take i.toNat).map f++[f (nth l i)]) i)) = !newB f l i:=by
 have h2:((l.take i.toNat).map f).length=i.toNat:=by simp;omega
 rw[TF h2,List.take_append_of_le_length (by omega),List.take_of_length_le (by omega),List.any_map];unfold newB;rw[Bool.not_not]
 rfl
theorem OZ [Inhabited α] (f:α->ByteArray) (l:List α) (i:Int) (v:Value) (w:World) (hk:SlT cStr w ⟨v,(l.take i.toNat).map f++[f (nth l i)]⟩) (h0:0<=i) (h1:i<l.length):
  Calls prog 204 #[v,.int .i64 i] w (RetB w (.bool (!newB f l i))):=by
 have:=Tj ⟨v,(l.take i.toNat).map f++[f (nth l i)]⟩ i w hk h0 (by simp;omega)
 rwa [R5 f h0 h1]at this
theorem Vs (l:Sl ByteArray) (i:Int) (w:World) (hk:SlT cStr w l) (h0:0<=i) (h1:i<l.l.length):
  Calls prog 204 #[l.v,.int .i64 i] w (RetB w (.bool (!newB id l.l i))):=by
 have:=Tj l i w hk h0 h1;unfold newB
 rwa [Bool.not_not]
theorem K9 (r:Room) (w:World) (hr:RoomOk w r) (hn:NmB r):
  Calls prog 93 #[.agg (rcl r).toArray] w (RetB w (.int .i64 (checkE r))):=by
 have kpl:=hr.pls;have lpl:=hr.pls.le;have kth:=hr.ths;have lth:=hr.ths.le;have kpr:=hr.prs;have lpr:=hr.prs.le;have kwy:=hr.wys;have lwy:=hr.wys.le;have kac:=hr.acs;have lac:=hr.acs.le;have kau:=hr.aus;have lau:=hr.aus.le;have kgl:=hr.gl;have lgl:=hr.gl.le;refine Eg func93 ?_;refine Wr 1 fun b1 hb1=>?_;refine Nf ?_
 iterate 27 refine Aa ?_
 refine Cm ?_ ?_<;>intro hc1
 ·exact out1 rfl rfl (Af (by rw[show checkE r=2 from if_pos (by(unfold manyB;grind))]))
 have e0:manyB r=false:=by(unfold manyB;grind)
 iterate 2 refine Aa ?_
 refine Cm ?_ ?_<;>intro hc2
 ·exact out1 rfl rfl (Af (by unfold checkE;rw[if_neg (by rw[e0];decide),if_pos (by omega)]))
 have e1:checkE r=Gp r:=by unfold checkE;rw[if_neg (by rw[e0];decide),if_neg (by omega)]
 refine CS.loopM (σ:=Int) (rsL [2,2,51,70]) (fun s=>[(3,.int .i64 s)]) (fun _=>_) (fun s=>0<=s/\s<=r.pls.l.length/\∀j:Int,0<=j->j<s->plO r j=0) (fun s=>(r.pls.l.length-s).toNat) 0 (fun _ _=>rfl) rfl rfl ⟨by omega,by omega,fun j _ _=>by omega⟩ ?_;intro a t hs;obtain⟨ha1,ha2,ha3⟩:=hs;refine Nf ?_
 iterate 2 refine Aa ?_
 refine Cm ?_ ?_<;>intro hc3
 ·have hnm:=hn.pl _ (Ai ha1 (by omega))
  iterate 3 refine Aa ?_
  refine Wk 2 (Cb rfl rfl LF (fun u hu=>HU _ u (by omega))) ?_
  iterate 3 refine Aa ?_
  refine Wf 0 rfl rfl (fun hg=>Cb rfl (ec_ (eg_ hg rfl) (ec_ (eg_ hg rfl) en_)) Ul (fun u hu=>Vs r.pls _ u (hr.pls.st hu) ha1 (by omega))) ?_;refine Aa ?_;refine Cm ?_ ?_<;>intro hc4
  ·exact out1 rfl rfl (Af (by
      have hE:plO r a=22:=by(unfold plO;grind)
      rw[e1,show Gp r=22 from Bu ((Av ha1 (by omega) ha3 (by rw[hE];decide)).trans hE) (by decide)]))
  refine Aa ?_
  exact QS.head (a+1) rfl rfl ⟨⟨by omega,by omega,fun j h0 h1=>by
     rcases(show j<a\/j=a by omega)with h|h
     ·exact ha3 j h0 h
     rw[h];exact(show plO r a=0 by(unfold plO;grind))⟩,by omega⟩
 have e2:checkE r=IM r:=e1.trans (Bx (Ay fun j a b=>ha3 j a (by omega)));refine CS.weak (fun _ hu=>hu.osl0 (e:=9) (size:=1)) ?_;refine CS.loopM (σ:=Int×Value) (rsL [2,2,6,6,71,118]) (fun s=>[(5,.int .i64 s.1),(4,s.2)]) (fun s=>[osl 9 1 s.2 (A1 cStr ((r.ths.l.take (s.1).toNat).map Thing.nm)).length (A1 cStr ((r.ths.l.take (s.1).toNat).map Thing.nm)),blk b1 (rcl r) 32]) (fun s=>0<=s.1/\s.1<=r.ths.l.length/\∀j:Int,0<=j->j<s.1->thO r j=0) (fun s=>(r.ths.l.length-s.1).toNat) (0,.slice none 0 0) (fun _ _=>rfl) rfl rfl ⟨by simp,by simp,fun j h0 h1=>by simp at h1;omega⟩ ?_;intro b t hs;obtain⟨hb1,hb2,hb3⟩:=hs;have hln:=PJ Thing.nm (l:=r.ths.l) hb1 hb2;refine Nf ?_
 iterate 2 refine Aa ?_
 refine Cm ?_ ?_<;>intro hc5
 ·have hnm:=hn.th _ (Ai hb1 (by omega))
  iterate 3 refine Aa ?_
  refine Wq 0 FG fun b6 hb6=>?_;refine Wv 0 0 ?_;refine Nf ?_;refine Aa ?_;refine WS.buildV1 sl23 zv9 rfl (by first|rfl|assumption) (fun _=>rfl) ?_;intro v86;refine WS.append1 (j:=2) (jz:=0) sl23 zv9 rfl rfl rfl rfl (by first|rfl|assumption) (by first|omega|(simp;omega)|(simp only[List.length_append,List.length_singleton,List.length_map,List.length_cons,List.length_nil]at*;omega)) (by first|omega|(simp;omega)|(simp only[List.length_append,List.length_singleton,List.length_map,List.length_cons,List.length_nil]at*;omega)) (fun _=>rfl) (fun _=>rfl) ?_;intro v87;refine WS.oc (j:=2) rfl (fun hv87=>?_);refine Nr ?_;refine Aa ?_;refine Wk 2 (Cb rfl rfl LF (fun u hu=>HU _ u (by omega))) ?_
  iterate 2 refine Aa ?_
  refine Wf 0 rfl rfl (fun hg=>Cb rfl (ec_ (eg_ hg rfl) (ec_ (eg_ hg rfl) en_)) Ul (fun u hu=>OZ Thing.nm r.ths.l b.1 _ u (Pm (j:=2) rfl hu) hb1 (by omega))) ?_
  iterate 4 refine Aa ?_
  refine Wf 0 rfl rfl (fun hg=>Cb rfl (ec_ (eg_ hg rfl) (ec_ (eg_ hg rfl) en_)) LL (fun u hu=>Iu r u (hr.st hu) _)) ?_
  iterate 4 refine Aa ?_
  refine Wf 0 rfl rfl (fun hg=>Cb rfl (ec_ (eg_ hg rfl) (ec_ rfl (ec_ rfl en_))) G8 (fun u hu=>Hi _ _ _ u)) ?_
  iterate 7 refine Aa ?_
  refine Wf 0 rfl rfl (fun hg=>Cb rfl (ec_ (eg_ hg rfl) (ec_ rfl (ec_ (eg_ hg rfl) en_))) G8 (fun u hu=>Hi _ _ _ u)) ?_
  iterate 2 refine Aa ?_
  refine Cm ?_ ?_<;>intro hc6
  ·exact out1 rfl rfl (Af (by
      have hE:thO r b.1=21:=by(unfold thO thB placeB;grind)
      rw[e2,show IM r=21 from Bu ((Av hb1 (by omega) hb3 (by rw[hE];decide)).trans hE) (by decide)]))
  refine Aa ?_;refine QS.sel [2,2] rfl ?_
  exact QS.head ((b.1+1,v87)) rfl (by simp only[Ml Thing.nm (l:=r.ths.l) hb1 (by omega)]) ⟨⟨by simp;omega,by simp;omega,fun j h0 h1=>by
     simp only at h1;rcases(show j<b.1\/j=b.1 by omega)with h|h
     ·exact hb3 j h0 h
     rw[h];exact(show thO r b.1=0 by(unfold thO thB placeB;grind))⟩,by simp;omega⟩
 have e3:checkE r=Gf r:=e2.trans (Bx (Ay fun j a b=>hb3 j a (by omega)));refine CS.weak (fun _ hu=>hu.osl0 (e:=9) (size:=1)) ?_;refine CS.sel [0,1] rfl ?_;refine CS.loopM (σ:=Int×Value) (rsL [2,2,8,8,119,161]) (fun s=>[(7,.int .i64 s.1),(4,s.2)]) (fun s=>[osl 9 1 s.2 (A1 cStr ((r.prs.l.take (s.1).toNat).map Pro.nm)).length (A1 cStr ((r.prs.l.take (s.1).toNat).map Pro.nm)),blk b1 (rcl r) 32]) (fun s=>0<=s.1/\s.1<=r.prs.l.length/\∀j:Int,0<=j->j<s.1->prO r j=0) (fun s=>(r.prs.l.length-s.1).toNat) (0,.slice none 0 0) (fun _ _=>rfl) rfl rfl ⟨by simp,by simp,fun j h0 h1=>by simp at h1;omega⟩ ?_;intro d t hs;obtain⟨hd1,hd2,hd3⟩:=hs;have hln:=PJ Pro.nm (l:=r.prs.l) hd1 hd2;refine Nf ?_
 iterate 2 refine Aa ?_
 refine Cm ?_ ?_<;>intro hc7
 ·have hnm:=hn.pr _ (Ai hd1 (by omega));have hwh:SlT cLit w (nth r.prs.l d.1).wh:=hr.prs.at hd1 (by omega)
  iterate 3 refine Aa ?_
  refine Wq 0 EP fun b8 hb8=>?_;refine Wv 0 0 ?_;refine Nf ?_;refine Aa ?_;refine WS.buildV1 sl23 zv9 rfl (by first|rfl|assumption) (fun _=>rfl) ?_;intro v134;refine WS.append1 (j:=2) (jz:=0) sl23 zv9 rfl rfl rfl rfl (by first|rfl|assumption) (by first|omega|(simp;omega)|(simp only[List.length_append,List.length_singleton,List.length_map,List.length_cons,List.length_nil]at*;omega)) (by first|omega|(simp;omega)|(simp only[List.length_append,List.length_singleton,List.length_map,List.length_cons,List.length_nil]at*;omega)) (fun _=>rfl) (fun _=>rfl) ?_;intro v135;refine WS.oc (j:=2) rfl (fun hv135=>?_);refine Nr ?_;refine Aa ?_;refine Wk 2 (Cb rfl rfl LF (fun u hu=>HU _ u (by omega))) ?_
  iterate 2 refine Aa ?_
  refine Wf 0 rfl rfl (fun hg=>Cb rfl (ec_ (eg_ hg rfl) (ec_ (eg_ hg rfl) en_)) Ul (fun u hu=>OZ Pro.nm r.prs.l d.1 _ u (Pm (j:=2) rfl hu) hd1 (by omega))) ?_
  iterate 4 refine Aa ?_
  refine Wf 0 rfl rfl (fun hg=>Fm (eg_ hg rfl)) ?_;refine Wn 0 rfl rfl rfl (fun hg=>Bb 3) ?_;refine Wn 0 rfl rfl rfl (fun hg=>Ff) ?_;refine Wn 0 rfl rfl rfl (fun hg=>Ba 1) ?_;refine Wn 0 rfl rfl rfl (fun hg=>Cb rfl (ec_ (eg_ hg rfl) (ec_ (eg_ hg rfl) en_)) LL (fun u hu=>Iu r u (hr.st hu) _)) ?_;refine Wn 0 rfl rfl rfl (fun hg=>Fn) ?_;refine Wf 0 rfl rfl (fun hg=>AW (eg_ hg rfl) (Cg hg rfl) rfl) ?_;refine Aa ?_;refine Cm ?_ ?_<;>intro hc8
  ·exact out1 rfl rfl (Af (by
      have hE:prO r d.1=24:=by(unfold prO or0 placeB;grind)
      rw[e3,show Gf r=24 from Bu ((Av hd1 (by omega) hd3 (by rw[hE];decide)).trans hE) (by decide)]))
  iterate 2 refine Aa ?_
  refine Wk 1 (Cb rfl rfl JJ (fun u hu=>ER r u (hr.st hu) _ (hwh.st hu))) ?_;refine Nf ?_;refine Cm ?_ ?_<;>intro hc9
  ·exact out1 rfl rfl (Af (by
      have hE:prO r d.1=25:=by(unfold prO or0 whO placeB;grind)
      rw[e3,show Gf r=25 from Bu ((Av hd1 (by omega) hd3 (by rw[hE];decide)).trans hE) (by decide)]))
  refine Aa ?_;refine QS.sel [2,2] rfl ?_
  exact QS.head ((d.1+1,v135)) rfl (by simp only[Ml Pro.nm (l:=r.prs.l) hd1 (by omega)]) ⟨⟨by simp;omega,by simp;omega,fun j h0 h1=>by
     simp only at h1;rcases(show j<d.1\/j=d.1 by omega)with h|h
     ·exact hd3 j h0 h
     rw[h];exact(show prO r d.1=0 by(unfold prO or0 whO placeB;grind))⟩,by simp;omega⟩
 have e4:checkE r=Gt r:=e3.trans (Bx (Ay fun j a b=>hd3 j a (by omega)));refine CS.loopM (σ:=Int) (rsL [2,2,10,10,162,197]) (fun s=>[(9,.int .i64 s)]) (fun _=>_) (fun s=>0<=s/\s<=r.wys.l.length/\∀j:Int,0<=j->j<s->wyO r j=0) (fun s=>(r.wys.l.length-s).toNat) 0 (fun _ _=>rfl) rfl rfl ⟨by omega,by omega,fun j _ _=>by omega⟩ ?_;intro e t hs;obtain⟨he1,he2,he3⟩:=hs;refine Nf ?_
 iterate 2 refine Aa ?_
 refine Cm ?_ ?_<;>intro hc10
 ·have hwh:SlT cLit w (nth r.wys.l e).wh:=hr.wys.at he1 (by omega)
  iterate 3 refine Aa ?_
  refine Wq 0 Ex fun b10 hb10=>?_;refine Wv 0 0 ?_;refine Nf ?_
  iterate 2 refine Aa ?_
  refine Wk 2 (Cb rfl rfl LL (fun u hu=>Iu r u (hr.st hu) _)) ?_
  iterate 3 refine Aa ?_
  refine Wf 0 rfl rfl (fun hg=>Cb rfl (ec_ (eg_ hg rfl) (ec_ (eg_ hg rfl) en_)) LL (fun u hu=>Iu r u (hr.st hu) _)) ?_
  iterate 8 refine Aa ?_
  refine Cm ?_ ?_<;>intro hc11
  ·exact out1 rfl rfl (Af (by
      have hE:wyO r e=23:=by(unfold wyO or0 placeB;grind)
      rw[e4,show Gt r=23 from Bu ((Av he1 (by omega) he3 (by rw[hE];decide)).trans hE) (by decide)]))
  iterate 2 refine Aa ?_
  refine Wk 1 (Cb rfl rfl JJ (fun u hu=>ER r u (hr.st hu) _ (hwh.st hu))) ?_;refine Nf ?_;refine Cm ?_ ?_<;>intro hc12
  ·exact out1 rfl rfl (Af (by
      have hE:wyO r e=25:=by(unfold wyO or0 whO placeB;grind)
      rw[e4,show Gt r=25 from Bu ((Av he1 (by omega) he3 (by rw[hE];decide)).trans hE) (by decide)]))
  refine Aa ?_;refine QS.sel [1,1] rfl ?_
  exact QS.head (e+1) rfl rfl ⟨⟨by omega,by omega,fun j h0 h1=>by
     rcases(show j<e\/j=e by omega)with h|h
     ·exact he3 j h0 h
     rw[h];exact(show wyO r e=0 by(unfold wyO or0 whO placeB;grind))⟩,by omega⟩
 have e5:checkE r=Gr r:=e4.trans (Bx (Ay fun j a b=>he3 j a (by omega)));refine CS.loopM (σ:=Int) (rsL [2,2,198,217]) (fun s=>[(11,.int .i64 s)]) (fun _=>_) (fun s=>0<=s/\s<=r.acs.l.length/\∀j:Int,0<=j->j<s->acO r j=0) (fun s=>(r.acs.l.length-s).toNat) 0 (fun _ _=>rfl) rfl rfl ⟨by omega,by omega,fun j _ _=>by omega⟩ ?_;intro g t hs;obtain⟨hg1,hg2,hg3⟩:=hs;refine Nf ?_
 iterate 2 refine Aa ?_
 refine Cm ?_ ?_<;>intro hc13
 ·have hwh:SlT cLit w (nth r.acs.l g).wh:=(hr.acs.at hg1 (by omega):ActOk w _).wh;refine Aa ?_;refine Wk 1 (Cb rfl rfl Jdt (fun u hu=>Jhm r u (hr.st hu) _ hg1 (by omega) (fun x hx=>(hn.ac x hx).1))) ?_;refine Nf ?_;refine Cm ?_ ?_<;>intro hc14
  ·exact out1 rfl rfl (Af (by
      have hE:acO r g=26:=by(unfold acO or0;grind)
      rw[e5,show Gr r=26 from Bu ((Av hg1 (by omega) hg3 (by rw[hE];decide)).trans hE) (by decide)]))
  refine Dg mixed ?_
  iterate 4 refine Ad ?_
  refine Dk 1 (Cb rfl rfl JJ (fun u hu=>ER r u (hr.st hu) _ (hwh.st hu))) ?_;refine Nf ?_;refine Cm ?_ ?_<;>intro hc15
  ·exact out1 rfl rfl (Af (by
      have hE:acO r g=25:=by(unfold acO or0 whO;grind)
      rw[e5,show Gr r=25 from Bu ((Av hg1 (by omega) hg3 (by rw[hE];decide)).trans hE) (by decide)]))
  refine Aa ?_
  exact QS.head (g+1) rfl rfl ⟨⟨by omega,by omega,fun j h0 h1=>by
     rcases(show j<g\/j=g by omega)with h|h
     ·exact hg3 j h0 h
     rw[h];exact(show acO r g=0 by(unfold acO or0 whO;grind))⟩,by omega⟩
 have e6:checkE r=Gi r:=e5.trans (Bx (Ay fun j a b=>hg3 j a (by omega)));refine CS.loopM (σ:=Int) (rsL [2,2,218,250]) (fun s=>[(12,.int .i64 s)]) (fun _=>_) (fun s=>0<=s/\s<=r.aus.l.length/\∀j:Int,0<=j->j<s->auO r j=0) (fun s=>(r.aus.l.length-s).toNat) 0 (fun _ _=>rfl) rfl rfl ⟨by omega,by omega,fun j _ _=>by omega⟩ ?_;intro m t hs;obtain⟨hm1,hm2,hm3⟩:=hs;refine Nf ?_
 iterate 2 refine Aa ?_
 refine Cm ?_ ?_<;>intro hc16
 ·have hwh:SlT cLit w (nth r.aus.l m).wh:=hr.aus.at hm1 (by omega);refine Dg mixed ?_
  iterate 7 refine Ad ?_
  refine Dk 1 (Cb rfl rfl UO (fun u hu=>Y1 r u (hr.st hu) _ _)) ?_;refine Nf ?_;refine Cm ?_ ?_<;>intro hc17
  ·exact out1 rfl rfl (Af (by
      have hE:auO r m=27:=by(unfold auO or0;grind)
      rw[e6,show Gi r=27 from Bu ((Av hm1 (by omega) hm3 (by rw[hE];decide)).trans hE) (by decide)]))
  refine Dg mixed ?_
  iterate 4 refine Ad ?_
  refine Dk 1 (Cb rfl rfl JJ (fun u hu=>ER r u (hr.st hu) _ (hwh.st hu))) ?_;refine Nf ?_;refine Cm ?_ ?_<;>intro hc18
  ·exact out1 rfl rfl (Af (by
      have hE:auO r m=25:=by(unfold auO or0 whO;grind)
      rw[e6,show Gi r=25 from Bu ((Av hm1 (by omega) hm3 (by rw[hE];decide)).trans hE) (by decide)]))
  refine Aa ?_
  exact QS.head (m+1) rfl rfl ⟨⟨by omega,by omega,fun j h0 h1=>by
     rcases(show j<m\/j=m by omega)with h|h
     ·exact hm3 j h0 h
     rw[h];exact(show auO r m=0 by(unfold auO or0 whO;grind))⟩,by omega⟩
 have e7:checkE r=glO r:=e6.trans (Bx (Ay fun j a b=>hm3 j a (by omega)));refine Aa ?_;refine Wk 1 (Cb rfl rfl G8 (fun u hu=>Hi _ _ _ u)) ?_;refine Nf ?_;refine Cm ?_ ?_<;>intro hc19
 ·exact out1 rfl rfl (Af (by rw[e7,show glO r=1 by(unfold glO or0;grind)]))
 iterate 2 refine Aa ?_
 refine Wk 1 (Cb rfl rfl JJ (fun u hu=>ER r u (hr.st hu) _ (kgl.st hu))) ?_;refine Nf ?_;refine Cm ?_ ?_<;>intro hc20
 ·exact out1 rfl rfl (Af (by rw[e7,show glO r=25 by(unfold glO or0 whO;grind)]))
 exact out1 rfl rfl (Af (by rw[e7,show glO r=0 by(unfold glO or0 whO;grind)]))
end Go.Proofs.YtllebkdchemabaaGreatDoor
