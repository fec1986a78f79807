/- Merged texts of this proof (walks and plain laws), printed by a program of the prover. -/
import Derived.Test.YtdpbapffdmahnaaGreatDoorZb
import Derived.Test.YtdpbapffdmahnaaGreatDoorZc
set_option maxHeartbeats 8000000
namespace Go.Proofs.YtdpbapffdmahnaaGreatDoor
open Go.RowKit Go.Proofs
set_option maxRecDepth 100000
set_option linter.unusedVariables false
set_option linter.unusedSimpArgs false
theorem Jc5 (n lo hi:Int) (w:World) :
  Calls Tryz.prog 60 #[.int .i64 n,.int .i64 lo,.int .i64 hi] w (RetB w (.bool (decide (lo≤n) && decide (n≤hi)))):=by
 refine enter Tryz.func60 rfl rfl (Nat.le_of_ble_eq_true rfl) ?_
 refine Nz 1 ?_
 refine Wd (Qc (Nz 4 ?_))
 refine Wt 0 rfl rfl (fun hg=>Fm) ?_
 refine Wt 0 rfl rfl (fun hg=>Fm) ?_
 refine Wt 0 rfl rfl (fun hg=>Fk) ?_
 refine Wk 1 Pa ?_
 exact Wd (Qc (Cr (out1 rfl rfl (Jaa (by simp)))))
theorem Jav (n lo hi:Int) (w:World) :
  Calls Tryz.prog 52 #[.int .i64 n,.int .i64 lo,.int .i64 hi] w (RetB w (.bool (decide (lo≤n) && decide (n≤hi)))):=by
 refine enter Tryz.func52 rfl rfl (Nat.le_of_ble_eq_true rfl) ?_
 refine Nz 1 ?_
 refine Wd (Qc (Nz 4 ?_))
 refine Wt 0 rfl rfl (fun hg=>Fm) ?_
 refine Wt 0 rfl rfl (fun hg=>Fm) ?_
 refine Wt 0 rfl rfl (fun hg=>Fk) ?_
 refine Wk 1 Pa ?_
 exact Wd (Qc (Cr (out1 rfl rfl (Jaa (by simp)))))
theorem Jmx (w:World) :
  Calls Tryz.prog 173 #[] w (fun e w'=>∃ v:Value,(∃ u0,SlT cStr u0 ⟨v,wordL⟩)∧RetF w v (roT cStr ⟨v,wordL⟩) e w'):=by
 refine enter Tryz.func173 rfl rfl (Nat.le_of_ble_eq_true rfl) ?_
 refine Nz 1 ?_
 refine Wd (Qc (Nz 0 ?_))
 refine WS.buildSlice1 (pl:=[(0,.const (.string ⟨#[97,116]⟩)),(1,.const (.string ⟨#[115,116,97,116,101,115]⟩)),(2,.const (.string ⟨#[115,116,97,114,116]⟩)),(3,.const (.string ⟨#[103,111,110,101]⟩)),(4,.const (.string ⟨#[105,102]⟩)),(5,.const (.string ⟨#[108,111,99,107]⟩)),(6,.const (.string ⟨#[119,105,116,104]⟩)),(7,.const (.string ⟨#[115,101,116,115]⟩)),(8,.const (.string ⟨#[115,112,101,110,100,115]⟩)),(9,.const (.string ⟨#[98,114,105,110,103,115]⟩))]) (vs:=wordL.map .string) sl22 zv9 rfl rfl (by decide) (by intro v hv; simp only [wordL,List.map_cons,List.map_nil,List.mem_cons,List.not_mem_nil,or_false] at hv; rcases hv with rfl | rfl | rfl | rfl | rfl | rfl | rfl | rfl | rfl | rfl <;> rfl) (fun _=>rfl) ?_; intro v1
 refine Wz 1 ?_
 refine Wd (Qc (Cr ?_))
 refine QS.weak (L':=[roT cStr ⟨v1,wordL⟩]) (fun u hu=>St.toRo (A:=osl 9 1 v1 10 (wordL.map .string)) (p:=fun u=>SlT cStr u ⟨v1,wordL⟩) (fun S u h=>⟨Ja5 h.2,fun _ _=>trivial⟩) hu) ?_
 exact out1 rfl rfl (fun u hu=>⟨_,⟨u,hu.ro (j:=0) rfl⟩,retF (j:=0) rfl u hu⟩)
theorem Jke (tx:ByteArray) (w:World) (hm:(tx.size:Int)≤9223372036854775806) :
  Calls Tryz.prog 137 #[.string tx] w (RetB w (.bool (Jbo tx))):=by
 refine enter Tryz.func137 rfl rfl (Nat.le_of_ble_eq_true rfl) ?_
 refine Nz 1 ?_
 refine Wd (Qc (Cs (Nz 1 ?_)))
 refine Wd (Qc (Ce ?_))
 refine CS.loopM (σ:=Int) [2,6,7,8,9,10,11,12,13,14,15,16,17,18,19,20,21] (fun s=>[(3,.int .i64 s)]) (fun _=>_) (fun s=>0≤s∧s≤tx.size∧∀ j:Int,0≤j→j < s→97≤byt tx j∧byt tx j≤122) (fun s=>(tx.size - s).toNat) 0 (fun _ _=>rfl) rfl rfl ⟨by omega,by omega,fun j _ _=>by omega⟩ ?_
 intro s t hs
 obtain ⟨hs1,hs2,hs3⟩:=hs
 refine Cs (Nz 2 ?_)
 refine Wk 1 (Ja0 Tryz.underlying9 rfl) ?_
 refine Wd (Qc (CS.cond rfl ?_ ?_))<;>intro hc1<;>try simp only [bq] at hc1
 ·
  refine Ck (Qc (Cs (Ce (Nz 2 ?_))))
  refine Wk 2 (Jbw Tryz.underlying9 rfl rfl (by omega) (by omega)) ?_
  refine Wf 0 rfl rfl (fun hg=>Fm) ?_
  refine Wf 0 rfl rfl (fun hg=>Fm) ?_
  refine Wf 0 rfl rfl (fun hg=>Jbw Tryz.underlying9 (eg_ hg rfl) (eg_ hg rfl) (by (try simp only [bq] at hg); omega) (by (try simp only [bq] at hg); omega)) ?_
  refine Wf 0 rfl rfl (fun hg=>Fg) ?_
  refine Wk 0 Po ?_
  refine Wd (Qc (CS.cond rfl ?_ ?_))<;>intro hc2<;>try simp only [bq] at hc2
  ·
   refine Nz 1 ?_
   exact Wd (Qc (Cr (Qs (Qr (Qr (Qs (Qr (out1 rfl rfl (Jaa (by unfold Jbo; rw [Jj5 hs1 (by omega) (by omega)]; rfl))))))))))
  refine Ck (Qb (Qc (Ny 1 ?_)))
  refine Wk 1 Za ?_
  refine Wd ?_
  exact QS.head (s+1) rfl rfl ⟨⟨by omega,by omega,fun j h0 h1=>by
     rcases (show j < s∨j=s by omega) with h | h
     ·
      exact hs3 j h0 h
     rw [h]; omega⟩,by omega⟩
 refine Cv (Qe (Qe (Qx (Qc (Nz 0 ?_)))))
 refine Wc rfl rfl Jo1 (fun u hu=>Jmx u) (fun _=>rfl) ?_; rintro v22 ⟨u22,hv22⟩
 refine Wz 1 ?_
 refine Wd (Qc (Cs (Nz 1 ?_)))
 refine Wd (Qc (Ce ?_))
 refine CS.loopM (σ:=Int) [2,23,24,25,26,27,28,29,30,31,32,33,34] (fun s=>[(5,.int .i64 s)]) (fun _=>_) (fun s=>0≤s∧s≤10∧∀ j:Int,0≤j→j < s→seq (nth wordL j) tx=false) (fun s=>(10 - s).toNat) 0 (fun _ _=>rfl) rfl rfl ⟨by omega,by omega,fun j _ _=>by omega⟩ ?_
 intro q t hs
 obtain ⟨hq1,hq2,hq3⟩:=hs
 refine Cs (Nz 2 ?_)
 refine WS.det rfl rfl rfl (Jb0 (n:=10) sl22 rfl hv22.sp) rfl ?_
 refine Wz 1 ?_
 refine Wd (Qc (CS.cond rfl ?_ ?_))<;>intro hc3<;>try simp only [bq] at hc3
 ·
  refine Ck (Qc (Cs (Ce (Nz 2 ?_))))
  refine Wk 0 (Jb9 sl22 rfl rfl rfl rfl hv22 (by omega) (by simp [wordL]; omega)) ?_
  refine Wk 1 (Jlx (jj:=0) rfl rfl rfl rfl ⟨by omega,by simp [wordL]; omega⟩ rfl tk9) ?_
  refine Wk 0 (Jbf rfl rfl) ?_
  refine Wd (Qc (CS.cond rfl ?_ ?_))<;>intro hc4<;>try simp only [bq] at hc4
  ·
   refine Nz 1 ?_
   refine Wd (Qc (Cr (Qs (Qr (Qr (Qs (Qr ?_)))))))
   exact out1 rfl rfl (Jaa (by
      have:(wordL.any fun x=>seq x tx)=true:=List.any_eq_true.2 ⟨_,Jad hq1 (by simp [wordL]; omega),hc4⟩
      unfold Jbo; rw [this]; simp))
  refine Ck (Qb (Qc (Ny 1 ?_)))
  refine Wk 1 Za ?_
  refine Wd ?_
  exact QS.head (q+1) rfl rfl ⟨⟨by omega,by omega,fun j h0 h1=>by
     rcases (show j < q∨j=q by omega) with h | h
     ·
      exact hq3 j h0 h
     rw [h]; exact hc4⟩,by omega⟩
 refine Cv (Qe (Qe (Qx (Qc (Nz 1 ?_)))))
 refine Wk 1 (Jfq rfl rfl) ?_
 refine Wd (Qc (Cr ?_))
 exact out1 rfl rfl (Jaa (by
    have h1:lowB tx=true:=Jht fun j h0 h1=>hs3 j h0 (by omega)
    have h2:(wordL.any fun x=>seq x tx)=false:=by
     rw [List.any_eq_false]
     intro x hx
     obtain ⟨i,h0,h3,rfl⟩:=Jaz hx
     rw [hq3 i h0 (by simp [wordL] at h3; omega)]; simp
    unfold Jbo; rw [h1,h2]; rfl))
theorem Je2 (tx:ByteArray) (w:World) (hm:(tx.size:Int)≤9223372036854775806) :
  Calls Tryz.prog 100 #[.string tx] w (RetB w (.bool (Ja4 tx))):=by
 refine enter Tryz.func100 rfl rfl (Nat.le_of_ble_eq_true rfl) ?_
 refine Nz 1 ?_
 refine Wd (Qc (Nz 1 ?_))
 refine Wk 2 (Ja0 Tryz.underlying9 rfl) ?_
 refine Wt 0 rfl rfl (fun hg=>Fm) ?_
 refine Wt 0 rfl rfl (fun hg=>Cb rfl (ec_ (eg_ hg rfl) en_) Jn9 (fun u hu=>Jke _ u (by omega))) ?_
 refine Wk 1 Pa ?_
 exact Wd (Qc (Cr (out1 rfl rfl (Jaa (by simp [Ja4])))))
theorem Jcr (r:Room) (w:World) (hr:RoomOk w r) (n:Int) :
  Calls Tryz.prog 59 #[.agg #[r.pls.v,r.ths.v,r.prs.v,r.wys.v,r.acs.v,r.aus.v,.int .i64 r.ply,r.gl.v],.int .i64 n] w (RetB w (.bool (decide (0≤n) && decide (n≤r.pls.l.length - 1)))):=by
 have kpl:=hr.pls
 have lpl:=hr.pls.le
 have kth:=hr.ths
 have lth:=hr.ths.le
 have kpr:=hr.prs
 have lpr:=hr.prs.le
 have kwy:=hr.wys
 have lwy:=hr.wys.le
 have kac:=hr.acs
 have lac:=hr.acs.le
 have kau:=hr.aus
 have lau:=hr.aus.le
 have kgl:=hr.gl
 have lgl:=hr.gl.le
 refine enter Tryz.func59 rfl rfl (Nat.le_of_ble_eq_true rfl) ?_
 refine Nz 0 ?_
 refine Wb 1 rfl rfl (fun _=>rfl) (fun _=>rfl) fun b2 hb2=>?_
 refine Wd (Qc (Nz 2 ?_))
 refine Wk 0 (Ba 0) ?_
 refine Wk 0 Nc ?_
 refine Wk 0 Zb ?_
 refine Wk 1 (Cb rfl rfl Je6 (fun u hu=>Jc5 _ _ _ u)) ?_
 exact Wd (Qc (Cr (out1 rfl rfl (Jaa rfl))))
theorem Jlj (r:Room) (w:World) (hr:RoomOk w r) (a b:Int) :
  Calls Tryz.prog 58 #[.agg #[r.pls.v,r.ths.v,r.prs.v,r.wys.v,r.acs.v,r.aus.v,.int .i64 r.ply,r.gl.v],.int .i64 a,.int .i64 b] w (RetB w (.bool (putB r.ths.l a b))):=by
 have kpl:=hr.pls
 have lpl:=hr.pls.le
 have kth:=hr.ths
 have lth:=hr.ths.le
 have kpr:=hr.prs
 have lpr:=hr.prs.le
 have kwy:=hr.wys
 have lwy:=hr.wys.le
 have kac:=hr.acs
 have lac:=hr.acs.le
 have kau:=hr.aus
 have lau:=hr.aus.le
 have kgl:=hr.gl
 have lgl:=hr.gl.le
 refine enter Tryz.func58 rfl rfl (Nat.le_of_ble_eq_true rfl) ?_
 refine Nz 0 ?_
 refine Wb 1 rfl rfl (fun _=>rfl) (fun _=>rfl) fun b3 hb3=>?_
 refine Wd (Qc (Nz 2 ?_))
 refine Wk 0 (Ba 0) ?_
 refine Wk 0 Nc ?_
 refine Wk 0 Zb ?_
 refine Wk 1 (Cb rfl rfl Je6 (fun u hu=>Jc5 _ _ _ u)) ?_
 refine Wt 0 rfl rfl (fun hg=>Fm) ?_
 refine Wt 0 rfl rfl (fun hg=>Ff) ?_
 refine Wt 0 rfl rfl (fun hg=>Ba 0) ?_
 refine Wt 0 rfl rfl (fun hg=>Fm) ?_
 refine Wt 0 rfl rfl (fun hg=>Jb9 (C:=cThing) (s:=r.ths) sl23 (eg_ hg rfl) (eg_ hg rfl) rfl rfl hr.ths (by (try simp only [decide_eq_true_eq,Bool.and_eq_true] at hg); omega) (by (try simp only [decide_eq_true_eq,Bool.and_eq_true] at hg); omega)) ?_
 refine Wt 0 rfl rfl (fun hg=>Ff) ?_
 refine Wt 0 rfl rfl (fun hg=>Jc6 (C:=cThing) (s:=r.ths) (i:=a) (j:=2) (eg_ hg rfl) rfl rfl hr.ths (by (try simp only [decide_eq_true_eq,Bool.and_eq_true] at hg); omega) (by decide) rfl tk3) ?_
 refine Wt 0 rfl rfl (fun hg=>Jho (eg_ hg rfl) rfl) ?_
 refine Wt 0 rfl rfl (fun hg=>Cb rfl (ec_ (eg_ hg rfl) (ec_ rfl (ec_ (eg_ hg rfl) en_))) Je6 (fun u hu=>Jc5 _ _ _ u)) ?_
 refine Wk 1 Pa ?_
 exact Wd (Qc (Cr (out1 rfl rfl (Jaa rfl))))
theorem Jc7 (r:Room) (w:World) (hr:RoomOk w r) (c:Sl Lit) (hk:SlT cLit w c) :
  Calls Tryz.prog 102 #[.agg #[r.pls.v,r.ths.v,r.prs.v,r.wys.v,r.acs.v,r.aus.v,.int .i64 r.ply,r.gl.v],c.v] w (RetB w (.bool (Jen r.ths.l c.l))):=by
 have kpl:=hr.pls
 have lpl:=hr.pls.le
 have kth:=hr.ths
 have lth:=hr.ths.le
 have kpr:=hr.prs
 have lpr:=hr.prs.le
 have kwy:=hr.wys
 have lwy:=hr.wys.le
 have kac:=hr.acs
 have lac:=hr.acs.le
 have kau:=hr.aus
 have lau:=hr.aus.le
 have kgl:=hr.gl
 have lgl:=hr.gl.le
 have hcs:=hk.sp
 have lcs:=hk.le
 refine enter Tryz.func102 rfl rfl (Nat.le_of_ble_eq_true rfl) ?_
 refine Nz 0 ?_
 refine Wb 1 rfl rfl (fun _=>rfl) (fun _=>rfl) fun b2 hb2=>?_
 refine Wd (Qc (Cs (Nz 1 ?_)))
 refine Wd (Qc (Ce ?_))
 refine CS.loopM (σ:=Int) [4,6,7,8,9,10,11,12,13,14,15,16,17,18,19,20,21,22,23,24] (fun s=>[(5,.int .i64 s)]) (fun _=>_) (fun s=>0≤s∧s≤c.l.length∧∀ j:Int,0≤j→j < s→putB r.ths.l (nth c.l j).t (nth c.l j).s=true) (fun s=>(c.l.length - s).toNat) 0 (fun _ _=>rfl) rfl rfl ⟨by omega,by omega,fun j _ _=>by omega⟩ ?_
 intro s t hs
 obtain ⟨hs1,hs2,hs3⟩:=hs
 refine Cs (Nz 2 ?_)
 refine Wk 1 Nc ?_
 refine Wd (Qc (CS.cond rfl ?_ ?_))<;>intro hc1<;>try simp only [bq] at hc1
 ·
  refine Ck (Qc (Cs (Ce (Cs (Dr mixed 0 ?_)))))
  refine Dk 2 (Bb 0) ?_
  refine Dk 1 (Jb9 (C:=cLit) (s:=c) sl29 rfl rfl rfl rfl hk (by omega) (by omega)) ?_
  refine Dk 2 (Jc6 (C:=cLit) (s:=c) (i:=s) (j:=0) rfl rfl rfl hk ⟨by omega,by omega⟩ (by decide) rfl tk3) ?_
  refine Dk 1 (Jb9 (C:=cLit) (s:=c) sl29 rfl rfl rfl rfl hk (by omega) (by omega)) ?_
  refine Dk 0 (Jc6 (C:=cLit) (s:=c) (i:=s) (j:=1) rfl rfl rfl hk ⟨by omega,by omega⟩ (by decide) rfl tk3) ?_
  refine Dk 1 (Cb rfl rfl Jlc (fun u hu=>Jlj r u (hr.st hu) _ _)) ?_
  refine Dd (Qc (CS.cond rfl ?_ ?_))<;>intro hc2<;>try simp only [bq] at hc2
  ·
   refine Nz 1 ?_
   refine Wd (Qc (Cr (Qs (Qr (Qr (Qs (Qr ?_)))))))
   exact out1 rfl rfl (Jaa (by
      have:c.l.all (fun x=>putB r.ths.l x.t x.s)=false:=by
       rw [List.all_eq_false]
       exact ⟨_,Jad hs1 (by omega),by simpa using hc2⟩
      unfold Jen; rw [this]; rfl))
  refine Ck (Qb (Qc (Ny 1 ?_)))
  refine Wk 1 Za ?_
  refine Wd ?_
  exact QS.head (s+1) rfl rfl ⟨⟨by omega,by omega,fun j h0 h1=>by
     rcases (show j < s∨j=s by omega) with h | h
     ·
      exact hs3 j h0 h
     rw [h]; exact hc2⟩,by omega⟩
 refine Cv (Qe (Qe (Qx (Qc (Nz 1 ?_)))))
 refine Wk 2 Nc ?_
 refine Wd (Qc (Cr ?_))
 exact out1 rfl rfl (Jaa (by
    have:c.l.all (fun x=>putB r.ths.l x.t x.s)=true:=by
     rw [List.all_eq_true]
     intro x hx
     obtain ⟨i,h0,h3,rfl⟩:=Jaz hx
     exact hs3 i h0 (by omega)
    unfold Jen; rw [this]; rfl))
theorem in_c (xs:List Int) (v:Value) (n:Int) (w:World) (h1:SlI w v xs) :
  Calls Tryz.prog 139 #[v,.int .i64 n] w (RetB w (.bool (decide (n∈xs)))):=by
 have hl1:=h1.le
 refine enter Tryz.func139 rfl rfl (Nat.le_of_ble_eq_true rfl) ?_
 refine Nz 1 ?_
 refine Wd (Qc (Cs (Nz 1 ?_)))
 refine Wd (Qc (Ce ?_))
 refine CS.loopM (σ:=Int) [4,6,7,8,9,10,11,12,13,14,15,16,17] (fun s=>[(5,.int .i64 s)]) (fun _=>_) (fun s=>0≤s∧s≤xs.length∧∀ j:Int,0≤j→j < s→¬ nth xs j=n) (fun s=>(xs.length - s).toNat) 0 (fun _ _=>rfl) rfl rfl ⟨by omega,by omega,fun j _ _=>by omega⟩ ?_
 intro s t hs
 obtain ⟨hs1,hs2,hs3⟩:=hs
 refine Cs (Nz 2 ?_)
 refine Wk 1 Na ?_
 refine Wd (Qc (CS.cond rfl ?_ ?_))<;>intro hc1<;>try simp only [bq] at hc1
 ·
  refine Ck (Qc (Cs (Ce (Nz 2 ?_))))
  refine Wk 0 Xa ?_
  refine Wk 2 Ia ?_
  refine Wd (Qc (CS.cond rfl ?_ ?_))<;>intro hc2<;>try simp only [bq] at hc2
  ·
   refine Nz 1 ?_
   exact Wd (Qc (Cr (Qs (Qr (Qr (Qs (Qr (out1 rfl rfl (Jaa (by rw [decide_eq_true (by rw [← hc2]; exact Jad hs1 (by omega))]))))))))))
  refine Ck (Qb (Qc (Ny 1 ?_)))
  refine Wk 1 Za ?_
  refine Wd ?_
  exact QS.head (s+1) rfl rfl ⟨⟨by omega,by omega,fun j h0 h1=>by
     rcases (show j < s∨j=s by omega) with h | h
     ·
      exact hs3 j h0 h
     rw [h]; exact hc2⟩,by omega⟩
 refine Cv (Qe (Qe (Qx (Qc (Nz 1 ?_)))))
 refine Wd (Qc (Cr ?_))
 exact out1 rfl rfl (Jaa (by
    rw [decide_eq_false]
    intro hm
    obtain ⟨i,h0,h3,h4⟩:=Jaz hm
    exact hs3 i h0 (by omega) h4))
theorem Jjo (l:Sl ByteArray) (i:Int) (w:World) (hk:SlT cStr w l) (h0:0≤i) (h1:i < l.l.length) :
  Calls Tryz.prog 101 #[l.v,.int .i64 i] w (RetB w (.bool ((l.l.take i.toNat).any fun x=>seq x (nth l.l i)))):=by
 have hls:=hk.sp
 have lls:=hk.le
 refine enter Tryz.func101 rfl rfl (Nat.le_of_ble_eq_true rfl) ?_
 refine Nz 1 ?_
 refine Wd (Qc (Cs (Nz 1 ?_)))
 refine Wd (Qc (Ce ?_))
 refine CS.loopM (σ:=Int) [4,6,7,8,9,10,11,12,13,14,15,16,17,18,19] (fun s=>[(5,.int .i64 s)]) (fun _=>_) (fun s=>0≤s∧s≤i∧∀ j:Int,0≤j→j < s→seq (nth l.l j) (nth l.l i)=false) (fun s=>(i - s).toNat) 0 (fun _ _=>rfl) rfl rfl ⟨by omega,by omega,fun j _ _=>by omega⟩ ?_
 intro s t hs
 obtain ⟨hs1,hs2,hs3⟩:=hs
 refine Cs (Nz 3 ?_)
 refine Wd (Qc (CS.cond rfl ?_ ?_))<;>intro hc1<;>try simp only [bq] at hc1
 ·
  refine Ck (Qc (Cs (Ce (Cs (Dr mixed 2 ?_)))))
  refine Dk 0 (Jb9 (C:=cStr) (s:=l) sl22 rfl rfl rfl rfl hk (by omega) (by omega)) ?_
  refine Dk 2 (Je1 (C:=cStr) (s:=l) (i:=s) rfl rfl rfl hk ⟨by omega,by omega⟩ rfl tk9) ?_
  refine Dk 0 (Jb9 (C:=cStr) (s:=l) sl22 rfl rfl rfl rfl hk (by omega) (by omega)) ?_
  refine Dk 0 (Je1 (C:=cStr) (s:=l) (i:=i) rfl rfl rfl hk ⟨by omega,by omega⟩ rfl tk9) ?_
  refine Dk 0 (Jbf rfl rfl) ?_
  refine Dd (Qc (CS.cond rfl ?_ ?_))<;>intro hc2<;>try simp only [bq] at hc2
  ·
   refine Nz 1 ?_
   exact Wd (Qc (Cr (Qs (Qr (Qr (Qs (Qr (out1 rfl rfl (Jaa (by rw [Jcl hs1 hc1 (by omega) hc2]))))))))))
  refine Ck (Qb (Qc (Ny 1 ?_)))
  refine Wk 1 Za ?_
  refine Wd ?_
  exact QS.head (s+1) rfl rfl ⟨⟨by omega,by omega,fun j h0 h1=>by
     rcases (show j < s∨j=s by omega) with h | h
     ·
      exact hs3 j h0 h
     rw [h]; exact hc2⟩,by omega⟩
 refine Cv (Qe (Qe (Qx (Qc (Nz 1 ?_)))))
 exact Wd (Qc (Cr (out1 rfl rfl (Jaa (by rw [Jcu fun j a b=>hs3 j a (by omega)])))))
theorem Jhw (l:Sl Int) (w:World) (hk:SlT cInt w l) (hm:(l.l.length:Int)≤1000000) :
  Calls Tryz.prog 27 #[l.v] w (fun e w'=>∃ v:Value,v.oneCell'=true∧RetF w v (oints 3 v l.l) e w'):=by
 have hki:=hk.ints
 have hone:=hk.one
 refine enter Tryz.func27 rfl rfl (Nat.le_of_ble_eq_true rfl) ?_
 refine Nz 1 ?_
 refine Wd (Qc (Nz 0 ?_))
 refine WS.build0 sl32 zv3 (fun _=>rfl) ?_; intro v3
 refine Wz 1 ?_
 refine WS.append (j:=0) (xs:=[]) (news:=ints l.l) (m:=l.l.length) sl32 zv3 rfl (by decide) rfl rfl rfl (fun u hu=>(hk.st hu).ints) (by simp [ints,Value.oneCell']) (by omega) (by omega) (fun _=>rfl) (fun _=>rfl) ?_; intro v5; refine WS.oc (j:=0) rfl (fun hv5=>?_)
 refine Wz 1 ?_
 refine Wd (Qc (Cr ?_))
 exact out1 rfl rfl (fun u hu=>⟨v5,hv5,by
   have:=retF (v:=v5) (j:=0) rfl u hu
   rw [Nat.zero_add] at this
   exact this⟩)
theorem Jb4 (l:Sl Lit) (w:World) (hk:SlT cLit w l) (hm:(l.l.length:Int)≤1000000) :
  Calls Tryz.prog 26 #[l.v] w (fun e w'=>∃ v:Value,(∃ u0,SlT cLit u0 ⟨v,l.l⟩)∧RetF w v (roT cLit ⟨v,l.l⟩) e w'):=by
 have hls:=hk.sp
 have hone:=hk.one
 refine enter Tryz.func26 rfl rfl (Nat.le_of_ble_eq_true rfl) ?_
 refine Nz 1 ?_
 refine Wd (Qc (Nz 0 ?_))
 refine WS.build0 sl29 Jh9 (fun _=>rfl) ?_; intro v3
 refine Wz 1 ?_
 refine WS.append (j:=0) (xs:=[]) (news:=Jal cLit l.l) (m:=l.l.length) sl29 Jh9 rfl (by decide) rfl rfl rfl (fun u hu=>(hk.st hu).sp) hone (by omega) (by omega) (fun _=>rfl) (fun _=>rfl) ?_; intro v5
 refine Wz 1 ?_
 refine Wd (Qc (Cr ?_))
 refine QS.weak (L':=[roT cLit ⟨v5,l.l⟩]) (fun u hu=>St.toRo (A:=osl 101 3 v5 (0+l.l.length) ([]++Jal cLit l.l)) (p:=fun u=>SlT cLit u ⟨v5,l.l⟩) (fun S u h=>⟨by have:=Ja5 h.2; rw [Nat.zero_add] at this; exact this,fun _ _=>trivial⟩) hu) ?_
 exact out1 rfl rfl (fun u hu=>⟨_,⟨u,hu.ro (j:=0) rfl⟩,retF (j:=0) rfl u hu⟩)
theorem Jcq (r:Room) (w:World) (hr:RoomOk w r) (v:Value) (xs:List Int) (hx:SlI w v xs) :
  Calls Tryz.prog 138 #[.agg #[r.pls.v,r.ths.v,r.prs.v,r.wys.v,r.acs.v,r.aus.v,.int .i64 r.ply,r.gl.v],v] w (RetB w (.bool (ascB r.prs.l.length xs))):=by
 have kpl:=hr.pls
 have lpl:=hr.pls.le
 have kth:=hr.ths
 have lth:=hr.ths.le
 have kpr:=hr.prs
 have lpr:=hr.prs.le
 have kwy:=hr.wys
 have lwy:=hr.wys.le
 have kac:=hr.acs
 have lac:=hr.acs.le
 have kau:=hr.aus
 have lau:=hr.aus.le
 have kgl:=hr.gl
 have lgl:=hr.gl.le
 have lxs:=hx.le
 refine enter Tryz.func138 rfl rfl (Nat.le_of_ble_eq_true rfl) ?_
 refine Nz 0 ?_
 refine Wb 1 rfl rfl (fun _=>rfl) (fun _=>rfl) fun b2 hb2=>?_
 refine Wd (Qc (Cs (Nz 1 ?_)))
 refine Wd (Qc (Ce ?_))
 refine CS.loopM (σ:=Int) [4,6,7,8,9,10,11,12,13,14,15,16,17,18,19,20,21,22,23,24,25,26,27,28,29,30,31,32,33,34,35,36,37] (fun s=>[(5,.int .i64 s)]) (fun _=>_) (fun s=>0≤s∧s≤xs.length∧∀ j:Int,0≤j→j < s→((decide (0≤nth xs j) && decide (nth xs j≤(r.prs.l.length:Int) - 1)) && (decide (j=0) || decide (nth xs (j - 1) < nth xs j)))=true) (fun s=>(xs.length - s).toNat) 0 (fun _ _=>rfl) rfl rfl ⟨by omega,by omega,fun j _ _=>by omega⟩ ?_
 intro s t hs
 obtain ⟨hs1,hs2,hs3⟩:=hs
 refine Cs (Nz 2 ?_)
 refine Wk 1 Na ?_
 refine Wd (Qc (CS.cond rfl ?_ ?_))<;>intro hc1<;>try simp only [bq] at hc1
 ·
  refine Ck (Qc (Cs (Ce (Cs (Dr mixed 2 ?_)))))
  refine Dk 0 Xa ?_
  refine Dk 1 Ia ?_
  refine Dk 0 (Ba 0) ?_
  refine Dk 0 Nc ?_
  refine Dk 0 Zb ?_
  refine Dk 2 (Cb rfl rfl Je6 (fun u hu=>Jc5 _ _ _ u)) ?_
  refine Df 0 rfl rfl (fun hg=>Fm) ?_
  refine Df 0 rfl rfl (fun hg=>Fg) ?_
  refine Df 0 rfl rfl (fun hg=>Fm (eg_ hg rfl)) ?_
  refine Dn 0 rfl rfl rfl (fun hg=>Fm) ?_
  refine Dn 0 rfl rfl rfl (fun hg=>Fm) ?_
  refine Dn 0 rfl rfl rfl (fun hg=>Xa (eg_ hg rfl)) ?_
  refine Dn 0 rfl rfl rfl (fun hg=>Ia) ?_
  refine Dn 0 rfl rfl rfl (fun hg=>Fm) ?_
  refine Dn 0 rfl rfl rfl (fun hg=>Fm) ?_
  refine Dn 0 rfl rfl rfl (fun hg=>Zb) ?_
  refine Dn 0 rfl rfl rfl (fun hg=>Xa (eg_ hg rfl)) ?_
  refine Dn 0 rfl rfl rfl (fun hg=>Ia) ?_
  refine Dn 0 rfl rfl rfl (fun hg=>Fk) ?_
  refine Df 0 rfl rfl (fun hg=>Jb1 (eg_ hg rfl) (Je9 hg rfl) rfl) ?_
  refine Dk 0 Po ?_
  refine Dd (Qc (CS.cond rfl ?_ ?_))<;>intro hc2<;>try simp only [bq] at hc2
  ·
   refine Nz 1 ?_
   exact Wd (Qc (Cr (Qs (Qr (Qr (Qs (Qr (out1 rfl rfl (Jaa (by rw [show ascB r.prs.l.length xs=false from Jcv hs1 (by omega) (by simp only [Bool.and_eq_false_iff,Bool.or_eq_false_iff,decide_eq_false_iff_not]; omega)]))))))))))
  refine Ck (Qb (Qc (Ny 1 ?_)))
  refine Wk 1 Za ?_
  refine Wd ?_
  exact QS.head (s+1) rfl rfl ⟨⟨by omega,by omega,fun j h0 h1=>by
     rcases (show j < s∨j=s by omega) with h | h
     ·
      exact hs3 j h0 h
     rw [h]; simp only [Bool.and_eq_true,Bool.or_eq_true,decide_eq_true_eq]; omega⟩,by omega⟩
 refine Cv (Qe (Qe (Qx (Qc (Nz 1 ?_)))))
 exact Wd (Qc (Cr (out1 rfl rfl (Jaa (by rw [show ascB r.prs.l.length xs=true from Jcd fun j h0 h1=>hs3 j h0 (by omega)])))))
theorem Jqa (r:Room) (w:World) (hr:RoomOk w r) (i:Int) (h0:0≤i) (h1:i < r.acs.l.length) (hn:∀ x∈r.acs.l,x.nm.size≤100) :
  Calls Tryz.prog 103 #[.agg #[r.pls.v,r.ths.v,r.prs.v,r.wys.v,r.acs.v,r.aus.v,.int .i64 r.ply,r.gl.v],.int .i64 i] w (RetB w (.bool (actB r i))):=by
 have kpl:=hr.pls
 have lpl:=hr.pls.le
 have kth:=hr.ths
 have lth:=hr.ths.le
 have kpr:=hr.prs
 have lpr:=hr.prs.le
 have kwy:=hr.wys
 have lwy:=hr.wys.le
 have kac:=hr.acs
 have lac:=hr.acs.le
 have kau:=hr.aus
 have lau:=hr.aus.le
 have kgl:=hr.gl
 have lgl:=hr.gl.le
 have ha:ActOk w (nth r.acs.l i):=hr.acs.at h0 h1
 have hus:=ha.us.ints
 have hsp:=ha.sp.ints
 have hbr:=ha.br.ints
 have kse:=ha.se
 have lse:=kse.le
 have lus:=hus.le
 have lsp:=hsp.le
 have lbr:=hbr.le
 have hnm:=hn _ (Jad h0 h1)
 refine enter Tryz.func103 rfl rfl (Nat.le_of_ble_eq_true rfl) ?_
 refine Nz 0 ?_
 refine Wb 1 rfl rfl (fun _=>rfl) (fun _=>rfl) fun b2 hb2=>?_
 refine Wd (Qc (Nz 1 ?_))
 refine Wk 1 (Ba 0) ?_
 refine Wk 0 Xc ?_
 refine Wk 0 Ua ?_
 refine Wl 0 zv62 (fun _=>rfl) (fun _=>rfl) fun b5 hb5=>?_
 refine Wv 0 0 ?_
 refine Wd (Qc (Cs (Nz 1 ?_)))
 refine Wd (Qc (Ce ?_))
 refine CS.loopM (σ:=Int) [4,16,17,18,19,20,21,22,23,24,25,26,27,28,29] (fun s=>[(6,.int .i64 s)]) (fun _=>_) (fun s=>0≤s∧s≤i∧∀ j:Int,0≤j→j < s→seq (nth r.acs.l j).nm (nth r.acs.l i).nm=false) (fun s=>(i - s).toNat) 0 (fun _ _=>rfl) rfl rfl ⟨by omega,by omega,fun j _ _=>by omega⟩ ?_
 intro a t hs
 obtain ⟨ha1,ha2,ha3⟩:=hs
 refine Cs (Nz 3 ?_)
 refine Wd (Qc (CS.cond rfl ?_ ?_))<;>intro hc1<;>try simp only [bq] at hc1
 ·
  refine Ck (Qc (Cs (Ce (Cs (Dr mixed 1 ?_)))))
  refine Dk 1 (Ba 1) ?_
  refine Dk 1 Xc ?_
  refine Dk 1 (Uc 8 0) ?_
  refine Dk 0 (Ba 0) ?_
  refine Dk 0 (Jbf rfl rfl) ?_
  refine Dd (Qc (CS.cond rfl ?_ ?_))<;>intro hc2<;>try simp only [bq] at hc2
  ·
   refine Nz 1 ?_
   exact Wd (Qc (Cr (Qs (Qr (Qr (Qs (Qr (out1 rfl rfl (Jaa (by rw [show actB r i=false by unfold actB newB; rw [Jcl ha1 hc1 (by omega) hc2]; rfl]))))))))))
  refine Ck (Qb (Qc (Ny 1 ?_)))
  refine Wk 1 Za ?_
  refine Wd ?_
  exact QS.head (a+1) rfl rfl ⟨⟨by omega,by omega,fun j h0 h1=>by
     rcases (show j < a∨j=a by omega) with h | h
     ·
      exact ha3 j h0 h
     rw [h]; exact hc2⟩,by omega⟩
 refine Cv (Qe (Qe (Qx (Qc (Cs (Nz 1 ?_))))))
 refine Wk 0 (Ba 0) ?_
 refine Wk 2 (Cb rfl rfl Jg9 (fun u hu=>Je2 _ u (by omega))) ?_
 refine Wf 0 rfl rfl (fun hg=>Bb 1) ?_
 refine Wf 0 rfl rfl (fun hg=>Ff) ?_
 refine Wf 0 rfl rfl (fun hg=>Ba 0) ?_
 refine Wf 0 rfl rfl (fun hg=>Cb rfl (ec_ (eg_ hg rfl) (ec_ (eg_ hg rfl) en_)) Jf0 (fun u hu=>Jcr r u (hr.st hu) _)) ?_
 refine Wf 0 rfl rfl (fun hg=>Fn) ?_
 refine Wk 1 Po ?_
 refine Wf 0 rfl rfl (fun hg=>Ff) ?_
 refine Wf 0 rfl rfl (fun hg=>Ba 0) ?_
 refine Wf 0 rfl rfl (fun hg=>Cb rfl (ec_ (eg_ hg rfl) (ec_ rfl (ec_ rfl en_))) Je6 (fun u hu=>Jc5 _ _ _ u)) ?_
 refine Wf 0 rfl rfl (fun hg=>Fn) ?_
 refine Wk 1 Po ?_
 refine Wf 0 rfl rfl (fun hg=>Bb 1) ?_
 refine Wf 0 rfl rfl (fun hg=>Ff) ?_
 refine Wf 0 rfl rfl (fun hg=>Ba 0) ?_
 refine Wf 0 rfl rfl (fun hg=>Cb rfl (ec_ (eg_ hg rfl) (ec_ (eg_ hg rfl) en_)) Jju (fun u hu=>Jcq r u (hr.st hu) _ _ (hus.st hu))) ?_
 refine Wf 0 rfl rfl (fun hg=>Fn) ?_
 refine Wk 1 Po ?_
 refine Wf 0 rfl rfl (fun hg=>Bb 1) ?_
 refine Wf 0 rfl rfl (fun hg=>Ff) ?_
 refine Wf 0 rfl rfl (fun hg=>Ba 0) ?_
 refine Wf 0 rfl rfl (fun hg=>Cb rfl (ec_ (eg_ hg rfl) (ec_ (eg_ hg rfl) en_)) Jju (fun u hu=>Jcq r u (hr.st hu) _ _ (hsp.st hu))) ?_
 refine Wf 0 rfl rfl (fun hg=>Fn) ?_
 refine Wk 1 Po ?_
 refine Wf 0 rfl rfl (fun hg=>Bb 1) ?_
 refine Wf 0 rfl rfl (fun hg=>Ff) ?_
 refine Wf 0 rfl rfl (fun hg=>Ba 0) ?_
 refine Wf 0 rfl rfl (fun hg=>Cb rfl (ec_ (eg_ hg rfl) (ec_ (eg_ hg rfl) en_)) Jju (fun u hu=>Jcq r u (hr.st hu) _ _ (hbr.st hu))) ?_
 refine Wf 0 rfl rfl (fun hg=>Fn) ?_
 refine Wk 1 Po ?_
 refine Wf 0 rfl rfl (fun hg=>Ff) ?_
 refine Wf 0 rfl rfl (fun hg=>Ba 0) ?_
 refine Wf 0 rfl rfl (fun hg=>Nc (eg_ hg rfl)) ?_
 refine Wf 0 rfl rfl (fun hg=>Fg) ?_
 refine Wk 0 Po ?_
 refine Wd (Qc (CS.cond rfl ?_ ?_))<;>intro hc3<;>try simp only [bq] at hc3
 ·
  refine Nz 1 ?_
  exact Wd (Qc (Cr (Qr (out1 rfl rfl (Jaa (by unfold actB; rw [show act2 r (nth r.acs.l i)=false by (unfold act2 placeB; grind)]; simp))))))
 refine Ck (Qc (Cs (Nz 1 ?_)))
 refine Wd (Qc (Ce ?_))
 refine CS.loopM (σ:=Int) [4,74,75,76,77,78,79,80,81,82,83,84,85,86,87,88,89] (fun s=>[(7,.int .i64 s)]) (fun _=>_) (fun s=>0≤s∧s≤(nth r.acs.l i).sp.l.length∧∀ j:Int,0≤j→j < s→nth (nth r.acs.l i).sp.l j∈(nth r.acs.l i).us.l) (fun s=>((nth r.acs.l i).sp.l.length - s).toNat) 0 (fun _ _=>rfl) rfl rfl ⟨by omega,by omega,fun j _ _=>by omega⟩ ?_
 intro b t hs
 obtain ⟨hb1,hb2,hb3⟩:=hs
 refine Cs (Nz 2 ?_)
 refine Wk 0 (Ba 0) ?_
 refine Wk 1 Na ?_
 refine Wd (Qc (CS.cond rfl ?_ ?_))<;>intro hc4<;>try simp only [bq] at hc4
 ·
  refine Ck (Qc (Cs (Ce (Cs (Dr mixed 1 ?_)))))
  refine Dk 1 (Ba 0) ?_
  refine Dk 1 (Ba 0) ?_
  refine Dk 0 Xa ?_
  refine Dk 0 Ia ?_
  refine Dk 1 (Cb rfl rfl Jmc (fun u hu=>in_c _ _ _ u (hus.st hu))) ?_
  refine Dd (Qc (CS.cond rfl ?_ ?_))<;>intro hc5<;>try simp only [bq] at hc5
  ·
   refine Nz 1 ?_
   exact Wd (Qc (Cr (Qs (Qr (Qr (Qs (Qr (out1 rfl rfl (Jaa (by unfold actB; rw [show act3 (nth r.acs.l i)=false from Jcv hb1 (by omega) (by simpa using hc5)]; simp))))))))))
  refine Ck (Qb (Qc (Ny 1 ?_)))
  refine Wk 1 Za ?_
  refine Wd ?_
  exact QS.head (b+1) rfl rfl ⟨⟨by omega,by omega,fun j h0 h1=>by
     rcases (show j < b∨j=b by omega) with h | h
     ·
      exact hb3 j h0 h
     rw [h]; exact hc5⟩,by omega⟩
 refine Cv (Qe (Qe (Qx (Qc (Cs (Nz 1 ?_))))))
 refine Wd (Qc (Ce ?_))
 refine CS.loopM (σ:=Int) [4,90,91,92,93,94,95,96,97,98,99,100,101,102,103,104] (fun s=>[(8,.int .i64 s)]) (fun _=>_) (fun s=>0≤s∧s≤(nth r.acs.l i).br.l.length∧∀ j:Int,0≤j→j < s→nth (nth r.acs.l i).br.l j ∉ (nth r.acs.l i).us.l) (fun s=>((nth r.acs.l i).br.l.length - s).toNat) 0 (fun _ _=>rfl) rfl rfl ⟨by omega,by omega,fun j _ _=>by omega⟩ ?_
 intro c t hs
 obtain ⟨hc1,hc2,hc3⟩:=hs
 refine Cs (Nz 2 ?_)
 refine Wk 0 (Ba 0) ?_
 refine Wk 1 Na ?_
 refine Wd (Qc (CS.cond rfl ?_ ?_))<;>intro hc6<;>try simp only [bq] at hc6
 ·
  refine Ck (Qc (Cs (Ce (Cs (Dr mixed 1 ?_)))))
  refine Dk 1 (Ba 0) ?_
  refine Dk 1 (Ba 0) ?_
  refine Dk 0 Xa ?_
  refine Dk 0 Ia ?_
  refine Dk 0 (Cb rfl rfl Jmc (fun u hu=>in_c _ _ _ u (hus.st hu))) ?_
  refine Dd (Qc (CS.cond rfl ?_ ?_))<;>intro hc7<;>try simp only [bq] at hc7
  ·
   refine Nz 1 ?_
   exact Wd (Qc (Cr (Qs (Qr (Qr (Qs (Qr (out1 rfl rfl (Jaa (by unfold actB; rw [show act4 (nth r.acs.l i)=false from Jcv hc1 (by omega) (by simpa using hc7)]; simp))))))))))
  refine Ck (Qb (Qc (Ny 1 ?_)))
  refine Wk 1 Za ?_
  refine Wd ?_
  exact QS.head (c+1) rfl rfl ⟨⟨by omega,by omega,fun j h0 h1=>by
     rcases (show j < c∨j=c by omega) with h | h
     ·
      exact hc3 j h0 h
     rw [h]; exact hc7⟩,by omega⟩
 refine Cv (Qe (Qe (Qx (Qc (Cs (Nz 1 ?_))))))
 refine Wd (Qc (Ce ?_))
 refine CS.loopM (σ:=Int) [4,10,105,106,107,108,109,110,111,112,113,114,115,116,117,118,119,120,121,122,123,124,125,126,127,128,129,130,131,132,133,134,135,136,137,138,139,140,141,142,143,144] (fun s=>[(9,.int .i64 s)]) (fun _=>_) (fun s=>0≤s∧s≤(nth r.acs.l i).se.l.length∧∀ j:Int,0≤j→j < s→(putB r.ths.l (nth (nth r.acs.l i).se.l j).t (nth (nth r.acs.l i).se.l j).s && !(((nth r.acs.l i).se.l.take j.toNat).any fun x=>decide (x.t=(nth (nth r.acs.l i).se.l j).t)))=true) (fun s=>((nth r.acs.l i).se.l.length - s).toNat) 0 (fun _ _=>rfl) rfl rfl ⟨by omega,by omega,fun j _ _=>by omega⟩ ?_
 intro p t hs
 obtain ⟨hp1,hp2,hp3⟩:=hs
 refine Cs (Nz 2 ?_)
 refine Wk 0 (Ba 0) ?_
 refine Wk 1 Nc ?_
 refine Wd (Qc (CS.cond rfl ?_ ?_))<;>intro hc8<;>try simp only [bq] at hc8
 ·
  refine Ck (Qc (Cs (Ce (Cs (Cs (Dr mixed 0 ?_))))))
  refine Dk 1 (Bb 1) ?_
  refine Dk 1 (Ba 0) ?_
  refine Dk 1 Xc ?_
  refine Dk 1 (Uc 2 0) ?_
  refine Dk 1 (Ba 0) ?_
  refine Dk 1 Xc ?_
  refine Dk 0 (Uc 2 1) ?_
  refine Dk 1 (Cb rfl rfl Jlc (fun u hu=>Jlj r u (hr.st hu) _ _)) ?_
  refine Dd (Qc (CS.cond rfl ?_ ?_))<;>intro hc9<;>try simp only [bq] at hc9
  ·
   refine Nz 1 ?_
   exact Wd (Qc (Cr (Qr (Qs (Qr (Qr (Qs (Qr (out1 rfl rfl (Jaa (by unfold actB; rw [show act5 r (nth r.acs.l i)=false from Jcv hp1 (by omega) (by rw [hc9]; rfl)]; simp)))))))))))
  refine Ck (Qc (Nz 1 ?_))
  refine Wd (Qc (Ce ?_))
  refine CS.loopM (σ:=Int) [4,127,128,129,130,131,132,133,134,135,136,137,138,139,140,141,142,143,144] (fun s=>[(10,.int .i64 s)]) (fun _=>_) (fun s=>0≤s∧s≤p∧∀ j:Int,0≤j→j < s→¬ (nth (nth r.acs.l i).se.l j).t=(nth (nth r.acs.l i).se.l p).t) (fun s=>(p - s).toNat) 0 (fun _ _=>rfl) rfl rfl ⟨by omega,by omega,fun j _ _=>by omega⟩ ?_
  intro q t hs
  obtain ⟨hq1,hq2,hq3⟩:=hs
  refine Cs (Nz 3 ?_)
  refine Wd (Qc (CS.cond rfl ?_ ?_))<;>intro hc10<;>try simp only [bq] at hc10
  ·
   refine Ck (Qc (Cs (Ce (Cs (Dr mixed 1 ?_)))))
   refine Dk 1 (Ba 0) ?_
   refine Dk 1 Xc ?_
   refine Dk 1 (Uc 2 0) ?_
   refine Dk 1 (Ba 0) ?_
   refine Dk 1 Xc ?_
   refine Dk 1 (Uc 2 0) ?_
   refine Dd (Qc (CS.cond rfl ?_ ?_))<;>intro hc11<;>try simp only [bq] at hc11
   ·
    refine Nz 1 ?_
    exact Wd (Qc (Cr (Qs (Qr (Qr (Qs (Qs (Qr (Qr (Qs (Qr (out1 rfl rfl (Jaa (by unfold actB; rw [show act5 r (nth r.acs.l i)=false from Jcv hp1 (by omega) (by rw [Jcl (p:=fun x:Put=>decide (x.t=(nth (nth r.acs.l i).se.l p).t)) hq1 hc10 (by omega) (decide_eq_true hc11)]; simp)]; simp))))))))))))))
   refine Ck (Qb (Qc (Ny 1 ?_)))
   refine Wk 1 Za ?_
   refine Wd ?_
   exact QS.head (q+1) rfl rfl ⟨⟨by omega,by omega,fun j h0 h1=>by
      rcases (show j < q∨j=q by omega) with h | h
      ·
       exact hq3 j h0 h
      rw [h]; exact hc11⟩,by omega⟩
  refine Cv (Qe (Qe (Qx (Qb (Qc (Ny 1 ?_))))))
  refine Wk 1 Za ?_
  refine Wd ?_
  exact QS.head (p+1) rfl rfl ⟨⟨by omega,by omega,fun j h0 h1=>by
     rcases (show j < p∨j=p by omega) with h | h
     ·
      exact hp3 j h0 h
     rw [h]; rw [hc9,Jcu (p:=fun x:Put=>decide (x.t=(nth (nth r.acs.l i).se.l p).t)) fun j a b=>decide_eq_false (hq3 j a (by omega))]; rfl⟩,by omega⟩
 refine Cv (Qe (Qe (Qx (Qc (Nz 1 ?_)))))
 refine Wd (Qc (Cr ?_))
 have q1:newB Actn.nm r.acs.l i=true:=by unfold newB; rw [Jcu fun j a b=>ha3 j a (by omega)]; rfl
 have q2:act2 r (nth r.acs.l i)=true:=by (unfold act2 placeB; grind)
 have q3:act3 (nth r.acs.l i)=true:=Jcd fun j a b=>decide_eq_true (hb3 j a (by omega))
 have q4:act4 (nth r.acs.l i)=true:=Jcd fun j a b=>by rw [decide_eq_false (hc3 j a (by omega))]; rfl
 have q5:act5 r (nth r.acs.l i)=true:=Jcd fun j a b=>hp3 j a (by omega)
 exact out1 rfl rfl (Jaa (by unfold actB; rw [q1,q2,q3,q4,q5]; rfl))
theorem Jgr {n0:Nat} {w0 u:World} {L:List SA} {j:Nat} {e:TypeId} {v:Value} {xs:List ByteArray} {a:ByteArray} (hj:L[j]? = some (osl e 1 v (Jal cStr xs++[Value.string a]).length (Jal cStr xs++[Value.string a]))) (hu:St n0 w0 L u):SlT cStr u ⟨v,xs++[a]⟩:=by
 have h:=Jbm hu hj
 refine ⟨?_,fun _ _=>trivial⟩
 have h2:Jal cStr xs++[Value.string a]=Jal cStr (xs++[a]):=by rw [Jc3,Jfj]; rfl
 have h3:(Jal cStr xs++[Value.string a]).length=(xs++[a]).length:=by rw [h2,Jbi]; exact Nat.mul_one _
 rw [h3,h2] at h
 exact h
theorem Jfd {α:Type} [Inhabited α] (f:α→ByteArray) {l:List α} {s:Int} (h0:0≤s) (h1:s < l.length):Jal cStr ((l.take s.toNat).map f)++[Value.string (f (nth l s))]=Jal cStr ((l.take (s+1).toNat).map f):=by
 have h2:s.toNat < l.length:=by omega
 rw [show (s+1).toNat=s.toNat+1 by omega,List.take_succ_eq_append_getElem h2,List.map_append,Jc3]
 congr 1
 simp [Jal,cStr,nth,List.getD,h2]
theorem Jgu {α:Type} (f:α→ByteArray) {l:List α} {s:Int} (h0:0≤s) (h1:s≤l.length):(Jal cStr ((l.take s.toNat).map f)).length=s.toNat:=by
 rw [Jbi,List.length_map,List.length_take]
 show min s.toNat l.length * 1=s.toNat
 omega
theorem Jjp {α:Type} [Inhabited α] (f:α→ByteArray) {l:List α} {i:Int} (h0:0≤i) (h1:i < l.length) :
  ((((l.take i.toNat).map f++[f (nth l i)]).take i.toNat).any fun x=>seq x (nth ((l.take i.toNat).map f++[f (nth l i)]) i)) = !newB f l i:=by
 have h2:((l.take i.toNat).map f).length=i.toNat:=by simp; omega
 rw [Jkb h2,List.take_append_of_le_length (by omega),List.take_of_length_le (by omega),List.any_map]
 unfold newB
 rw [Bool.not_not]
 rfl
theorem Jhr {α:Type} [Inhabited α] (f:α→ByteArray) (l:List α) (i:Int) (v:Value) (w:World) (hk:SlT cStr w ⟨v,(l.take i.toNat).map f++[f (nth l i)]⟩) (h0:0≤i) (h1:i < l.length) :
  Calls Tryz.prog 101 #[v,.int .i64 i] w (RetB w (.bool (!newB f l i))):=by
 have:=Jjo ⟨v,(l.take i.toNat).map f++[f (nth l i)]⟩ i w hk h0 (by simp; omega)
 rwa [Jjp f h0 h1] at this
theorem Jlk (l:Sl ByteArray) (i:Int) (w:World) (hk:SlT cStr w l) (h0:0≤i) (h1:i < l.l.length) :
  Calls Tryz.prog 101 #[l.v,.int .i64 i] w (RetB w (.bool (!newB id l.l i))):=by
 have:=Jjo l i w hk h0 h1
 unfold newB
 rwa [Bool.not_not]
theorem Jln (r:Room) (w:World) (hr:RoomOk w r) (hn:Near r) :
  Calls Tryz.prog 57 #[.agg #[r.pls.v,r.ths.v,r.prs.v,r.wys.v,r.acs.v,r.aus.v,.int .i64 r.ply,r.gl.v]] w (RetB w (.int .i64 (checkE r))):=by
 have kpl:=hr.pls
 have lpl:=hr.pls.le
 have kth:=hr.ths
 have lth:=hr.ths.le
 have kpr:=hr.prs
 have lpr:=hr.prs.le
 have kwy:=hr.wys
 have lwy:=hr.wys.le
 have kac:=hr.acs
 have lac:=hr.acs.le
 have kau:=hr.aus
 have lau:=hr.aus.le
 have kgl:=hr.gl
 have lgl:=hr.gl.le
 refine enter Tryz.func57 rfl rfl (Nat.le_of_ble_eq_true rfl) ?_
 refine Nz 0 ?_
 refine Wb 1 rfl rfl (fun _=>rfl) (fun _=>rfl) fun b1 hb1=>?_
 refine Wd (Qc (Cs (Nz 1 ?_)))
 refine Wk 0 (Ba 0) ?_
 refine Wk 2 Nc ?_
 refine Wf 0 rfl rfl (fun hg=>Ff) ?_
 refine Wf 0 rfl rfl (fun hg=>Ba 0) ?_
 refine Wf 0 rfl rfl (fun hg=>Nc (eg_ hg rfl)) ?_
 refine Wf 0 rfl rfl (fun hg=>Fg) ?_
 refine Wk 1 Po ?_
 refine Wf 0 rfl rfl (fun hg=>Ff) ?_
 refine Wf 0 rfl rfl (fun hg=>Ba 0) ?_
 refine Wf 0 rfl rfl (fun hg=>Nc (eg_ hg rfl)) ?_
 refine Wf 0 rfl rfl (fun hg=>Fg) ?_
 refine Wk 1 Po ?_
 refine Wf 0 rfl rfl (fun hg=>Ff) ?_
 refine Wf 0 rfl rfl (fun hg=>Ba 0) ?_
 refine Wf 0 rfl rfl (fun hg=>Nc (eg_ hg rfl)) ?_
 refine Wf 0 rfl rfl (fun hg=>Fg) ?_
 refine Wk 1 Po ?_
 refine Wf 0 rfl rfl (fun hg=>Ff) ?_
 refine Wf 0 rfl rfl (fun hg=>Ba 0) ?_
 refine Wf 0 rfl rfl (fun hg=>Nc (eg_ hg rfl)) ?_
 refine Wf 0 rfl rfl (fun hg=>Fg) ?_
 refine Wk 1 Po ?_
 refine Wf 0 rfl rfl (fun hg=>Ff) ?_
 refine Wf 0 rfl rfl (fun hg=>Ba 0) ?_
 refine Wf 0 rfl rfl (fun hg=>Nc (eg_ hg rfl)) ?_
 refine Wf 0 rfl rfl (fun hg=>Fg) ?_
 refine Wk 0 Po ?_
 refine Wd (Qc (CS.cond rfl ?_ ?_))<;>intro hc1<;>try simp only [bq] at hc1
 ·
  refine Nz 1 ?_
  exact Wd (Qc (Cr (Qr (out1 rfl rfl (Jaa (by rw [show checkE r=2 from if_pos (by (unfold manyB; grind))]))))))
 have e0:manyB r=false:=by (unfold manyB; grind)
 refine Ck (Qc (Cs (Nz 1 ?_)))
 refine Wk 0 (Ba 0) ?_
 refine Wk 1 Nc ?_
 refine Wd (Qc (CS.cond rfl ?_ ?_))<;>intro hc2<;>try simp only [bq] at hc2
 ·
  refine Nz 1 ?_
  exact Wd (Qc (Cr (Qr (out1 rfl rfl (Jaa (by unfold checkE; rw [if_neg (by rw [e0]; decide),if_pos (by omega)]))))))
 have e1:checkE r=Jde r:=by unfold checkE; rw [if_neg (by rw [e0]; decide),if_neg (by omega)]
 refine Ck (Qc (Cs (Nz 1 ?_)))
 refine Wd (Qc (Ce ?_))
 refine CS.loopM (σ:=Int) [2,51,52,53,54,55,56,57,58,59,60,61,62,63,64,65,66,67,68,69,70] (fun s=>[(3,.int .i64 s)]) (fun _=>_) (fun s=>0≤s∧s≤r.pls.l.length∧∀ j:Int,0≤j→j < s→plO r j=0) (fun s=>(r.pls.l.length - s).toNat) 0 (fun _ _=>rfl) rfl rfl ⟨by omega,by omega,fun j _ _=>by omega⟩ ?_
 intro a t hs
 obtain ⟨ha1,ha2,ha3⟩:=hs
 refine Cs (Nz 2 ?_)
 refine Wk 0 (Ba 0) ?_
 refine Wk 1 Nc ?_
 refine Wd (Qc (CS.cond rfl ?_ ?_))<;>intro hc3<;>try simp only [bq] at hc3
 ·
  have hnm:=hn.pl _ (Jad ha1 (by omega))
  refine Ck (Qc (Cs (Ce (Nz 1 ?_))))
  refine Wk 1 (Ba 0) ?_
  refine Wk 0 Xc ?_
  refine Wk 0 Ub ?_
  refine Wk 2 (Cb rfl rfl Jg9 (fun u hu=>Je2 _ u (by omega))) ?_
  refine Wf 0 rfl rfl (fun hg=>Ff) ?_
  refine Wf 0 rfl rfl (fun hg=>Ba 0) ?_
  refine Wf 0 rfl rfl (fun hg=>Fm) ?_
  refine Wf 0 rfl rfl (fun hg=>Cb rfl (ec_ (eg_ hg rfl) (ec_ (eg_ hg rfl) en_)) Jjm (fun u hu=>Jlk r.pls _ u (hr.pls.st hu) ha1 (by omega))) ?_
  refine Wk 0 Po ?_
  refine Wd (Qc (CS.cond rfl ?_ ?_))<;>intro hc4<;>try simp only [bq] at hc4
  ·
   refine Nz 1 ?_
   refine Wd (Qc (Cr (Qs (Qr (Qr (Qs (Qr ?_)))))))
   exact out1 rfl rfl (Jaa (by
      have hE:plO r a=22:=by (unfold plO ; grind)
      rw [e1,show Jde r=22 from Jbk ((Jaf ha1 (by omega) ha3 (by rw [hE]; decide)).trans hE) (by decide)]))
  refine Ck (Qb (Qc (Ny 1 ?_)))
  refine Wk 1 Za ?_
  refine Wd ?_
  exact QS.head (a+1) rfl rfl ⟨⟨by omega,by omega,fun j h0 h1=>by
     rcases (show j < a∨j=a by omega) with h | h
     ·
      exact ha3 j h0 h
     rw [h]; exact (show plO r a=0 by (unfold plO ; grind))⟩,by omega⟩
 have e2:checkE r=Jek r:=e1.trans (Jb3 (Jag fun j a b=>ha3 j a (by omega)))
 refine Cv (Qe (Qe (Qx (Qc (Nz 1 ?_)))))
 refine Wd (Qc (Cs (Nz 1 ?_)))
 refine Wd (Qc (Ce ?_))
 refine CS.weak (fun _ hu=>hu.osl0 (e:=9) (size:=1)) ?_
 refine CS.loopM (σ:=Int × Value) [2,6,71,72,73,74,75,76,77,78,79,80,81,82,83,84,85,86,87,88,89,90,91,92,93,94,95,96,97,98,99,100,101,102,103,104,105,106,107,108,109,110,111,112,113,114,115,116,117,118] (fun s=>[(5,.int .i64 s.1),(4,s.2)]) (fun s=>[osl 9 1 s.2 (Jal cStr ((r.ths.l.take (s.1).toNat).map Thing.nm)).length (Jal cStr ((r.ths.l.take (s.1).toNat).map Thing.nm)),blk b1 [r.pls.v,r.ths.v,r.prs.v,r.wys.v,r.acs.v,r.aus.v,.int .i64 r.ply,r.gl.v] 31]) (fun s=>0≤s.1∧s.1≤r.ths.l.length∧∀ j:Int,0≤j→j < s.1→thO r j=0) (fun s=>(r.ths.l.length - s.1).toNat) (0,.slice none 0 0) (fun _ _=>rfl) rfl rfl ⟨by simp,by simp,fun j h0 h1=>by simp at h1; omega⟩ ?_
 intro b t hs
 obtain ⟨hb1,hb2,hb3⟩:=hs
 have hln:=Jgu Thing.nm (l:=r.ths.l) hb1 hb2
 refine Cs (Nz 2 ?_)
 refine Wk 0 (Ba 1) ?_
 refine Wk 1 Nc ?_
 refine Wd (Qc (CS.cond rfl ?_ ?_))<;>intro hc5<;>try simp only [bq] at hc5
 ·
  have hnm:=hn.th _ (Jad hb1 (by omega))
  refine Ck (Qc (Cs (Ce (Nz 1 ?_))))
  refine Wk 1 (Ba 1) ?_
  refine Wk 0 Xc ?_
  refine Wk 0 Ua ?_
  refine Wl 0 zv55 (fun _=>rfl) (fun _=>rfl) fun b6 hb6=>?_
  refine Wv 0 0 ?_
  refine Wd (Qc (Nz 2 ?_))
  refine Wk 0 (Ba 0) ?_
  refine WS.buildV1 sl22 zv9 rfl (by first | rfl | assumption) (fun _=>rfl) ?_; intro v86
  refine WS.append1 (j:=2) (jz:=0) sl22 zv9 rfl rfl rfl rfl (by first | rfl | assumption) (by first | omega | (simp; omega) | (simp only [List.length_append,List.length_singleton,List.length_map,List.length_cons,List.length_nil] at *; omega)) (by first | omega | (simp; omega) | (simp only [List.length_append,List.length_singleton,List.length_map,List.length_cons,List.length_nil] at *; omega)) (fun _=>rfl) (fun _=>rfl) ?_; intro v87; refine WS.oc (j:=2) rfl (fun hv87=>?_)
  refine Wz 1 ?_
  refine Wd (Qc (Nz 1 ?_))
  refine Wk 0 (Ba 1) ?_
  refine Wk 2 (Cb rfl rfl Jg9 (fun u hu=>Je2 _ u (by omega))) ?_
  refine Wf 0 rfl rfl (fun hg=>Fm) ?_
  refine Wf 0 rfl rfl (fun hg=>Fm) ?_
  refine Wf 0 rfl rfl (fun hg=>Cb rfl (ec_ (eg_ hg rfl) (ec_ (eg_ hg rfl) en_)) Jjm (fun u hu=>Jhr Thing.nm r.ths.l b.1 _ u (Jgr (j:=2) rfl hu) hb1 (by omega))) ?_
  refine Wk 1 Po ?_
  refine Wf 0 rfl rfl (fun hg=>Bb 3) ?_
  refine Wf 0 rfl rfl (fun hg=>Ff) ?_
  refine Wf 0 rfl rfl (fun hg=>Ba 1) ?_
  refine Wf 0 rfl rfl (fun hg=>Cb rfl (ec_ (eg_ hg rfl) (ec_ (eg_ hg rfl) en_)) Jf0 (fun u hu=>Jcr r u (hr.st hu) _)) ?_
  refine Wf 0 rfl rfl (fun hg=>Fn) ?_
  refine Wk 1 Po ?_
  refine Wf 0 rfl rfl (fun hg=>Ff) ?_
  refine Wf 0 rfl rfl (fun hg=>Ba 1) ?_
  refine Wf 0 rfl rfl (fun hg=>Cb rfl (ec_ (eg_ hg rfl) (ec_ rfl (ec_ rfl en_))) Je6 (fun u hu=>Jc5 _ _ _ u)) ?_
  refine Wf 0 rfl rfl (fun hg=>Fn) ?_
  refine Wk 1 Po ?_
  refine Wf 0 rfl rfl (fun hg=>Ff) ?_
  refine Wf 0 rfl rfl (fun hg=>Ba 1) ?_
  refine Wf 0 rfl rfl (fun hg=>Ff) ?_
  refine Wf 0 rfl rfl (fun hg=>Ba 1) ?_
  refine Wf 0 rfl rfl (fun hg=>Zb) ?_
  refine Wf 0 rfl rfl (fun hg=>Cb rfl (ec_ (eg_ hg rfl) (ec_ rfl (ec_ (eg_ hg rfl) en_))) Je6 (fun u hu=>Jc5 _ _ _ u)) ?_
  refine Wf 0 rfl rfl (fun hg=>Fn) ?_
  refine Wk 0 Po ?_
  refine Wd (Qc (CS.cond rfl ?_ ?_))<;>intro hc6<;>try simp only [bq] at hc6
  ·
   refine Nz 1 ?_
   refine Wd (Qc (Cr (Qs (Qr (Qr (Qs (Qr ?_)))))))
   exact out1 rfl rfl (Jaa (by
      have hE:thO r b.1=21:=by (unfold thO thB placeB; grind)
      rw [e2,show Jek r=21 from Jbk ((Jaf hb1 (by omega) hb3 (by rw [hE]; decide)).trans hE) (by decide)]))
  refine Ck (Qb (Qc (Ny 1 ?_)))
  refine Wk 1 Za ?_
  refine Wd ?_
  refine QS.sel [2,2] rfl ?_
  exact QS.head ((b.1+1,v87)) rfl (by simp only [Jfd Thing.nm (l:=r.ths.l) hb1 (by omega)]) ⟨⟨by simp; omega,by simp; omega,fun j h0 h1=>by
     simp only at h1
     rcases (show j < b.1∨j=b.1 by omega) with h | h
     ·
      exact hb3 j h0 h
     rw [h]; exact (show thO r b.1=0 by (unfold thO thB placeB; grind))⟩,by simp; omega⟩
 have e3:checkE r=Jdb r:=e2.trans (Jb3 (Jag fun j a b=>hb3 j a (by omega)))
 refine Cv (Qe (Qe (Qx (Qc (Nz 1 ?_)))))
 refine Wd (Qc (Cs (Nz 1 ?_)))
 refine Wd (Qc (Ce ?_))
 refine CS.weak (fun _ hu=>hu.osl0 (e:=9) (size:=1)) ?_
 refine CS.sel [0,1] rfl ?_
 refine CS.loopM (σ:=Int × Value) [2,8,119,120,121,122,123,124,125,126,127,128,129,130,131,132,133,134,135,136,137,138,139,140,141,142,143,144,145,146,147,148,149,150,151,152,153,154,155,156,157,158,159,160,161] (fun s=>[(7,.int .i64 s.1),(4,s.2)]) (fun s=>[osl 9 1 s.2 (Jal cStr ((r.prs.l.take (s.1).toNat).map Pro.nm)).length (Jal cStr ((r.prs.l.take (s.1).toNat).map Pro.nm)),blk b1 [r.pls.v,r.ths.v,r.prs.v,r.wys.v,r.acs.v,r.aus.v,.int .i64 r.ply,r.gl.v] 31]) (fun s=>0≤s.1∧s.1≤r.prs.l.length∧∀ j:Int,0≤j→j < s.1→prO r j=0) (fun s=>(r.prs.l.length - s.1).toNat) (0,.slice none 0 0) (fun _ _=>rfl) rfl rfl ⟨by simp,by simp,fun j h0 h1=>by simp at h1; omega⟩ ?_
 intro d t hs
 obtain ⟨hd1,hd2,hd3⟩:=hs
 have hln:=Jgu Pro.nm (l:=r.prs.l) hd1 hd2
 refine Cs (Nz 2 ?_)
 refine Wk 0 (Ba 1) ?_
 refine Wk 1 Nc ?_
 refine Wd (Qc (CS.cond rfl ?_ ?_))<;>intro hc7<;>try simp only [bq] at hc7
 ·
  have hnm:=hn.pr _ (Jad hd1 (by omega))
  have hwh:SlT cLit w (nth r.prs.l d.1).wh:=hr.prs.at hd1 (by omega)
  refine Ck (Qc (Cs (Ce (Nz 1 ?_))))
  refine Wk 1 (Ba 1) ?_
  refine Wk 0 Xc ?_
  refine Wk 0 Ua ?_
  refine Wl 0 zv57 (fun _=>rfl) (fun _=>rfl) fun b8 hb8=>?_
  refine Wv 0 0 ?_
  refine Wd (Qc (Nz 2 ?_))
  refine Wk 0 (Ba 0) ?_
  refine WS.buildV1 sl22 zv9 rfl (by first | rfl | assumption) (fun _=>rfl) ?_; intro v134
  refine WS.append1 (j:=2) (jz:=0) sl22 zv9 rfl rfl rfl rfl (by first | rfl | assumption) (by first | omega | (simp; omega) | (simp only [List.length_append,List.length_singleton,List.length_map,List.length_cons,List.length_nil] at *; omega)) (by first | omega | (simp; omega) | (simp only [List.length_append,List.length_singleton,List.length_map,List.length_cons,List.length_nil] at *; omega)) (fun _=>rfl) (fun _=>rfl) ?_; intro v135; refine WS.oc (j:=2) rfl (fun hv135=>?_)
  refine Wz 1 ?_
  refine Wd (Qc (Cs (Nz 1 ?_)))
  refine Wk 0 (Ba 1) ?_
  refine Wk 2 (Cb rfl rfl Jg9 (fun u hu=>Je2 _ u (by omega))) ?_
  refine Wf 0 rfl rfl (fun hg=>Fm) ?_
  refine Wf 0 rfl rfl (fun hg=>Fm) ?_
  refine Wf 0 rfl rfl (fun hg=>Cb rfl (ec_ (eg_ hg rfl) (ec_ (eg_ hg rfl) en_)) Jjm (fun u hu=>Jhr Pro.nm r.prs.l d.1 _ u (Jgr (j:=2) rfl hu) hd1 (by omega))) ?_
  refine Wk 1 Po ?_
  refine Wf 0 rfl rfl (fun hg=>Ff) ?_
  refine Wf 0 rfl rfl (fun hg=>Ba 1) ?_
  refine Wf 0 rfl rfl (fun hg=>Fr) ?_
  refine Wf 0 rfl rfl (fun hg=>Fm (eg_ hg rfl)) ?_
  refine Wn 0 rfl rfl rfl (fun hg=>Bb 3) ?_
  refine Wn 0 rfl rfl rfl (fun hg=>Ff) ?_
  refine Wn 0 rfl rfl rfl (fun hg=>Ba 1) ?_
  refine Wn 0 rfl rfl rfl (fun hg=>Cb rfl (ec_ (eg_ hg rfl) (ec_ (eg_ hg rfl) en_)) Jf0 (fun u hu=>Jcr r u (hr.st hu) _)) ?_
  refine Wn 0 rfl rfl rfl (fun hg=>Fn) ?_
  refine Wf 0 rfl rfl (fun hg=>Jb1 (eg_ hg rfl) (Je9 hg rfl) rfl) ?_
  refine Wk 0 Po ?_
  refine Wd (Qc (CS.cond rfl ?_ ?_))<;>intro hc8<;>try simp only [bq] at hc8
  ·
   refine Nz 1 ?_
   refine Wd (Qc (Cr (Qr (Qs (Qr (Qr (Qs (Qr ?_))))))))
   exact out1 rfl rfl (Jaa (by
      have hE:prO r d.1=24:=by (unfold prO or0 placeB; grind)
      rw [e3,show Jdb r=24 from Jbk ((Jaf hd1 (by omega) hd3 (by rw [hE]; decide)).trans hE) (by decide)]))
  refine Ck (Qc (Nz 0 ?_))
  refine Wk 1 (Bb 3) ?_
  refine Wk 0 (Ba 1) ?_
  refine Wk 1 (Cb rfl rfl Jfw (fun u hu=>Jc7 r u (hr.st hu) _ (hwh.st hu))) ?_
  refine Wd (Qc (CS.cond rfl ?_ ?_))<;>intro hc9<;>try simp only [bq] at hc9
  ·
   refine Nz 1 ?_
   refine Wd (Qc (Cr (Qs (Qr (Qr (Qs (Qr ?_)))))))
   exact out1 rfl rfl (Jaa (by
      have hE:prO r d.1=25:=by (unfold prO or0 whO placeB; grind)
      rw [e3,show Jdb r=25 from Jbk ((Jaf hd1 (by omega) hd3 (by rw [hE]; decide)).trans hE) (by decide)]))
  refine Ck (Qb (Qc (Ny 1 ?_)))
  refine Wk 1 Za ?_
  refine Wd ?_
  refine QS.sel [2,2] rfl ?_
  exact QS.head ((d.1+1,v135)) rfl (by simp only [Jfd Pro.nm (l:=r.prs.l) hd1 (by omega)]) ⟨⟨by simp; omega,by simp; omega,fun j h0 h1=>by
     simp only at h1
     rcases (show j < d.1∨j=d.1 by omega) with h | h
     ·
      exact hd3 j h0 h
     rw [h]; exact (show prO r d.1=0 by (unfold prO or0 whO placeB; grind))⟩,by simp; omega⟩
 have e4:checkE r=Jdc r:=e3.trans (Jb3 (Jag fun j a b=>hd3 j a (by omega)))
 refine Cv (Qe (Qe (Qx (Qc (Cs (Nz 1 ?_))))))
 refine Wd (Qc (Ce ?_))
 refine CS.loopM (σ:=Int) [2,10,162,163,164,165,166,167,168,169,170,171,172,173,174,175,176,177,178,179,180,181,182,183,184,185,186,187,188,189,190,191,192,193,194,195,196,197] (fun s=>[(9,.int .i64 s)]) (fun _=>_) (fun s=>0≤s∧s≤r.wys.l.length∧∀ j:Int,0≤j→j < s→wyO r j=0) (fun s=>(r.wys.l.length - s).toNat) 0 (fun _ _=>rfl) rfl rfl ⟨by omega,by omega,fun j _ _=>by omega⟩ ?_
 intro e t hs
 obtain ⟨he1,he2,he3⟩:=hs
 refine Cs (Nz 2 ?_)
 refine Wk 0 (Ba 1) ?_
 refine Wk 1 Nc ?_
 refine Wd (Qc (CS.cond rfl ?_ ?_))<;>intro hc10<;>try simp only [bq] at hc10
 ·
  have hwh:SlT cLit w (nth r.wys.l e).wh:=hr.wys.at he1 (by omega)
  refine Ck (Qc (Cs (Ce (Nz 1 ?_))))
  refine Wk 1 (Ba 1) ?_
  refine Wk 0 Xc ?_
  refine Wk 0 Ua ?_
  refine Wl 0 zv59 (fun _=>rfl) (fun _=>rfl) fun b10 hb10=>?_
  refine Wv 0 0 ?_
  refine Wd (Qc (Cs (Nz 0 ?_)))
  refine Wk 1 (Bb 2) ?_
  refine Wk 0 (Ba 0) ?_
  refine Wk 2 (Cb rfl rfl Jf0 (fun u hu=>Jcr r u (hr.st hu) _)) ?_
  refine Wf 0 rfl rfl (fun hg=>Bb 2) ?_
  refine Wf 0 rfl rfl (fun hg=>Ff) ?_
  refine Wf 0 rfl rfl (fun hg=>Ba 0) ?_
  refine Wf 0 rfl rfl (fun hg=>Cb rfl (ec_ (eg_ hg rfl) (ec_ (eg_ hg rfl) en_)) Jf0 (fun u hu=>Jcr r u (hr.st hu) _)) ?_
  refine Wf 0 rfl rfl (fun hg=>Fn) ?_
  refine Wk 1 Po ?_
  refine Wf 0 rfl rfl (fun hg=>Ff) ?_
  refine Wf 0 rfl rfl (fun hg=>Ba 0) ?_
  refine Wf 0 rfl rfl (fun hg=>Ff) ?_
  refine Wf 0 rfl rfl (fun hg=>Ba 0) ?_
  refine Wf 0 rfl rfl (fun hg=>Fq) ?_
  refine Wk 0 Po ?_
  refine Wd (Qc (CS.cond rfl ?_ ?_))<;>intro hc11<;>try simp only [bq] at hc11
  ·
   refine Nz 1 ?_
   refine Wd (Qc (Cr (Qr (Qs (Qr (Qr (Qs (Qr ?_))))))))
   exact out1 rfl rfl (Jaa (by
      have hE:wyO r e=23:=by (unfold wyO or0 placeB; grind)
      rw [e4,show Jdc r=23 from Jbk ((Jaf he1 (by omega) he3 (by rw [hE]; decide)).trans hE) (by decide)]))
  refine Ck (Qc (Nz 0 ?_))
  refine Wk 1 (Bb 2) ?_
  refine Wk 0 (Ba 0) ?_
  refine Wk 1 (Cb rfl rfl Jfw (fun u hu=>Jc7 r u (hr.st hu) _ (hwh.st hu))) ?_
  refine Wd (Qc (CS.cond rfl ?_ ?_))<;>intro hc12<;>try simp only [bq] at hc12
  ·
   refine Nz 1 ?_
   refine Wd (Qc (Cr (Qs (Qr (Qr (Qs (Qr ?_)))))))
   exact out1 rfl rfl (Jaa (by
      have hE:wyO r e=25:=by (unfold wyO or0 whO placeB; grind)
      rw [e4,show Jdc r=25 from Jbk ((Jaf he1 (by omega) he3 (by rw [hE]; decide)).trans hE) (by decide)]))
  refine Ck (Qb (Qc (Ny 1 ?_)))
  refine Wk 1 Za ?_
  refine Wd ?_
  refine QS.sel [1,1] rfl ?_
  exact QS.head (e+1) rfl rfl ⟨⟨by omega,by omega,fun j h0 h1=>by
     rcases (show j < e∨j=e by omega) with h | h
     ·
      exact he3 j h0 h
     rw [h]; exact (show wyO r e=0 by (unfold wyO or0 whO placeB; grind))⟩,by omega⟩
 have e5:checkE r=Jc2 r:=e4.trans (Jb3 (Jag fun j a b=>he3 j a (by omega)))
 refine Cv (Qe (Qe (Qx (Qc (Cs (Nz 1 ?_))))))
 refine Wd (Qc (Ce ?_))
 refine CS.loopM (σ:=Int) [2,198,199,200,201,202,203,204,205,206,207,208,209,210,211,212,213,214,215,216,217] (fun s=>[(11,.int .i64 s)]) (fun _=>_) (fun s=>0≤s∧s≤r.acs.l.length∧∀ j:Int,0≤j→j < s→acO r j=0) (fun s=>(r.acs.l.length - s).toNat) 0 (fun _ _=>rfl) rfl rfl ⟨by omega,by omega,fun j _ _=>by omega⟩ ?_
 intro g t hs
 obtain ⟨hg1,hg2,hg3⟩:=hs
 refine Cs (Nz 2 ?_)
 refine Wk 0 (Ba 1) ?_
 refine Wk 1 Nc ?_
 refine Wd (Qc (CS.cond rfl ?_ ?_))<;>intro hc13<;>try simp only [bq] at hc13
 ·
  have hwh:SlT cLit w (nth r.acs.l g).wh:=(hr.acs.at hg1 (by omega):ActOk w _).wh
  refine Ck (Qc (Cs (Ce (Cs (Nz 0 ?_)))))
  refine Wk 1 (Bb 1) ?_
  refine Wk 1 (Cb rfl rfl Jo0 (fun u hu=>Jqa r u (hr.st hu) _ hg1 (by omega) (fun x hx=>(hn.ac x hx).1))) ?_
  refine Wd (Qc (CS.cond rfl ?_ ?_))<;>intro hc14<;>try simp only [bq] at hc14
  ·
   refine Nz 1 ?_
   refine Wd (Qc (Cr (Qr (Qs (Qr (Qr (Qs (Qr ?_))))))))
   exact out1 rfl rfl (Jaa (by
      have hE:acO r g=26:=by (unfold acO or0; grind)
      rw [e5,show Jc2 r=26 from Jbk ((Jaf hg1 (by omega) hg3 (by rw [hE]; decide)).trans hE) (by decide)]))
  refine Ck (Qc (Cs (Dr mixed 0 ?_)))
  refine Dk 1 (Bb 1) ?_
  refine Dk 1 (Ba 1) ?_
  refine Dk 1 Xc ?_
  refine Dk 0 (Uc 8 4) ?_
  refine Dk 1 (Cb rfl rfl Jfw (fun u hu=>Jc7 r u (hr.st hu) _ (hwh.st hu))) ?_
  refine Dd (Qc (CS.cond rfl ?_ ?_))<;>intro hc15<;>try simp only [bq] at hc15
  ·
   refine Nz 1 ?_
   refine Wd (Qc (Cr (Qs (Qr (Qr (Qs (Qr ?_)))))))
   exact out1 rfl rfl (Jaa (by
      have hE:acO r g=25:=by (unfold acO or0 whO; grind)
      rw [e5,show Jc2 r=25 from Jbk ((Jaf hg1 (by omega) hg3 (by rw [hE]; decide)).trans hE) (by decide)]))
  refine Ck (Qb (Qc (Ny 1 ?_)))
  refine Wk 1 Za ?_
  refine Wd ?_
  exact QS.head (g+1) rfl rfl ⟨⟨by omega,by omega,fun j h0 h1=>by
     rcases (show j < g∨j=g by omega) with h | h
     ·
      exact hg3 j h0 h
     rw [h]; exact (show acO r g=0 by (unfold acO or0 whO; grind))⟩,by omega⟩
 have e6:checkE r=Jcz r:=e5.trans (Jb3 (Jag fun j a b=>hg3 j a (by omega)))
 refine Cv (Qe (Qe (Qx (Qc (Cs (Nz 1 ?_))))))
 refine Wd (Qc (Ce ?_))
 refine CS.loopM (σ:=Int) [2,218,219,220,221,222,223,224,225,226,227,228,229,230,231,232,233,234,235,236,237,238,239,240,241,242,243,244,245,246,247,248,249,250] (fun s=>[(12,.int .i64 s)]) (fun _=>_) (fun s=>0≤s∧s≤r.aus.l.length∧∀ j:Int,0≤j→j < s→auO r j=0) (fun s=>(r.aus.l.length - s).toNat) 0 (fun _ _=>rfl) rfl rfl ⟨by omega,by omega,fun j _ _=>by omega⟩ ?_
 intro m t hs
 obtain ⟨hm1,hm2,hm3⟩:=hs
 refine Cs (Nz 2 ?_)
 refine Wk 0 (Ba 1) ?_
 refine Wk 1 Nc ?_
 refine Wd (Qc (CS.cond rfl ?_ ?_))<;>intro hc16<;>try simp only [bq] at hc16
 ·
  have hwh:SlT cLit w (nth r.aus.l m).wh:=hr.aus.at hm1 (by omega)
  refine Ck (Qc (Cs (Ce (Cs (Cs (Dr mixed 0 ?_))))))
  refine Dk 1 (Bb 1) ?_
  refine Dk 1 (Ba 1) ?_
  refine Dk 2 Xc ?_
  refine Dk 1 (Uc 3 1) ?_
  refine Dk 1 (Ba 1) ?_
  refine Dk 2 Xc ?_
  refine Dk 0 (Uc 3 2) ?_
  refine Dk 1 (Cb rfl rfl Jlc (fun u hu=>Jlj r u (hr.st hu) _ _)) ?_
  refine Dd (Qc (CS.cond rfl ?_ ?_))<;>intro hc17<;>try simp only [bq] at hc17
  ·
   refine Nz 1 ?_
   refine Wd (Qc (Cr (Qr (Qs (Qr (Qr (Qs (Qr ?_))))))))
   exact out1 rfl rfl (Jaa (by
      have hE:auO r m=27:=by (unfold auO or0; grind)
      rw [e6,show Jcz r=27 from Jbk ((Jaf hm1 (by omega) hm3 (by rw [hE]; decide)).trans hE) (by decide)]))
  refine Ck (Qc (Cs (Dr mixed 0 ?_)))
  refine Dk 1 (Bb 1) ?_
  refine Dk 1 (Ba 1) ?_
  refine Dk 1 Xc ?_
  refine Dk 0 (Uc 3 0) ?_
  refine Dk 1 (Cb rfl rfl Jfw (fun u hu=>Jc7 r u (hr.st hu) _ (hwh.st hu))) ?_
  refine Dd (Qc (CS.cond rfl ?_ ?_))<;>intro hc18<;>try simp only [bq] at hc18
  ·
   refine Nz 1 ?_
   refine Wd (Qc (Cr (Qs (Qr (Qr (Qs (Qr ?_)))))))
   exact out1 rfl rfl (Jaa (by
      have hE:auO r m=25:=by (unfold auO or0 whO; grind)
      rw [e6,show Jcz r=25 from Jbk ((Jaf hm1 (by omega) hm3 (by rw [hE]; decide)).trans hE) (by decide)]))
  refine Ck (Qb (Qc (Ny 1 ?_)))
  refine Wk 1 Za ?_
  refine Wd ?_
  exact QS.head (m+1) rfl rfl ⟨⟨by omega,by omega,fun j h0 h1=>by
     rcases (show j < m∨j=m by omega) with h | h
     ·
      exact hm3 j h0 h
     rw [h]; exact (show auO r m=0 by (unfold auO or0 whO; grind))⟩,by omega⟩
 have e7:checkE r=glO r:=e6.trans (Jb3 (Jag fun j a b=>hm3 j a (by omega)))
 refine Cv (Qe (Qe (Qx (Qc (Cs (Nz 1 ?_))))))
 refine Wk 0 (Ba 1) ?_
 refine Wk 1 (Cb rfl rfl Je6 (fun u hu=>Jc5 _ _ _ u)) ?_
 refine Wd (Qc (CS.cond rfl ?_ ?_))<;>intro hc19<;>try simp only [bq] at hc19
 ·
  refine Nz 1 ?_
  exact Wd (Qc (Cr (Qr (out1 rfl rfl (Jaa (by rw [e7,show glO r=1 by (unfold glO or0; grind)]))))))
 refine Ck (Qc (Cs (Nz 0 ?_)))
 refine Wk 1 (Bb 1) ?_
 refine Wk 0 (Ba 1) ?_
 refine Wk 1 (Cb rfl rfl Jfw (fun u hu=>Jc7 r u (hr.st hu) _ (kgl.st hu))) ?_
 refine Wd (Qc (CS.cond rfl ?_ ?_))<;>intro hc20<;>try simp only [bq] at hc20
 ·
  refine Nz 1 ?_
  exact Wd (Qc (Cr (Qr (out1 rfl rfl (Jaa (by rw [e7,show glO r=25 by (unfold glO or0 whO; grind)]))))))
 refine Ck (Qc (Nz 1 ?_))
 exact Wd (Qc (Cr (out1 rfl rfl (Jaa (by rw [e7,show glO r=0 by (unfold glO or0 whO; grind)])))))
theorem Je4 (r:Room) (w:World) (hr:RoomOk w r) (hn:Near r) (z:Stt) (hz:SttOk w z) :
  Calls Tryz.prog 28 #[.agg #[r.pls.v,r.ths.v,r.prs.v,r.wys.v,r.acs.v,r.aus.v,.int .i64 r.ply,r.gl.v],.agg #[z.ths.v,z.prs.v,z.pls.v]] w (RetB w (.int .i64 (Jdp r z))):=by
 have kpl:=hr.pls
 have lpl:=hr.pls.le
 have kth:=hr.ths
 have lth:=hr.ths.le
 have kpr:=hr.prs
 have lpr:=hr.prs.le
 have kwy:=hr.wys
 have lwy:=hr.wys.le
 have kac:=hr.acs
 have lac:=hr.acs.le
 have kau:=hr.aus
 have lau:=hr.aus.le
 have kgl:=hr.gl
 have lgl:=hr.gl.le
 have zth:=hz.ths.ints
 have zpr:=hz.prs.ints
 have zpl:=hz.pls.ints
 have mth:=zth.le
 have mpr:=zpr.le
 have mpl:=zpl.le
 refine enter Tryz.func28 rfl rfl (Nat.le_of_ble_eq_true rfl) ?_
 refine Nz 0 ?_
 refine Wb 0 rfl rfl (fun _=>rfl) (fun _=>rfl) fun b2 hb2=>?_
 refine Wb 1 rfl rfl (fun _=>rfl) (fun _=>rfl) fun b3 hb3=>?_
 refine Wd (Qc (Nz 0 ?_))
 refine Wk 0 (Bb 1) ?_
 refine Wk 1 (Cb rfl rfl Jp9 (fun u hu=>Jln r u (hr.st hu) hn)) ?_
 refine Wd (Qc (Cs (Nz 2 ?_)))
 refine Wd (Qc (CS.cond rfl ?_ ?_))<;>intro hc1<;>try simp only [bq] at hc1
 ·
  have e0:Jdp r z=checkE r:=Jbk rfl hc1
  refine Nz 2 ?_
  exact Wd (Qc (Cr (Qr (out1 rfl rfl (Jaa (by rw [e0]))))))
 have e0:Jdp r z=stE r z.ths.l z.prs.l z.pls.l:=Jb3 (by omega)
 have hpy:1≤r.ply∧r.ply≤4:=Jdl (by omega)
 refine Ck (Qc (Cs (Nz 1 ?_)))
 refine Wk 0 (Ba 0) ?_
 refine Wk 1 Na ?_
 refine Wk 0 (Ba 1) ?_
 refine Wk 2 Nc ?_
 refine Wf 0 rfl rfl (fun hg=>Ff) ?_
 refine Wf 0 rfl rfl (fun hg=>Ba 0) ?_
 refine Wf 0 rfl rfl (fun hg=>Na (eg_ hg rfl)) ?_
 refine Wf 0 rfl rfl (fun hg=>Ff) ?_
 refine Wf 0 rfl rfl (fun hg=>Ba 1) ?_
 refine Wf 0 rfl rfl (fun hg=>Nc (eg_ hg rfl)) ?_
 refine Wf 0 rfl rfl (fun hg=>Fr) ?_
 refine Wk 1 Po ?_
 refine Wf 0 rfl rfl (fun hg=>Ff) ?_
 refine Wf 0 rfl rfl (fun hg=>Ba 0) ?_
 refine Wf 0 rfl rfl (fun hg=>Na (eg_ hg rfl)) ?_
 refine Wf 0 rfl rfl (fun hg=>Ff) ?_
 refine Wf 0 rfl rfl (fun hg=>Ba 1) ?_
 refine Wf 0 rfl rfl (fun hg=>Fr) ?_
 refine Wk 0 Po ?_
 refine Wd (Qc (CS.cond rfl ?_ ?_))<;>intro hc2<;>try simp only [bq] at hc2
 ·
  refine Nz 1 ?_
  exact Wd (Qc (Cr (Qr (out1 rfl rfl (Jaa (by rw [e0,show stE r z.ths.l z.prs.l z.pls.l=28 from if_neg (by simp only [Bool.and_eq_true,decide_eq_true_eq]; omega)]))))))
 have e1:stE r z.ths.l z.prs.l z.pls.l=or0 (Jay (Jcs r z.ths.l) z.ths.l.length) (or0 (Jay (Jcx r z.prs.l) z.prs.l.length) (Jay (Jco r z.pls.l) z.pls.l.length)):=if_pos (by simp only [Bool.and_eq_true,decide_eq_true_eq]; omega)
 refine Ck (Qc (Cs (Nz 1 ?_)))
 refine Wd (Qc (Ce ?_))
 refine CS.loopM (σ:=Int) [4,39,40,41,42,43,44,45,46,47,48,49,50,51,52,53,54] (fun s=>[(6,.int .i64 s)]) (fun _=>_) (fun s=>0≤s∧s≤z.ths.l.length∧∀ j:Int,0≤j→j < s→Jcs r z.ths.l j=0) (fun s=>(z.ths.l.length - s).toNat) 0 (fun _ _=>rfl) rfl rfl ⟨by omega,by omega,fun j _ _=>by omega⟩ ?_
 intro a t hs
 obtain ⟨ha1,ha2,ha3⟩:=hs
 refine Cs (Nz 2 ?_)
 refine Wk 0 (Ba 0) ?_
 refine Wk 1 Na ?_
 refine Wd (Qc (CS.cond rfl ?_ ?_))<;>intro hc3<;>try simp only [bq] at hc3
 ·
  refine Ck (Qc (Cs (Ce (Cs (Dr mixed 0 ?_)))))
  refine Dk 2 (Bb 1) ?_
  refine Dk 1 (Ba 0) ?_
  refine Dk 0 Xa ?_
  refine Dk 0 Ia ?_
  refine Dk 1 (Cb rfl rfl Jlc (fun u hu=>Jlj r u (hr.st hu) _ _)) ?_
  refine Dd (Qc (CS.cond rfl ?_ ?_))<;>intro hc4<;>try simp only [bq] at hc4
  ·
   refine Nz 1 ?_
   refine Wd (Qc (Cr (Qs (Qr (Qr (Qs (Qr ?_)))))))
   exact out1 rfl rfl (Jaa (by
      have hE:Jcs r z.ths.l a=28:=by (unfold Jcs; grind)
      rw [e0,e1,Jbk ((Jaf ha1 (by omega) ha3 (by rw [hE]; decide)).trans hE) (by decide)]))
  refine Ck (Qb (Qc (Ny 1 ?_)))
  refine Wk 1 Za ?_
  refine Wd ?_
  exact QS.head (a+1) rfl rfl ⟨⟨by omega,by omega,fun j h0 h1=>by
     rcases (show j < a∨j=a by omega) with h | h
     ·
      exact ha3 j h0 h
     rw [h]; unfold Jcs; exact if_pos hc4⟩,by omega⟩
 have e2:=(e0.trans e1).trans (Jb3 (Jag fun j a b=>ha3 j a (by omega)))
 refine Cv (Qe (Qe (Qx (Qc (Cs (Nz 1 ?_))))))
 refine Wd (Qc (Ce ?_))
 refine CS.loopM (σ:=Int) [4,8,55,56,57,58,59,60,61,62,63,64,65,66,67,68,69,70,71,72,73,74,75,76,77,78,79,80,81,82,83] (fun s=>[(7,.int .i64 s)]) (fun _=>_) (fun s=>0≤s∧s≤z.prs.l.length∧∀ j:Int,0≤j→j < s→Jcx r z.prs.l j=0) (fun s=>(z.prs.l.length - s).toNat) 0 (fun _ _=>rfl) rfl rfl ⟨by omega,by omega,fun j _ _=>by omega⟩ ?_
 intro b t hs
 obtain ⟨hb1,hb2,hb3⟩:=hs
 refine Cs (Nz 2 ?_)
 refine Wk 0 (Ba 0) ?_
 refine Wk 1 Na ?_
 refine Wd (Qc (CS.cond rfl ?_ ?_))<;>intro hc5<;>try simp only [bq] at hc5
 ·
  refine Ck (Qc (Cs (Ce (Nz 1 ?_))))
  refine Wk 1 (Ba 0) ?_
  refine Wk 0 Xa ?_
  refine Wk 1 Ia ?_
  refine Wd (Qc (Nz 0 ?_))
  refine Wk 1 (Bb 1) ?_
  refine Wk 2 (Cb rfl rfl Jf0 (fun u hu=>Jcr r u (hr.st hu) _)) ?_
  refine Wt 0 rfl rfl (fun hg=>Fm) ?_
  refine Wt 0 rfl rfl (fun hg=>Fr) ?_
  refine Wk 1 Pa ?_
  refine Wt 0 rfl rfl (fun hg=>Fm) ?_
  refine Wt 0 rfl rfl (fun hg=>Ff) ?_
  refine Wt 0 rfl rfl (fun hg=>Ba 1) ?_
  refine Wt 0 rfl rfl (fun hg=>Zb) ?_
  refine Wt 0 rfl rfl (fun hg=>Za) ?_
  refine Wt 0 rfl rfl (fun hg=>Cb rfl (ec_ (eg_ hg rfl) (ec_ (eg_ hg rfl) (ec_ rfl en_))) Je6 (fun u hu=>Jc5 _ _ _ u)) ?_
  refine Wt 0 rfl rfl (fun hg=>Fn) ?_
  refine Wk 0 Pa ?_
  refine Wd (Qc (CS.cond rfl ?_ ?_))<;>intro hc6<;>try simp only [bq] at hc6
  ·
   refine Nz 1 ?_
   refine Wd (Qc (Cr (Qs (Qr (Qr (Qs (Qr ?_)))))))
   exact out1 rfl rfl (Jaa (by
      have hE:Jcx r z.prs.l b=28:=by (unfold Jcx placeB; grind)
      rw [e2,Jbk ((Jaf hb1 (by omega) hb3 (by rw [hE]; decide)).trans hE) (by decide)]))
  refine Ck (Qb (Qc (Ny 1 ?_)))
  refine Wk 1 Za ?_
  refine Wd ?_
  exact QS.head (b+1) rfl rfl ⟨⟨by omega,by omega,fun j h0 h1=>by
     rcases (show j < b∨j=b by omega) with h | h
     ·
      exact hb3 j h0 h
     rw [h]; unfold Jcx placeB; grind⟩,by omega⟩
 have e3:=e2.trans (Jb3 (Jag fun j a b=>hb3 j a (by omega)))
 refine Cv (Qe (Qe (Qx (Qc (Cs (Nz 1 ?_))))))
 refine Wd (Qc (Ce ?_))
 refine CS.loopM (σ:=Int) [4,84,85,86,87,88,89,90,91,92,93,94,95,96,97,98] (fun s=>[(9,.int .i64 s)]) (fun _=>_) (fun s=>0≤s∧s≤z.pls.l.length∧∀ j:Int,0≤j→j < s→Jco r z.pls.l j=0) (fun s=>(z.pls.l.length - s).toNat) 0 (fun _ _=>rfl) rfl rfl ⟨by omega,by omega,fun j _ _=>by omega⟩ ?_
 intro d t hs
 obtain ⟨hd1,hd2,hd3⟩:=hs
 refine Cs (Nz 2 ?_)
 refine Wk 0 (Ba 0) ?_
 refine Wk 1 Na ?_
 refine Wd (Qc (CS.cond rfl ?_ ?_))<;>intro hc7<;>try simp only [bq] at hc7
 ·
  refine Ck (Qc (Cs (Ce (Cs (Dr mixed 0 ?_)))))
  refine Dk 1 (Bb 1) ?_
  refine Dk 1 (Ba 0) ?_
  refine Dk 0 Xa ?_
  refine Dk 0 Ia ?_
  refine Dk 1 (Cb rfl rfl Jf0 (fun u hu=>Jcr r u (hr.st hu) _)) ?_
  refine Dd (Qc (CS.cond rfl ?_ ?_))<;>intro hc8<;>try simp only [bq] at hc8
  ·
   refine Nz 1 ?_
   refine Wd (Qc (Cr (Qs (Qr (Qr (Qs (Qr ?_)))))))
   exact out1 rfl rfl (Jaa (by
      have hE:Jco r z.pls.l d=28:=by (unfold Jco placeB; grind)
      rw [e3,(Jaf hd1 (by omega) hd3 (by rw [hE]; decide)).trans hE]))
  refine Ck (Qb (Qc (Ny 1 ?_)))
  refine Wk 1 Za ?_
  refine Wd ?_
  exact QS.head (d+1) rfl rfl ⟨⟨by omega,by omega,fun j h0 h1=>by
     rcases (show j < d∨j=d by omega) with h | h
     ·
      exact hd3 j h0 h
     rw [h]; unfold Jco placeB; grind⟩,by omega⟩
 have e4:=e3.trans (Jag fun j a b=>hd3 j a (by omega))
 refine Cv (Qe (Qe (Qx (Qc (Nz 1 ?_)))))
 exact Wd (Qc (Cr (out1 rfl rfl (Jaa (by rw [e4])))))
end Go.Proofs.YtdpbapffdmahnaaGreatDoor
