/- Merged texts of this proof (walks and plain laws), printed by a program of the prover. -/
import Derived.Test.YtkekjhcmephhjaaGreatDoorZs
import Derived.Test.YtkekjhcmephhjaaGreatDoorZq
set_option maxHeartbeats 8000000
namespace Go.Proofs.YtkekjhcmephhjaaGreatDoor
open Go.RowKit Go.Proofs
set_option maxRecDepth 100000
set_option linter.unusedVariables false
set_option linter.unusedSimpArgs false
theorem Jdk (n:Int) (w:World) (h:0≤n∧n < 10) :
  Calls Tryz.prog 38 #[.int .i64 n] w (RetB w (.string (digB n))):=by
 refine enter Tryz.func38 rfl rfl (Nat.le_of_ble_eq_true rfl) ?_
 refine Nz 1 ?_
 refine Wd (Qc (Nz 1 ?_))
 refine Wk 1 (Jt5 rfl rfl (by omega) (by omega)) ?_
 refine Wk 0 (Jt5 rfl rfl (by omega) (by omega)) ?_
 refine Wk 0 Za ?_
 refine Wk 1 (Jtj Tryz.underlying9 rfl rfl rfl (by show _∧_∧_≤((10:Nat):Int); omega)) ?_
 refine Wd (Qc (Cs (Nz 2 ?_)))
 refine Wd (Qc (CS.cond rfl ?_ ?_))<;>intro hc1<;>try simp only [bq] at hc1
 ·
  refine Nz 2 ?_
  exact Wd (Qc (Cr (Qr (out1 rfl rfl (Jah (by rcases (show n=0∨n=1∨n=2∨n=3∨n=4∨n=5∨n=6∨n=7∨n=8∨n=9 by omega) with rfl | rfl | rfl | rfl | rfl | rfl | rfl | rfl | rfl | rfl <;> exact congrArg Value.string (by kernel_rfl)))))))
 exact absurd hc1 (by omega)
theorem Jt4 (r:Room) (w:World) (hr:RoomOk w r) (hF:FineR r) (c:Sl Lit) (hc:SlT cLit w c) (hp:∀ x∈c.l,putB r.ths.l x.t x.s=true) (hl:c.l.length≤20) :
  Calls Tryz.prog 41 #[.agg #[r.pls.v,r.ths.v,r.prs.v,r.wys.v,r.acs.v,r.aus.v,.int .i64 r.ply,r.gl.v],c.v] w (RetB w (.string (catB (Jaq r c.l)))):=by
 have kpl:=hr.pls
 have lpl:=hr.pls.le
 have kth:=hr.ths
 have lth:=hr.ths.le
 have kpr:=hr.prs
 have lpr:=hr.prs.le
 have kwy:=hr.wys
 have lwy:=hr.wys.le
 have kac:=hr.acs
 have lac:=hr.acs.le
 have kau:=hr.aus
 have lau:=hr.aus.le
 have kgl:=hr.gl
 have lgl:=hr.gl.le
 have lc:=hc.le
 have sz20:(⟨#[32]⟩:ByteArray).size=1:=rfl
 refine enter Tryz.func41 rfl rfl (Nat.le_of_ble_eq_true rfl) ?_
 refine Nz 0 ?_
 refine Wb 1 rfl rfl (fun _=>rfl) (fun _=>rfl) fun b2 hb2=>?_
 refine Wd (Qc (Nz 1 ?_))
 refine Wd (Qc (Cs (Nz 1 ?_)))
 refine Wd (Qc (Ce ?_))
 refine CS.loopM (σ:=Int × ByteArray) [7,8,9,10,11,12,13,14,15,16,17,18,19,20,21,22,23,24,25,26,27,28,29,30,31,32,33,34,35,36,37,38,39,40] (fun s=>[(6,.int .i64 s.1),(5,.string s.2)]) (fun _=>_) (fun s=>0≤s.1∧s.1≤c.l.length∧s.2=catB ((c.l.take s.1.toNat).map (litF r))∧(s.2.size:Int)≤100 * s.1) (fun s=>(c.l.length - s.1).toNat) (0,⟨#[]⟩) (fun _ _=>rfl) rfl rfl ⟨by simp,by simp,rfl,by simp; rfl⟩ ?_
 intro a t hs
 obtain ⟨ha1,ha2,ha3,ha4⟩:=hs
 refine Cs (Nz 2 ?_)
 refine Wk 1 Nc ?_
 refine Wd (Qc (CS.cond rfl ?_ ?_))<;>intro hc1<;>try simp only [bq] at hc1
 ·
  have hpx:=hp _ (Jak ha1 (show a.1 < (c.l.length:Int) by omega))
  obtain ⟨hp0,hp1,hp2,hp3⟩:=Jj6 hF hpx
  have hnm:=Jbo (hF.th _ hp0 hp1).1
  have hds:=Jc2 (n:=(nth c.l a.1).s) (by omega)
  have hsg:=Juc (nth c.l a.1).nt
  refine Ck (Qc (Cs (Ce (Nz 1 ?_))))
  refine Wd (Qc ?_)
  refine CS.cut (σ:=ByteArray) [14,15,16,17,18] (fun s=>[(7,.string s)]) (fun s=>[blk b2 (Room.cells r) 32]) (fun s=>s=sgnB (nth c.l a.1).nt) (fun _ _=>rfl) ?_ ?_
  ·
   refine Nz 2 ?_
   refine Wk 1 Xc ?_
   refine Wk 0 (Uc 3 2) ?_
   refine Wd (Qc (CS.cond rfl ?_ ?_))<;>intro hc2<;>try simp only [bq] at hc2
   ·
    refine Ny 1 ?_
    exact Wd (QS.head (⟨#[33]⟩) rfl rfl (by rw [show (nth c.l a.1).nt=true from hc2]; rfl))
   exact Ck (QS.head (⟨#[61]⟩) rfl rfl (by rw [show (nth c.l a.1).nt=false from by simpa using hc2]; rfl))
  intro p t hs
  subst hs
  refine Dr mixed 1 ?_
  refine Dk 1 (Jaj rfl rfl (by (try simp only [ByteArray.size_append]); omega)) ?_
  refine Dk 2 (by first | exact Jaa (j:=0) rfl rfl rfl tk24 | exact Jab rfl (by assumption) rfl tk24) ?_
  refine Dk 1 Xc ?_
  refine Dk 0 (Uc 3 0) ?_
  refine Dk 1 Xc ?_
  refine Dk 0 (Uc 4 0) ?_
  refine Dk 1 (Jaj rfl rfl (by (try simp only [ByteArray.size_append]); omega)) ?_
  refine Dk 2 (Jaj rfl rfl (by (try simp only [ByteArray.size_append]); omega)) ?_
  refine Dk 1 Xc ?_
  refine Dk 0 (Uc 3 1) ?_
  refine Dk 0 (Cb rfl rfl Jnk (fun u hu=>Jdk _ u ⟨by omega,by omega⟩)) ?_
  refine Dk 1 (Jaj rfl rfl (by (try simp only [ByteArray.size_append]); omega)) ?_
  refine Dd (Qb (Qc (Ny 1 ?_)))
  refine Wk 1 Za ?_
  refine Wd ?_
  exact QS.head ((a.1+1,a.2++(⟨#[32]⟩:ByteArray)++(nth r.ths.l (nth c.l a.1).t).nm++sgnB (nth c.l a.1).nt++digB (nth c.l a.1).s)) rfl rfl ⟨⟨by simp; omega,by simp; omega,by
     show _=catB ((c.l.take (a.1+1).toNat).map (litF r))
     rw [Jcs c.l ha1 (by omega),List.map_append,List.map_singleton,Jl2, ← ha3]; simp only [litF,ByteArray.append_assoc],by simp only [ByteArray.size_append]; omega⟩,by simp; omega⟩
 have hae:a.1.toNat=c.l.length:=by omega
 refine Cv (Qe (Qe (Qx (Qc (Nz 2 ?_)))))
 exact Wd (Qc (Cr (out1 rfl rfl (Jah (by rw [ha3,hae,List.take_length]; rfl)))))
theorem Jva (r:Room) (w:World) (hr:RoomOk w r) (hF:FineR r) (c:Sl Lit) (hc:SlT cLit w c) (hp:∀ x∈c.l,putB r.ths.l x.t x.s=true) (hl:c.l.length≤20) :
  Calls Tryz.prog 39 #[.agg #[r.pls.v,r.ths.v,r.prs.v,r.wys.v,r.acs.v,r.aus.v,.int .i64 r.ply,r.gl.v],c.v] w (RetB w (.string (catB (Jav ifW (Jaq r c.l))))):=by
 have kpl:=hr.pls
 have lpl:=hr.pls.le
 have kth:=hr.ths
 have lth:=hr.ths.le
 have kpr:=hr.prs
 have lpr:=hr.prs.le
 have kwy:=hr.wys
 have lwy:=hr.wys.le
 have kac:=hr.acs
 have lac:=hr.acs.le
 have kau:=hr.aus
 have lau:=hr.aus.le
 have kgl:=hr.gl
 have lgl:=hr.gl.le
 have lc:=hc.le
 have hlz:=Jou hF hp hl
 have sz206966:(⟨#[32,105,102]⟩:ByteArray).size=3:=rfl
 refine enter Tryz.func39 rfl rfl (Nat.le_of_ble_eq_true rfl) ?_
 refine Nz 0 ?_
 refine Wb 1 rfl rfl (fun _=>rfl) (fun _=>rfl) fun b2 hb2=>?_
 refine Wd (Qc (Cs (Nz 1 ?_)))
 refine Wk 1 Nc ?_
 refine Wd (Qc (CS.cond rfl ?_ ?_))<;>intro hc1<;>try simp only [bq] at hc1
 ·
  refine Nz 1 ?_
  exact Wd (Qc (Cr (Qr (out1 rfl rfl (Jah (by rw [Jse (by rw [Jbf]; omega)]))))))
 refine Ck (Qc (Nz 0 ?_))
 refine Wk 1 (by first | exact Jad (j:=0) rfl rfl tk32 | exact Jae (j:=0) rfl rfl (by rfl) tk32 | exact Jai rfl (by assumption) (by rfl) tk32 | exact Jaf (n:=8) (j:=0) rfl rfl rfl rfl tk32) ?_
 refine Wk 0 (Cb rfl rfl J2z (fun u hu=>Jt4 r u (hr.st hu) hF c (hc.st hu) hp hl)) ?_
 refine Wk 1 (Jaj rfl rfl (by (try simp only [ByteArray.size_append]); omega)) ?_
 exact Wd (Qc (Cr (out1 rfl rfl (Jah (by rw [Jkc (by rw [Jbf]; omega)]; exact congrArg Value.string (Jda (by simp [Jb2,Jfz,ifW])))))))
theorem Ji0 (r:Room) (w:World) (hr:RoomOk w r) (hF:FineR r) (wd:ByteArray) (hwd:wd.size≤15) (l:Sl Int) (hk:SlT cInt w l) (hp:∀ x∈l.l,0≤x∧x < r.prs.l.length) (hl:l.l.length≤20) :
  Calls Tryz.prog 40 #[.agg #[r.pls.v,r.ths.v,r.prs.v,r.wys.v,r.acs.v,r.aus.v,.int .i64 r.ply,r.gl.v],.string wd,l.v] w (RetB w (.string (catB (Jav wd (Ja0 r l.l))))):=by
 have kpl:=hr.pls
 have lpl:=hr.pls.le
 have kth:=hr.ths
 have lth:=hr.ths.le
 have kpr:=hr.prs
 have lpr:=hr.prs.le
 have kwy:=hr.wys
 have lwy:=hr.wys.le
 have kac:=hr.acs
 have lac:=hr.acs.le
 have kau:=hr.aus
 have lau:=hr.aus.le
 have kgl:=hr.gl
 have lgl:=hr.gl.le
 have hki:=hk.ints
 have lk:=hk.le
 have sz20:(⟨#[32]⟩:ByteArray).size=1:=rfl
 refine enter Tryz.func40 rfl rfl (Nat.le_of_ble_eq_true rfl) ?_
 refine Nz 0 ?_
 refine Wb 1 rfl rfl (fun _=>rfl) (fun _=>rfl) fun b3 hb3=>?_
 refine Wd (Qc (Cs (Nz 1 ?_)))
 refine Wk 1 (by first | exact Jdw sl43 rfl (by assumption) | exact Jdw sl43 rfl (by first | exact SlL.sp (by assumption) | exact ClS.sp (by assumption)) | exact Jia sl43 rfl | exact Jh6 sl43 rfl ⟨_,_,rfl⟩) ?_
 refine Wd (Qc (CS.cond rfl ?_ ?_))<;>intro hc1<;>try simp only [bq] at hc1
 ·
  refine Nz 1 ?_
  exact Wd (Qc (Cr (Qr (out1 rfl rfl (Jah (by rw [Jse (by rw [Jdp]; omega)]))))))
 refine Ck (Qc (Nz 1 ?_))
 refine Wk 1 (Jaj rfl rfl (by (try simp only [ByteArray.size_append]); omega)) ?_
 refine Wd (Qc (Cs (Nz 1 ?_)))
 refine Wd (Qc (Ce ?_))
 refine CS.loopM (σ:=Int × ByteArray) [14,15,16,17,18,19,20,21,22,23,24,25,26,27,28,29,30,31] (fun s=>[(8,.int .i64 s.1),(7,.string s.2)]) (fun _=>_) (fun s=>0≤s.1∧s.1≤l.l.length∧s.2=(⟨#[32]⟩:ByteArray)++wd++catB ((l.l.take s.1.toNat).map fun p=>(nth r.prs.l p).nm)∧(s.2.size:Int)≤100+100 * s.1) (fun s=>(l.l.length - s.1).toNat) (0,(⟨#[32]⟩:ByteArray)++wd) (fun _ _=>rfl) rfl rfl ⟨by simp,by simp,Jda (by simp [Jb2,Jc3]),by simp only [ByteArray.size_append]; omega⟩ ?_
 intro a t hs
 obtain ⟨ha1,ha2,ha3,ha4⟩:=hs
 refine Cs (Nz 2 ?_)
 refine Wk 1 (by first | exact Jdw sl43 rfl (by assumption) | exact Jdw sl43 rfl (by first | exact SlL.sp (by assumption) | exact ClS.sp (by assumption)) | exact Jia sl43 rfl | exact Jh6 sl43 rfl ⟨_,_,rfl⟩) ?_
 refine Wd (Qc (CS.cond rfl ?_ ?_))<;>intro hc2<;>try simp only [bq] at hc2
 ·
  have hpx:=hp _ (Jak ha1 (show a.1 < (l.l.length:Int) by omega))
  have hnm:=Jbo (hF.pr _ hpx.1 hpx.2).1
  refine Ck (Qc (Cs (Ce (Dr mixed 1 ?_))))
  refine Dk 1 (Jaj rfl rfl (by (try simp only [ByteArray.size_append]); omega)) ?_
  refine Dk 2 (by first | exact Jaa (j:=0) rfl rfl rfl tk25 | exact Jab rfl (by assumption) rfl tk25) ?_
  refine Dk 0 (by first | exact Jgx sl43 rfl rfl (by assumption) (by omega) (by omega) | exact Jfb sl43 rfl rfl (by omega) (by omega)) ?_
  refine Dk 0 (by first | exact Jd1 rfl (by assumption) (by omega) tk3 | exact Jaa (j:=0) rfl rfl rfl tk3 | exact Jaa (j:=1) rfl rfl rfl tk3 | exact Jaa (j:=2) rfl rfl rfl tk3 | exact Jaa (j:=3) rfl rfl rfl tk3 | exact Jab rfl (by assumption) rfl tk3) ?_
  refine Dk 1 Xc ?_
  refine Dk 0 (Uc 3 0) ?_
  refine Dk 1 (Jaj rfl rfl (by (try simp only [ByteArray.size_append]); omega)) ?_
  refine Dd (Qb (Qc (Ny 1 ?_)))
  refine Wk 1 Za ?_
  refine Wd ?_
  exact QS.head ((a.1+1,a.2++(⟨#[32]⟩:ByteArray)++(nth r.prs.l (nth l.l a.1)).nm)) rfl rfl ⟨⟨by simp; omega,by simp; omega,by
     show _=(⟨#[32]⟩:ByteArray)++wd++catB ((l.l.take (a.1+1).toNat).map fun p=>(nth r.prs.l p).nm)
     rw [Jcs l.l ha1 (by omega),List.map_append,List.map_singleton,Jl2,ha3]; simp only [ByteArray.append_assoc],by simp only [ByteArray.size_append]; omega⟩,by simp; omega⟩
 have hae:a.1.toNat=l.l.length:=by omega
 refine Cv (Qe (Qe (Qx (Qc (Nz 2 ?_)))))
 exact Wd (Qc (Cr (out1 rfl rfl (Jah (by rw [Jkc (by rw [Jdp]; omega),ha3,hae,List.take_length]; rfl)))))
theorem Jrt (r:Room) (w:World) (hr:RoomOk w r) (hn:Near r) :
  Calls Tryz.prog 12 #[.agg #[r.pls.v,r.ths.v,r.prs.v,r.wys.v,r.acs.v,r.aus.v,.int .i64 r.ply,r.gl.v]] w (RetB w (.tuple #[.string (Jbi r).1,.int .i64 (Jbi r).2])):=by
 have kpl:=hr.pls
 have lpl:=hr.pls.le
 have kth:=hr.ths
 have lth:=hr.ths.le
 have kpr:=hr.prs
 have lpr:=hr.prs.le
 have kwy:=hr.wys
 have lwy:=hr.wys.le
 have kac:=hr.acs
 have lac:=hr.acs.le
 have kau:=hr.aus
 have lau:=hr.aus.le
 have kgl:=hr.gl
 have lgl:=hr.gl.le
 refine enter Tryz.func12 rfl rfl (Nat.le_of_ble_eq_true rfl) ?_
 refine Nz 0 ?_
 refine Wb 2 rfl rfl (fun _=>rfl) (fun _=>rfl) fun b1 hb1=>?_
 refine Wd (Qc (Nz 0 ?_))
 refine Wk 0 (by first | exact Jad (j:=0) rfl rfl tk32 | exact Jae (j:=0) rfl rfl (by rfl) tk32 | exact Jai rfl (by assumption) (by rfl) tk32 | exact Jaf (n:=8) (j:=0) rfl rfl rfl rfl tk32) ?_
 refine Wk 1 (Cb rfl rfl J3x (fun u hu=>Jtd r u (hr.st hu) hn.nm)) ?_
 refine Wd (Qc (Cs (Nz 2 ?_)))
 refine Wd (Qc (CS.cond rfl ?_ ?_))<;>intro hc1<;>try simp only [bq] at hc1
 ·
  have hE:¬ checkE r=0:=hc1
  refine Nz 3 ?_
  exact Wd (Qc (Cr (Qr (out2 rfl rfl rfl (Jah (by unfold Jbi; rw [if_neg hE]))))))
 have hE:checkE r=0:=by simpa using hc1
 have hF:=Jd0 hE
 have hlens:=hF.rd.lens
 have hplay:=hF.rd.ply
 have sz706c61636520:(⟨#[112,108,97,99,101,32]⟩:ByteArray).size=6:=rfl
 have sz0a:(⟨#[10]⟩:ByteArray).size=1:=rfl
 have sz7468696e6720:(⟨#[116,104,105,110,103,32]⟩:ByteArray).size=6:=rfl
 have sz20617420:(⟨#[32,97,116,32]⟩:ByteArray).size=4:=rfl
 have sz2073746174657320:(⟨#[32,115,116,97,116,101,115,32]⟩:ByteArray).size=8:=rfl
 have sz20737461727420:(⟨#[32,115,116,97,114,116,32]⟩:ByteArray).size=7:=rfl
 have sz20676f6e65:(⟨#[32,103,111,110,101]⟩:ByteArray).size=5:=rfl
 have sz70726f7020:(⟨#[112,114,111,112,32]⟩:ByteArray).size=5:=rfl
 have sz77617920:(⟨#[119,97,121,32]⟩:ByteArray).size=4:=rfl
 have sz20:(⟨#[32]⟩:ByteArray).size=1:=rfl
 have sz61637420:(⟨#[97,99,116,32]⟩:ByteArray).size=4:=rfl
 have sz206c6f636b20:(⟨#[32,108,111,99,107,32]⟩:ByteArray).size=6:=rfl
 have sz2073657473:(⟨#[32,115,101,116,115]⟩:ByteArray).size=5:=rfl
 have sz3d:(⟨#[61]⟩:ByteArray).size=1:=rfl
 have sz6175746f20:(⟨#[97,117,116,111,32]⟩:ByteArray).size=5:=rfl
 have sz706c617965727320:(⟨#[112,108,97,121,101,114,115,32]⟩:ByteArray).size=8:=rfl
 have sz676f616c:(⟨#[103,111,97,108]⟩:ByteArray).size=4:=rfl
 refine Ck (Qc (Nz 1 ?_))
 refine Wd (Qc (Cs (Nz 1 ?_)))
 refine Wd (Qc (Ce ?_))
 refine CS.loopM (σ:=Int × ByteArray) [24,25,26,27,28,29,30,31,32,33,34,35,36,37,38,39] (fun s=>[(6,.int .i64 s.1),(5,.string s.2)]) (fun _=>_) (fun s=>0≤s.1∧s.1≤r.pls.l.length∧s.2=Jbc ([]++(r.pls.l.take s.1.toNat).map Jd4)) (fun s=>(r.pls.l.length - s.1).toNat) (0,⟨#[]⟩) (fun _ _=>rfl) rfl rfl ⟨by simp,by simp,rfl⟩ ?_
 intro a t hs
 obtain ⟨ha1,ha2,ha3⟩:=hs
 refine Cs (Nz 2 ?_)
 refine Wk 0 (by first | exact Jaa (j:=0) rfl rfl rfl tk23 | exact Jab rfl (by assumption) rfl tk23) ?_
 refine Wk 1 Nc ?_
 refine Wd (Qc (CS.cond rfl ?_ ?_))<;>intro hc2<;>try simp only [bq] at hc2
 ·
  obtain ⟨q_a,hq_a⟩:=fmt1 r
  have hza:=Jci hF hq_a a.1.toNat
  rw [← ha3] at hza
  have hnm:=Jbo (hF.pl a.1 ha1 (by omega)).1
  refine Ck (Qc (Cs (Ce (Ny 1 ?_))))
  refine Wk 1 (Jaj rfl rfl (by (try simp only [ByteArray.size_append]); omega)) ?_
  refine Wk 1 (by first | exact Jaa (j:=0) rfl rfl rfl tk23 | exact Jab rfl (by assumption) rfl tk23) ?_
  refine Wk 0 Xc ?_
  refine Wk 0 Ub ?_
  refine Wk 0 (Jaj rfl rfl (by (try simp only [ByteArray.size_append]); omega)) ?_
  refine Wk 1 (Jaj rfl rfl (by (try simp only [ByteArray.size_append]); omega)) ?_
  refine Wd (Qb (Qc (Ny 1 ?_)))
  refine Wk 1 Za ?_
  refine Wd ?_
  exact QS.head ((a.1+1,a.2++(⟨#[112,108,97,99,101,32]⟩:ByteArray)++(nth r.pls.l a.1)++(⟨#[10]⟩:ByteArray))) rfl rfl ⟨⟨by simp; omega,by simp; omega,by
     refine Eq.trans ?_ (Jbr ha1 (by omega)).symm
     rw [← ha3]
     exact Jda (by simp [Jb2,Jfz,Jc1,Jc3,Jd4,Jkw])⟩,by simp; omega⟩
 have an:a.1.toNat=r.pls.l.length:=by omega
 rw [an,List.take_length] at ha3
 replace ha3:a.2=Jbc (pf1 r):=ha3
 refine Cv (Qe (Qe (Qx (Qc (Cs (Nz 1 ?_))))))
 refine Wd (Qc (Ce ?_))
 refine CS.loopM (σ:=Int × ByteArray) [8,40,41,42,43,44,45,46,47,48,49,50,51,52,53,54,55,56,57,58,59,60,61,62,63,64,65,66,67,68,69,70,71,72,73,74,75] (fun s=>[(7,.int .i64 s.1),(5,.string s.2)]) (fun _=>_) (fun s=>0≤s.1∧s.1≤r.ths.l.length∧s.2=Jbc (pf1 r++(r.ths.l.take s.1.toNat).map (Jc9 r))) (fun s=>(r.ths.l.length - s.1).toNat) (0,a.2) (fun _ _=>rfl) rfl rfl ⟨by simp,by simp,by show a.2=Jbc (_++[]); rw [List.append_nil]; exact ha3⟩ ?_
 intro b t hs
 obtain ⟨hb1,hb2,hb3⟩:=hs
 refine Cs (Nz 2 ?_)
 refine Wk 0 (by first | exact Jaa (j:=0) rfl rfl rfl tk24 | exact Jab rfl (by assumption) rfl tk24) ?_
 refine Wk 1 Nc ?_
 refine Wd (Qc (CS.cond rfl ?_ ?_))<;>intro hc3<;>try simp only [bq] at hc3
 ·
  obtain ⟨q_b,hq_b⟩:=fmt2 r
  have hzb:=Jci hF hq_b b.1.toNat
  rw [← hb3] at hzb
  have htb:=Jd2 hF (Jak hb1 (show b.1 < (r.ths.l.length:Int) by omega))
  have hts:=Jjm htb.1
  have htc:=htb.1
  simp only [thB,Bool.and_eq_true,decide_eq_true_eq] at htc
  have htp:=Jb9 htc.1
  have hnm:=Jbo htb.2
  have hpn:=Jbo (hF.pl _ htp.1 htp.2).1
  have hd1:=Jc2 (n:=(nth r.ths.l b.1).st) (by omega)
  have hd2:=Jc2 (n:=(nth r.ths.l b.1).sr) (by omega)
  refine Ck (Qc (Cs (Ce (Nz 1 ?_))))
  refine Wk 1 (by first | exact Jaa (j:=0) rfl rfl rfl tk24 | exact Jab rfl (by assumption) rfl tk24) ?_
  refine Wk 0 Xc ?_
  refine Wk 0 Ua ?_
  refine Wl 0 zv65 (fun _=>rfl) (fun _=>rfl) fun b8 hb8=>?_
  refine Wv 0 0 ?_
  refine Wd (Qc (Dr mixed 1 ?_))
  refine Dk 1 (Jaj rfl rfl (by (try simp only [ByteArray.size_append]); omega)) ?_
  refine Dk 0 (by first | exact Jaa (j:=0) rfl rfl rfl tk9 | exact Jab rfl (by assumption) rfl tk9) ?_
  refine Dk 0 (Jaj rfl rfl (by (try simp only [ByteArray.size_append]); omega)) ?_
  refine Dk 1 (Jaj rfl rfl (by (try simp only [ByteArray.size_append]); omega)) ?_
  refine Dk 1 (by first | exact Jaa (j:=1) rfl rfl rfl tk23 | exact Jab rfl (by assumption) rfl tk23) ?_
  refine Dk 0 (by first | exact Jaa (j:=0) rfl rfl rfl tk3 | exact Jab rfl (by assumption) rfl tk3) ?_
  refine Dk 0 Xc ?_
  refine Dk 0 Ub ?_
  refine Dk 0 (Jaj rfl rfl (by (try simp only [ByteArray.size_append]); omega)) ?_
  refine Dk 1 (Jaj rfl rfl (by (try simp only [ByteArray.size_append]); omega)) ?_
  refine Dk 0 (by first | exact Jaa (j:=0) rfl rfl rfl tk3 | exact Jab rfl (by assumption) rfl tk3) ?_
  refine Dk 0 (Cb rfl rfl Jnk (fun u hu=>Jdk _ u ⟨by omega,by omega⟩)) ?_
  refine Dk 0 (Jaj rfl rfl (by (try simp only [ByteArray.size_append]); omega)) ?_
  refine Dk 1 (Jaj rfl rfl (by (try simp only [ByteArray.size_append]); omega)) ?_
  refine Dk 0 (by first | exact Jaa (j:=0) rfl rfl rfl tk3 | exact Jab rfl (by assumption) rfl tk3) ?_
  refine Dk 0 (Cb rfl rfl Jnk (fun u hu=>Jdk _ u ⟨by omega,by omega⟩)) ?_
  refine Dk 0 (Jaj rfl rfl (by (try simp only [ByteArray.size_append]); omega)) ?_
  refine Dk 1 (Jaj rfl rfl (by (try simp only [ByteArray.size_append]); omega)) ?_
  refine Dd (Qb (Qc (Ny 1 ?_)))
  refine Wk 1 Za ?_
  refine Wd ?_
  refine QS.sel [1] rfl ?_
  exact QS.head ((b.1+1,b.2++(⟨#[116,104,105,110,103,32]⟩:ByteArray)++(nth r.ths.l b.1).nm++(⟨#[32,97,116,32]⟩:ByteArray)++(nth r.pls.l (nth r.ths.l b.1).pl)++(⟨#[32,115,116,97,116,101,115,32]⟩:ByteArray)++digB (nth r.ths.l b.1).st++(⟨#[32,115,116,97,114,116,32]⟩:ByteArray)++digB (nth r.ths.l b.1).sr++(⟨#[10]⟩:ByteArray))) rfl rfl ⟨⟨by simp; omega,by simp; omega,by
     refine Eq.trans ?_ (Jbr hb1 (by omega)).symm
     rw [← hb3]
     exact Jda (by simp [Jb2,Jfz,Jc1,Jc3,Jc9,Jk6,atW,Jf7,Jii])⟩,by simp; omega⟩
 have bn:b.1.toNat=r.ths.l.length:=by omega
 rw [bn,List.take_length] at hb3
 replace hb3:b.2=Jbc (pf2 r):=hb3
 refine Cv (Qe (Qe (Qx (Qc (Cs (Nz 1 ?_))))))
 refine Wd (Qc (Ce ?_))
 refine CS.loopM (σ:=Int × ByteArray) [10,11,76,77,78,79,80,81,82,83,84,85,86,87,88,89,90,91,92,93,94,95,96,97,98,99,100,101,102,103,104,105,106,107,108,109,110] (fun s=>[(9,.int .i64 s.1),(5,.string s.2)]) (fun _=>_) (fun s=>0≤s.1∧s.1≤r.prs.l.length∧s.2=Jbc (pf2 r++(r.prs.l.take s.1.toNat).map (Jfm r))) (fun s=>(r.prs.l.length - s.1).toNat) (0,b.2) (fun _ _=>rfl) rfl rfl ⟨by simp,by simp,by show b.2=Jbc (_++[]); rw [List.append_nil]; exact hb3⟩ ?_
 intro c t hs
 obtain ⟨hc1,hc2,hc3⟩:=hs
 refine Cs (Nz 2 ?_)
 refine Wk 0 (by first | exact Jaa (j:=0) rfl rfl rfl tk25 | exact Jab rfl (by assumption) rfl tk25) ?_
 refine Wk 1 Nc ?_
 refine Wd (Qc (CS.cond rfl ?_ ?_))<;>intro hc4<;>try simp only [bq] at hc4
 ·
  obtain ⟨q_c,hq_c⟩:=fmt3 r
  have hzc:=Jci hF hq_c c.1.toNat
  rw [← hc3] at hzc
  have hpm:=Jak hc1 (show c.1 < (r.prs.l.length:Int) by omega)
  have hpr:=hF.rd.prs _ hpm
  have hcd:=Ja9 (hF.cpr _ hpm)
  have hpo:=(hr.prs.at hc1 (show c.1 < (r.prs.l.length:Int) by omega)).ext (Below.refl _ w)
  have hnm:=Jbo (Jji hF hpm)
  have hif:=Jo9 hF hcd.1 hcd.2
  refine Ck (Qc (Cs (Ce (Nz 1 ?_))))
  refine Wk 1 (by first | exact Jaa (j:=0) rfl rfl rfl tk25 | exact Jab rfl (by assumption) rfl tk25) ?_
  refine Wk 0 Xc ?_
  refine Wk 0 Ua ?_
  refine Wl 0 zv67 (fun _=>rfl) (fun _=>rfl) fun b10 hb10=>?_
  refine Wv 0 0 ?_
  refine Wd (Qc (Nz 1 ?_))
  refine Wd (Qc ?_)
  refine CS.cut (σ:=ByteArray) [88,89,90,91,92,93,94,95,96,97] (fun s=>[(11,.string s)]) (fun s=>[blk b10 (cPro.cells (nth r.prs.l c.1)) 67,blk b1 (Room.cells r) 32]) (fun s=>s=catB (Jde r (nth r.prs.l c.1).pl)∧s.size≤100) (fun _ _=>rfl) ?_ ?_
  ·
   refine Nz 1 ?_
   refine Wk 1 (by first | exact Jaa (j:=0) rfl rfl rfl tk3 | exact Jab rfl (by assumption) rfl tk3) ?_
   refine Wd (Qc (CS.cond rfl ?_ ?_))<;>intro hc5<;>try simp only [bq] at hc5
   ·
    have hpb:=Jb9 (hpr.2.resolve_left (by omega))
    have hpn:=Jbo (hF.pl _ hpb.1 hpb.2).1
    refine Ny 1 ?_
    refine Wk 1 (by first | exact Jaa (j:=1) rfl rfl rfl tk23 | exact Jab rfl (by assumption) rfl tk23) ?_
    refine Wk 0 (by first | exact Jaa (j:=0) rfl rfl rfl tk3 | exact Jab rfl (by assumption) rfl tk3) ?_
    refine Wk 0 Xc ?_
    refine Wk 0 Ub ?_
    refine Wk 1 (Jaj rfl rfl (by (try simp only [ByteArray.size_append]); omega)) ?_
    exact Wd (QS.head (((⟨#[32,97,116,32]⟩:ByteArray)++nth r.pls.l (nth r.prs.l c.1).pl)) rfl rfl ⟨by rw [Jde,if_neg (by omega)]; exact Jda (by simp [Jb2,Jfz,Jc3,atW]),by rw [ByteArray.size_append]; omega⟩)
   exact Ck (QS.head ((⟨#[32,103,111,110,101]⟩:ByteArray)) rfl rfl ⟨by rw [Jde,if_pos (hpr.2.resolve_right fun h=>by have:=Jb9 h; omega)]; exact Jda (by simp [Jb2,Jfz,Jc3,Jhc]),by omega⟩)
  intro p t hs
  obtain ⟨hp1,hp2⟩:=hs
  refine Dr mixed 1 ?_
  refine Dk 1 (Jaj rfl rfl (by (try simp only [ByteArray.size_append]); omega)) ?_
  refine Dk 0 (by first | exact Jaa (j:=0) rfl rfl rfl tk9 | exact Jab rfl (by assumption) rfl tk9) ?_
  refine Dk 1 (Jaj rfl rfl (by (try simp only [ByteArray.size_append]); omega)) ?_
  refine Dk 0 (Jaj rfl rfl (by (try simp only [ByteArray.size_append]); omega)) ?_
  refine Dk 1 (by first | exact Jad (j:=1) rfl rfl tk32 | exact Jae (j:=1) rfl rfl (by rfl) tk32 | exact Jai rfl (by assumption) (by rfl) tk32 | exact Jaf (n:=8) (j:=1) rfl rfl rfl rfl tk32) ?_
  refine Dk 0 (by first | exact Jaa (j:=0) rfl rfl rfl tk30 | exact Jab rfl (by assumption) rfl tk30) ?_
  refine Dk 0 (Cb rfl rfl Jwf (fun u hu=>Jva r u (hr.st hu) hF (nth r.prs.l c.1).wh ((hr.prs.at hc1 (show c.1 < (r.prs.l.length:Int) by omega)).ext hu.below) hcd.1 (by omega))) ?_
  refine Dk 0 (Jaj rfl rfl (by (try simp only [ByteArray.size_append]); omega)) ?_
  refine Dk 1 (Jaj rfl rfl (by (try simp only [ByteArray.size_append]); omega)) ?_
  refine Dd (Qb (Qc (Ny 1 ?_)))
  refine Wk 1 Za ?_
  refine Wd ?_
  refine QS.sel [1] rfl ?_
  exact QS.head ((c.1+1,c.2++(⟨#[112,114,111,112,32]⟩:ByteArray)++(nth r.prs.l c.1).nm++p++catB (Jav ifW (Jaq r (nth r.prs.l c.1).wh.l))++(⟨#[10]⟩:ByteArray))) rfl rfl ⟨⟨by simp; omega,by simp; omega,by
     refine Eq.trans ?_ (Jbr hc1 (by omega)).symm
     rw [← hc3]
     rw [hp1]
     exact Jda (by simp [Jb2,Jfz,Jc1,Jc3,Jfm,Jiv])⟩,by simp; omega⟩
 have cn:c.1.toNat=r.prs.l.length:=by omega
 rw [cn,List.take_length] at hc3
 replace hc3:c.2=Jbc (pf3 r):=hc3
 refine Cv (Qe (Qe (Qx (Qc (Cs (Nz 1 ?_))))))
 refine Wd (Qc (Ce ?_))
 refine CS.loopM (σ:=Int × ByteArray) [13,111,112,113,114,115,116,117,118,119,120,121,122,123,124,125,126,127,128,129,130,131,132,133,134,135,136,137,138,139,140,141,142,143,144,145] (fun s=>[(12,.int .i64 s.1),(5,.string s.2)]) (fun _=>_) (fun s=>0≤s.1∧s.1≤r.wys.l.length∧s.2=Jbc (pf3 r++(r.wys.l.take s.1.toNat).map (wayF r))) (fun s=>(r.wys.l.length - s.1).toNat) (0,c.2) (fun _ _=>rfl) rfl rfl ⟨by simp,by simp,by show c.2=Jbc (_++[]); rw [List.append_nil]; exact hc3⟩ ?_
 intro d t hs
 obtain ⟨hd1,hd2,hd3⟩:=hs
 refine Cs (Nz 2 ?_)
 refine Wk 0 (by first | exact Jaa (j:=0) rfl rfl rfl tk26 | exact Jab rfl (by assumption) rfl tk26) ?_
 refine Wk 1 Nc ?_
 refine Wd (Qc (CS.cond rfl ?_ ?_))<;>intro hc6<;>try simp only [bq] at hc6
 ·
  obtain ⟨q_d,hq_d⟩:=fmt4 r
  have hzd:=Jci hF hq_d d.1.toNat
  rw [← hd3] at hzd
  have hwm:=Jak hd1 (show d.1 < (r.wys.l.length:Int) by omega)
  have hwr:=hF.rd.wys _ hwm
  have hwa:=hwr.2.1
  have hwb:=hwr.2.2
  have hcd:=Ja9 (hF.cwy _ hwm)
  have hpo:=(hr.wys.at hd1 (show d.1 < (r.wys.l.length:Int) by omega)).ext (Below.refl _ w)
  have hna:=Jbo (hF.pl _ hwa.1 hwa.2).1
  have hnb:=Jbo (hF.pl _ hwb.1 hwb.2).1
  have hif:=Jo9 hF hcd.1 hcd.2
  refine Ck (Qc (Cs (Ce (Nz 1 ?_))))
  refine Wk 1 (by first | exact Jaa (j:=0) rfl rfl rfl tk26 | exact Jab rfl (by assumption) rfl tk26) ?_
  refine Wk 0 Xc ?_
  refine Wk 0 Ua ?_
  refine Wl 0 zv69 (fun _=>rfl) (fun _=>rfl) fun b13 hb13=>?_
  refine Wv 0 0 ?_
  refine Wd (Qc (Dr mixed 1 ?_))
  refine Dk 1 (Jaj rfl rfl (by (try simp only [ByteArray.size_append]); omega)) ?_
  refine Dk 1 (by first | exact Jaa (j:=1) rfl rfl rfl tk23 | exact Jab rfl (by assumption) rfl tk23) ?_
  refine Dk 0 (by first | exact Jaa (j:=0) rfl rfl rfl tk3 | exact Jab rfl (by assumption) rfl tk3) ?_
  refine Dk 0 Xc ?_
  refine Dk 0 Ub ?_
  refine Dk 0 (Jaj rfl rfl (by (try simp only [ByteArray.size_append]); omega)) ?_
  refine Dk 1 (Jaj rfl rfl (by (try simp only [ByteArray.size_append]); omega)) ?_
  refine Dk 1 (by first | exact Jaa (j:=1) rfl rfl rfl tk23 | exact Jab rfl (by assumption) rfl tk23) ?_
  refine Dk 0 (by first | exact Jaa (j:=0) rfl rfl rfl tk3 | exact Jab rfl (by assumption) rfl tk3) ?_
  refine Dk 0 Xc ?_
  refine Dk 0 Ub ?_
  refine Dk 0 (Jaj rfl rfl (by (try simp only [ByteArray.size_append]); omega)) ?_
  refine Dk 1 (by first | exact Jad (j:=1) rfl rfl tk32 | exact Jae (j:=1) rfl rfl (by rfl) tk32 | exact Jai rfl (by assumption) (by rfl) tk32 | exact Jaf (n:=8) (j:=1) rfl rfl rfl rfl tk32) ?_
  refine Dk 0 (by first | exact Jaa (j:=0) rfl rfl rfl tk30 | exact Jab rfl (by assumption) rfl tk30) ?_
  refine Dk 0 (Cb rfl rfl Jwf (fun u hu=>Jva r u (hr.st hu) hF (nth r.wys.l d.1).wh ((hr.wys.at hd1 (show d.1 < (r.wys.l.length:Int) by omega)).ext hu.below) hcd.1 (by omega))) ?_
  refine Dk 0 (Jaj rfl rfl (by (try simp only [ByteArray.size_append]); omega)) ?_
  refine Dk 1 (Jaj rfl rfl (by (try simp only [ByteArray.size_append]); omega)) ?_
  refine Dd (Qb (Qc (Ny 1 ?_)))
  refine Wk 1 Za ?_
  refine Wd ?_
  refine QS.sel [1] rfl ?_
  exact QS.head ((d.1+1,d.2++(⟨#[119,97,121,32]⟩:ByteArray)++nth r.pls.l (nth r.wys.l d.1).a++(⟨#[32]⟩:ByteArray)++nth r.pls.l (nth r.wys.l d.1).b++catB (Jav ifW (Jaq r (nth r.wys.l d.1).wh.l))++(⟨#[10]⟩:ByteArray))) rfl rfl ⟨⟨by simp; omega,by simp; omega,by
     refine Eq.trans ?_ (Jbr hd1 (by omega)).symm
     rw [← hd3]
     exact Jda (by simp [Jb2,Jfz,Jc1,Jc3,wayF,Jnp])⟩,by simp; omega⟩
 have dn:d.1.toNat=r.wys.l.length:=by omega
 rw [dn,List.take_length] at hd3
 replace hd3:d.2=Jbc (pf4 r):=hd3
 refine Cv (Qe (Qe (Qx (Qc (Cs (Nz 1 ?_))))))
 refine Wd (Qc (Ce ?_))
 refine CS.loopM (σ:=Int × ByteArray) [15,16,146,147,148,149,150,151,152,153,154,155,156,157,158,159,160,161,162,163,164,165,166,167,168,169,170,171,172,173,174,175,176,177,178,179,180,181,182,183,184,185,186,187,188,189,190,191,192,193,194,195,196,197,198,199,200,201,202,203,204,205,206,207,208,209,210,211,212,213,214,215,216,217,218,219,220,221,222,223,224,225,226,227,228,229,230,231,232,233,234,235,236,237,238] (fun s=>[(14,.int .i64 s.1),(5,.string s.2)]) (fun _=>_) (fun s=>0≤s.1∧s.1≤r.acs.l.length∧s.2=Jbc (pf4 r++(r.acs.l.take s.1.toNat).map (actF r))) (fun s=>(r.acs.l.length - s.1).toNat) (0,d.2) (fun _ _=>rfl) rfl rfl ⟨by simp,by simp,by show d.2=Jbc (_++[]); rw [List.append_nil]; exact hd3⟩ ?_
 intro e t hs
 obtain ⟨he1,he2,he3⟩:=hs
 refine Cs (Nz 2 ?_)
 refine Wk 0 (by first | exact Jaa (j:=0) rfl rfl rfl tk27 | exact Jab rfl (by assumption) rfl tk27) ?_
 refine Wk 1 Nc ?_
 refine Wd (Qc (CS.cond rfl ?_ ?_))<;>intro hc7<;>try simp only [bq] at hc7
 ·
  obtain ⟨q_e,hq_e⟩:=fmt5 r
  have hze:=Jci hF hq_e e.1.toNat
  rw [← he3] at hze
  have ham:=Jak he1 (show e.1 < (r.acs.l.length:Int) by omega)
  have hA:=hF.rd.acs _ ham
  have hapl:=hA.pl
  obtain ⟨hnmA,hlk0,hlk1⟩:=hF.ac _ ham
  have hcd:=Ja9 (hF.cac _ ham)
  have hao:ActOk w (nth r.acs.l e.1):=hr.acs.at he1 (show e.1 < (r.acs.l.length:Int) by omega)
  have hlse:=hA.lse
  have hlus:=hA.lus
  have hlsp:=hA.lsp
  have hlbr:=hA.lbr
  have hse1:=hao.se
  have hnm:=Jbo hnmA
  have hpn:=Jbo (hF.pl _ hapl.1 hapl.2).1
  have hif:=Jo9 hF hcd.1 hcd.2
  have hdl:=Jc2 (n:=(nth r.acs.l e.1).lk) (by omega)
  have hus:=Jic hF (w:=Jfa) (by decide) hA.us hlus
  have hsp:=Jic hF (w:=Jb0) (by decide) hA.sp hlsp
  have hbr:=Jic hF (w:=Jbu) (by decide) hA.br hlbr
  refine Ck (Qc (Cs (Ce (Nz 1 ?_))))
  refine Wk 1 (by first | exact Jaa (j:=0) rfl rfl rfl tk27 | exact Jab rfl (by assumption) rfl tk27) ?_
  refine Wk 0 Xc ?_
  refine Wk 0 Ua ?_
  refine Wl 0 zv73 (fun _=>rfl) (fun _=>rfl) fun b15 hb15=>?_
  refine Wv 0 0 ?_
  refine Wd (Qc (Cs (Dr mixed 1 ?_)))
  refine Dk 1 (Jaj rfl rfl (by (try simp only [ByteArray.size_append]); omega)) ?_
  refine Dk 0 (by first | exact Jaa (j:=0) rfl rfl rfl tk9 | exact Jab rfl (by assumption) rfl tk9) ?_
  refine Dk 0 (Jaj rfl rfl (by (try simp only [ByteArray.size_append]); omega)) ?_
  refine Dk 1 (Jaj rfl rfl (by (try simp only [ByteArray.size_append]); omega)) ?_
  refine Dk 1 (by first | exact Jaa (j:=1) rfl rfl rfl tk23 | exact Jab rfl (by assumption) rfl tk23) ?_
  refine Dk 0 (by first | exact Jaa (j:=0) rfl rfl rfl tk3 | exact Jab rfl (by assumption) rfl tk3) ?_
  refine Dk 0 Xc ?_
  refine Dk 0 Ub ?_
  refine Dk 1 (Jaj rfl rfl (by (try simp only [ByteArray.size_append]); omega)) ?_
  refine Dd (Qc ?_)
  refine CS.cut (σ:=ByteArray) [171,172,173,174,175,176,177,178,179] (fun s=>[(5,.string s)]) (fun s=>[blk b15 (cAct.cells (nth r.acs.l e.1)) 73,blk b1 (Room.cells r) 32]) (fun s=>s=e.2++Jk1++catB ([(nth r.acs.l e.1).nm,atW,nth r.pls.l (nth r.acs.l e.1).pl]++Jfl (nth r.acs.l e.1).lk)∧s.size≤50000) (fun _ _=>rfl) ?_ ?_
  ·
   refine Nz 1 ?_
   refine Wk 1 (by first | exact Jaa (j:=0) rfl rfl rfl tk3 | exact Jab rfl (by assumption) rfl tk3) ?_
   refine Wd (Qc (CS.cond rfl ?_ ?_))<;>intro hc8<;>try simp only [bq] at hc8
   ·
    refine Ny 1 ?_
    refine Wk 1 (Jaj rfl rfl (by (try simp only [ByteArray.size_append]); omega)) ?_
    refine Wk 0 (by first | exact Jaa (j:=0) rfl rfl rfl tk3 | exact Jab rfl (by assumption) rfl tk3) ?_
    refine Wk 0 (Cb rfl rfl Jnk (fun u hu=>Jdk _ u ⟨by omega,by omega⟩)) ?_
    refine Wk 1 (Jaj rfl rfl (by (try simp only [ByteArray.size_append]); omega)) ?_
    exact Wd (QS.head ((e.2++(⟨#[97,99,116,32]⟩:ByteArray)++(nth r.acs.l e.1).nm++(⟨#[32,97,116,32]⟩:ByteArray)++nth r.pls.l (nth r.acs.l e.1).pl++(⟨#[32,108,111,99,107,32]⟩:ByteArray)++digB (nth r.acs.l e.1).lk)) rfl rfl ⟨by rw [Jfl,if_pos (by omega)]; exact Jda (by simp [Jb2,Jfz,Jc1,Jc3,Jk1,atW,Ji8]),by simp only [ByteArray.size_append]; omega⟩)
   exact Ck (QS.head ((e.2++(⟨#[97,99,116,32]⟩:ByteArray)++(nth r.acs.l e.1).nm++(⟨#[32,97,116,32]⟩:ByteArray)++nth r.pls.l (nth r.acs.l e.1).pl)) rfl rfl ⟨by rw [Jfl,if_neg (by omega)]; exact Jda (by simp [Jb2,Jfz,Jc1,Jc3,Jk1,atW]),by simp only [ByteArray.size_append]; omega⟩)
  intro x1 t hs
  obtain ⟨hx1,hx2⟩:=hs
  refine Cs (Dr mixed 1 ?_)
  refine Dk 1 (by first | exact Jad (j:=1) rfl rfl tk32 | exact Jae (j:=1) rfl rfl (by rfl) tk32 | exact Jai rfl (by assumption) (by rfl) tk32 | exact Jaf (n:=8) (j:=1) rfl rfl rfl rfl tk32) ?_
  refine Dk 0 (by first | exact Jaa (j:=0) rfl rfl rfl tk43 | exact Jab rfl (by assumption) rfl tk43) ?_
  refine Dk 0 (Cb rfl rfl Jzw (fun u hu=>Ji0 r u (hr.st hu) hF Jfa (by decide) (nth r.acs.l e.1).us (hao.us.ext hu.below) hA.us (by omega))) ?_
  refine Dk 0 (Jaj rfl rfl (by (try simp only [ByteArray.size_append]); omega)) ?_
  refine Dk 1 (by first | exact Jad (j:=1) rfl rfl tk32 | exact Jae (j:=1) rfl rfl (by rfl) tk32 | exact Jai rfl (by assumption) (by rfl) tk32 | exact Jaf (n:=8) (j:=1) rfl rfl rfl rfl tk32) ?_
  refine Dk 0 (by first | exact Jaa (j:=0) rfl rfl rfl tk30 | exact Jab rfl (by assumption) rfl tk30) ?_
  refine Dk 0 (Cb rfl rfl Jwf (fun u hu=>Jva r u (hr.st hu) hF (nth r.acs.l e.1).wh (hao.wh.ext hu.below) hcd.1 (by omega))) ?_
  refine Dk 1 (Jaj rfl rfl (by (try simp only [ByteArray.size_append]); omega)) ?_
  refine Dd (Qc ?_)
  refine CS.cut (σ:=ByteArray) [191,192,193,194,195,196] (fun s=>[(5,.string s)]) (fun s=>[blk b15 (cAct.cells (nth r.acs.l e.1)) 73,blk b1 (Room.cells r) 32]) (fun s=>s++catB (Jaq r (Jb1 (nth r.acs.l e.1).se.l))=x1++catB (Jav Jfa (Ja0 r (nth r.acs.l e.1).us.l))++catB (Jav ifW (Jaq r (nth r.acs.l e.1).wh.l))++catB (Jav Jc6 (Jaq r (Jb1 (nth r.acs.l e.1).se.l)))∧s.size≤60000) (fun _ _=>rfl) ?_ ?_
  ·
   refine Nz 1 ?_
   refine Wk 0 (by first | exact Jaa (j:=0) rfl rfl rfl tk71 | exact Jab rfl (by assumption) rfl tk71) ?_
   refine Wk 1 Nc ?_
   refine Wd (Qc (CS.cond rfl ?_ ?_))<;>intro hc9<;>try simp only [bq] at hc9
   ·
    refine Ny 1 ?_
    refine Wk 1 (Jaj rfl rfl (by (try simp only [ByteArray.size_append]); omega)) ?_
    exact Wd (QS.head ((x1++catB (Jav Jfa (Ja0 r (nth r.acs.l e.1).us.l))++catB (Jav ifW (Jaq r (nth r.acs.l e.1).wh.l))++(⟨#[32,115,101,116,115]⟩:ByteArray))) rfl rfl ⟨by rw [Jkc (w:=Jc6) (l:=Jaq r (Jb1 (nth r.acs.l e.1).se.l)) (by rw [Jbf,Jb1,List.length_map]; omega)]; exact Jda (by simp [Jb2,Jfz,Jc1,Jc3,Jc6]),by simp only [ByteArray.size_append]; omega⟩)
   refine Ck ?_
   exact QS.head ((x1++catB (Jav Jfa (Ja0 r (nth r.acs.l e.1).us.l))++catB (Jav ifW (Jaq r (nth r.acs.l e.1).wh.l)))) rfl rfl ⟨by
      have h0:(Jaq r (Jb1 (nth r.acs.l e.1).se.l)).length=0:=by rw [Jbf,Jb1,List.length_map]; omega
      rw [Jse h0,List.eq_nil_of_length_eq_zero h0]; rfl,by simp only [ByteArray.size_append]; omega⟩
  intro x2 t hs
  obtain ⟨hy1,hy2⟩:=hs
  refine Cs (Nz 1 ?_)
  refine Wd (Qc (Ce ?_))
  refine CS.loopM (σ:=Int × ByteArray) [197,198,199,200,201,202,203,204,205,206,207,208,209,210,211,212,213,214,215,216,217,218,219,220,221,222,223,224,225,226] (fun s=>[(16,.int .i64 s.1),(5,.string s.2)]) (fun _=>_) (fun s=>0≤s.1∧s.1≤(nth r.acs.l e.1).se.l.length∧s.2=x2++catB (Jaq r (Jb1 ((nth r.acs.l e.1).se.l.take s.1.toNat)))∧(s.2.size:Int)≤70000+100 * s.1) (fun s=>((nth r.acs.l e.1).se.l.length - s.1).toNat) (0,x2) (fun _ _=>rfl) rfl rfl ⟨by simp,by simp,Jda (by simp [Jb2,Jc3,Jb1,Jaq]),by simp only; omega⟩ ?_
  intro f t hs
  obtain ⟨hf1,hf2,hf3,hf4⟩:=hs
  refine Cs (Nz 2 ?_)
  refine Wk 0 (by first | exact Jaa (j:=0) rfl rfl rfl tk71 | exact Jab rfl (by assumption) rfl tk71) ?_
  refine Wk 1 Nc ?_
  refine Wd (Qc (CS.cond rfl ?_ ?_))<;>intro hc10<;>try simp only [bq] at hc10
  ·
   have hsx:=hao.se.at hf1 (show f.1 < ((nth r.acs.l e.1).se.l.length:Int) by omega)
   obtain ⟨hp0,hp1,hp2,hp3⟩:=Jj6 hF (hA.se _ (Jak hf1 (show f.1 < ((nth r.acs.l e.1).se.l.length:Int) by omega)))
   have hnt:=Jbo (hF.th _ hp0 hp1).1
   have hds:=Jc2 (n:=(nth (nth r.acs.l e.1).se.l f.1).s) (by omega)
   refine Ck (Qc (Cs (Ce (Dr mixed 1 ?_))))
   refine Dk 1 (Jaj rfl rfl (by (try simp only [ByteArray.size_append]); omega)) ?_
   refine Dk 1 (by first | exact Jaa (j:=1) rfl rfl rfl tk24 | exact Jab rfl (by assumption) rfl tk24) ?_
   refine Dk 1 (by first | exact Jaa (j:=0) rfl rfl rfl tk71 | exact Jab rfl (by assumption) rfl tk71) ?_
   refine Dk 1 Xc ?_
   refine Dk 0 (Uc 2 0) ?_
   refine Dk 1 Xc ?_
   refine Dk 0 (Uc 4 0) ?_
   refine Dk 0 (Jaj rfl rfl (by (try simp only [ByteArray.size_append]); omega)) ?_
   refine Dk 1 (Jaj rfl rfl (by (try simp only [ByteArray.size_append]); omega)) ?_
   refine Dk 1 (by first | exact Jaa (j:=0) rfl rfl rfl tk71 | exact Jab rfl (by assumption) rfl tk71) ?_
   refine Dk 1 Xc ?_
   refine Dk 0 (Uc 2 1) ?_
   refine Dk 0 (Cb rfl rfl Jnk (fun u hu=>Jdk _ u ⟨by omega,by omega⟩)) ?_
   refine Dk 1 (Jaj rfl rfl (by (try simp only [ByteArray.size_append]); omega)) ?_
   refine Dd (Qb (Qc (Ny 1 ?_)))
   refine Wk 1 Za ?_
   refine Wd ?_
   exact QS.head ((f.1+1,f.2++(⟨#[32]⟩:ByteArray)++(nth r.ths.l (nth (nth r.acs.l e.1).se.l f.1).t).nm++(⟨#[61]⟩:ByteArray)++digB (nth (nth r.acs.l e.1).se.l f.1).s)) rfl rfl ⟨⟨by simp; omega,by simp; omega,by
      show _=x2++catB (Jaq r (Jb1 ((nth r.acs.l e.1).se.l.take (f.1+1).toNat)))
      rw [Jcs (nth r.acs.l e.1).se.l hf1 (by omega),hf3]
      exact Jda (by simp [Jb2,Jfz,Jc3,Jb1,Jaq,litF,sgnB]),by simp only [ByteArray.size_append]; omega⟩,by simp; omega⟩
  have hfn:f.1.toNat=(nth r.acs.l e.1).se.l.length:=by omega
  rw [hfn,List.take_length] at hf3
  refine Cv (Qe (Qe (Qx (Qc (Dr mixed 1 ?_)))))
  refine Dk 1 (by first | exact Jad (j:=1) rfl rfl tk32 | exact Jae (j:=1) rfl rfl (by rfl) tk32 | exact Jai rfl (by assumption) (by rfl) tk32 | exact Jaf (n:=8) (j:=1) rfl rfl rfl rfl tk32) ?_
  refine Dk 0 (by first | exact Jaa (j:=0) rfl rfl rfl tk43 | exact Jab rfl (by assumption) rfl tk43) ?_
  refine Dk 0 (Cb rfl rfl Jzw (fun u hu=>Ji0 r u (hr.st hu) hF Jb0 (by decide) (nth r.acs.l e.1).sp (hao.sp.ext hu.below) hA.sp (by omega))) ?_
  refine Dk 0 (Jaj rfl rfl (by (try simp only [ByteArray.size_append]); omega)) ?_
  refine Dk 1 (by first | exact Jad (j:=1) rfl rfl tk32 | exact Jae (j:=1) rfl rfl (by rfl) tk32 | exact Jai rfl (by assumption) (by rfl) tk32 | exact Jaf (n:=8) (j:=1) rfl rfl rfl rfl tk32) ?_
  refine Dk 0 (by first | exact Jaa (j:=0) rfl rfl rfl tk43 | exact Jab rfl (by assumption) rfl tk43) ?_
  refine Dk 0 (Cb rfl rfl Jzw (fun u hu=>Ji0 r u (hr.st hu) hF Jbu (by decide) (nth r.acs.l e.1).br (hao.br.ext hu.below) hA.br (by omega))) ?_
  refine Dk 0 (Jaj rfl rfl (by (try simp only [ByteArray.size_append]); omega)) ?_
  refine Dk 1 (Jaj rfl rfl (by (try simp only [ByteArray.size_append]); omega)) ?_
  refine Dd (Qb (Qc (Ny 1 ?_)))
  refine Wk 1 Za ?_
  refine Wd ?_
  refine QS.sel [1] rfl ?_
  exact QS.head ((e.1+1,f.2++catB (Jav Jb0 (Ja0 r (nth r.acs.l e.1).sp.l))++catB (Jav Jbu (Ja0 r (nth r.acs.l e.1).br.l))++(⟨#[10]⟩:ByteArray))) rfl rfl ⟨⟨by simp; omega,by simp; omega,by
     refine Eq.trans ?_ (Jbr he1 (by omega)).symm
     rw [← he3]
     rw [hf3,hy1,hx1]
     exact Jda (by simp [Jb2,Jfz,Jc1,Jc3,actF])⟩,by simp; omega⟩
 have en:e.1.toNat=r.acs.l.length:=by omega
 rw [en,List.take_length] at he3
 replace he3:e.2=Jbc (pf5 r):=he3
 refine Cv (Qe (Qe (Qx (Qc (Cs (Nz 1 ?_))))))
 refine Wd (Qc (Ce ?_))
 refine CS.loopM (σ:=Int × ByteArray) [18,239,240,241,242,243,244,245,246,247,248,249,250,251,252,253,254,255,256,257,258,259,260,261,262,263,264,265,266,267,268,269,270,271,272,273] (fun s=>[(17,.int .i64 s.1),(5,.string s.2)]) (fun _=>_) (fun s=>0≤s.1∧s.1≤r.aus.l.length∧s.2=Jbc (pf5 r++(r.aus.l.take s.1.toNat).map (Jen r))) (fun s=>(r.aus.l.length - s.1).toNat) (0,e.2) (fun _ _=>rfl) rfl rfl ⟨by simp,by simp,by show e.2=Jbc (_++[]); rw [List.append_nil]; exact he3⟩ ?_
 intro k t hs
 obtain ⟨hk1,hk2,hk3⟩:=hs
 refine Cs (Nz 2 ?_)
 refine Wk 0 (by first | exact Jaa (j:=0) rfl rfl rfl tk28 | exact Jab rfl (by assumption) rfl tk28) ?_
 refine Wk 1 Nc ?_
 refine Wd (Qc (CS.cond rfl ?_ ?_))<;>intro hc11<;>try simp only [bq] at hc11
 ·
  obtain ⟨q_k,hq_k⟩:=fmt6 r
  have hzk:=Jci hF hq_k k.1.toNat
  rw [← hk3] at hzk
  have hum:=Jak hk1 (show k.1 < (r.aus.l.length:Int) by omega)
  have hcd:=Ja9 (hF.cau _ hum)
  have hpo:=(hr.aus.at hk1 (show k.1 < (r.aus.l.length:Int) by omega)).ext (Below.refl _ w)
  obtain ⟨hp0,hp1,hp2,hp3⟩:=Jj6 hF (hF.rd.aut _ hum)
  have hnt:=Jbo (hF.th _ hp0 hp1).1
  have hds:=Jc2 (n:=(nth r.aus.l k.1).s) (by omega)
  have hif:=Jo9 hF hcd.1 hcd.2
  refine Ck (Qc (Cs (Ce (Nz 1 ?_))))
  refine Wk 1 (by first | exact Jaa (j:=0) rfl rfl rfl tk28 | exact Jab rfl (by assumption) rfl tk28) ?_
  refine Wk 0 Xc ?_
  refine Wk 0 Ua ?_
  refine Wl 0 zv77 (fun _=>rfl) (fun _=>rfl) fun b18 hb18=>?_
  refine Wv 0 0 ?_
  refine Wd (Qc (Dr mixed 1 ?_))
  refine Dk 1 (Jaj rfl rfl (by (try simp only [ByteArray.size_append]); omega)) ?_
  refine Dk 2 (by first | exact Jaa (j:=1) rfl rfl rfl tk24 | exact Jab rfl (by assumption) rfl tk24) ?_
  refine Dk 0 (by first | exact Jaa (j:=0) rfl rfl rfl tk3 | exact Jab rfl (by assumption) rfl tk3) ?_
  refine Dk 1 Xc ?_
  refine Dk 0 (Uc 4 0) ?_
  refine Dk 0 (Jaj rfl rfl (by (try simp only [ByteArray.size_append]); omega)) ?_
  refine Dk 2 (Jaj rfl rfl (by (try simp only [ByteArray.size_append]); omega)) ?_
  refine Dk 0 (by first | exact Jaa (j:=0) rfl rfl rfl tk3 | exact Jab rfl (by assumption) rfl tk3) ?_
  refine Dk 0 (Cb rfl rfl Jnk (fun u hu=>Jdk _ u ⟨by omega,by omega⟩)) ?_
  refine Dk 0 (Jaj rfl rfl (by (try simp only [ByteArray.size_append]); omega)) ?_
  refine Dk 1 (by first | exact Jad (j:=1) rfl rfl tk32 | exact Jae (j:=1) rfl rfl (by rfl) tk32 | exact Jai rfl (by assumption) (by rfl) tk32 | exact Jaf (n:=8) (j:=1) rfl rfl rfl rfl tk32) ?_
  refine Dk 0 (by first | exact Jaa (j:=0) rfl rfl rfl tk30 | exact Jab rfl (by assumption) rfl tk30) ?_
  refine Dk 0 (Cb rfl rfl Jwf (fun u hu=>Jva r u (hr.st hu) hF (nth r.aus.l k.1).wh ((hr.aus.at hk1 (show k.1 < (r.aus.l.length:Int) by omega)).ext hu.below) hcd.1 (by omega))) ?_
  refine Dk 0 (Jaj rfl rfl (by (try simp only [ByteArray.size_append]); omega)) ?_
  refine Dk 1 (Jaj rfl rfl (by (try simp only [ByteArray.size_append]); omega)) ?_
  refine Dd (Qb (Qc (Ny 1 ?_)))
  refine Wk 1 Za ?_
  refine Wd ?_
  refine QS.sel [1] rfl ?_
  exact QS.head ((k.1+1,k.2++(⟨#[97,117,116,111,32]⟩:ByteArray)++(nth r.ths.l (nth r.aus.l k.1).t).nm++(⟨#[61]⟩:ByteArray)++digB (nth r.aus.l k.1).s++catB (Jav ifW (Jaq r (nth r.aus.l k.1).wh.l))++(⟨#[10]⟩:ByteArray))) rfl rfl ⟨⟨by simp; omega,by simp; omega,by
     refine Eq.trans ?_ (Jbr hk1 (by omega)).symm
     rw [← hk3]
     exact Jda (by simp [Jb2,Jfz,Jc1,Jc3,Jen,Jfr,Jaq,litF,sgnB])⟩,by simp; omega⟩
 have kn:k.1.toNat=r.aus.l.length:=by omega
 rw [kn,List.take_length] at hk3
 replace hk3:k.2=Jbc (pf6 r):=hk3
 have hzk:=Jpi hF (Jfq r)
 rw [← hk3] at hzk
 have hcg:=Ja9 hF.cgl
 have hgz:=Jou hF hcg.1 hcg.2
 have hds:=Jc2 (n:=r.ply) (by omega)
 refine Cv (Qe (Qe (Qx (Qc (Cs (Dr mixed 1 ?_))))))
 refine Dk 1 (Jaj rfl rfl (by (try simp only [ByteArray.size_append]); omega)) ?_
 refine Dk 0 (by first | exact Jaa (j:=0) rfl rfl rfl tk3 | exact Jab rfl (by assumption) rfl tk3) ?_
 refine Dk 0 (Cb rfl rfl Jnk (fun u hu=>Jdk _ u ⟨by omega,by omega⟩)) ?_
 refine Dk 0 (Jaj rfl rfl (by (try simp only [ByteArray.size_append]); omega)) ?_
 refine Dk 0 (Jaj rfl rfl (by (try simp only [ByteArray.size_append]); omega)) ?_
 refine Dk 0 (Jaj rfl rfl (by (try simp only [ByteArray.size_append]); omega)) ?_
 refine Dk 1 (by first | exact Jad (j:=0) rfl rfl tk32 | exact Jae (j:=0) rfl rfl (by rfl) tk32 | exact Jai rfl (by assumption) (by rfl) tk32 | exact Jaf (n:=8) (j:=0) rfl rfl rfl rfl tk32) ?_
 refine Dk 0 (by first | exact Jaa (j:=0) rfl rfl rfl tk30 | exact Jab rfl (by assumption) rfl tk30) ?_
 refine Dk 0 (Cb rfl rfl J2z (fun u hu=>Jt4 r u (hr.st hu) hF r.gl (hr.gl.ext hu.below) hcg.1 (by omega))) ?_
 refine Dk 0 (Jaj rfl rfl (by (try simp only [ByteArray.size_append]); omega)) ?_
 refine Dk 2 (Jaj rfl rfl (by (try simp only [ByteArray.size_append]); omega)) ?_
 exact Dd (Qc (Cr (out2 rfl rfl rfl (Jah (by unfold Jbi; rw [if_pos hE,Jpp, ← hk3]; exact congrArg (fun t=>Value.tuple #[.string t,.int .i64 0]) (Jda (by simp [Jb2,Jfz,Jc1,Jc3,Jcg,Jem])))))))
end Go.Proofs.YtkekjhcmephhjaaGreatDoor
