/- Merged texts of this proof (walks and plain laws), printed by a program of the prover. -/
import Derived.Test.YtkekjhcmephhjaaGreatDoorZn
import Derived.Test.YtkekjhcmephhjaaGreatDoorZb
import Derived.Test.YtkekjhcmephhjaaGreatDoorZc
import Derived.Test.YtkekjhcmephhjaaGreatDoorZd
import Derived.Test.YtkekjhcmephhjaaGreatDoorZe
set_option maxHeartbeats 8000000
namespace Go.Proofs.YtkekjhcmephhjaaGreatDoor
open Go.RowKit Go.Proofs
set_option maxRecDepth 100000
set_option linter.unusedVariables false
set_option linter.unusedSimpArgs false
theorem J0f (r:Room) (w:World) (hr:RoomOk w r) (g:Sl ByteArray) (hG:GOk w g) (hn:Near r) (z:Stt) (hz:SttOk w z) (m:Move) :
  Calls Tryz.prog 16 #[.agg #[r.pls.v,r.ths.v,r.prs.v,r.wys.v,r.acs.v,r.aus.v,.int .i64 r.ply,r.gl.v],.agg #[z.ths.v,z.prs.v,z.pls.v],.agg #[.int .i64 m.p,.int .i64 m.k,.int .i64 m.n]] w (RetS w (StepV r z.x m).2 fun v=>.tuple #[v,.int .i64 (StepV r z.x m).1]):=by
 refine enter Tryz.func16 rfl rfl (Nat.le_of_ble_eq_true rfl) ?_
 refine Nz 0 ?_
 refine Wb 0 rfl rfl (fun _=>rfl) (fun _=>rfl) fun b3 hb3=>?_
 refine Wb 0 rfl rfl (fun _=>rfl) (fun _=>rfl) fun b4 hb4=>?_
 refine Wb 0 rfl rfl (fun _=>rfl) (fun _=>rfl) fun b5 hb5=>?_
 refine Wl 1 zv45 (fun _=>rfl) (fun _=>rfl) fun b6 hb6=>?_
 refine Wd (Qc (Cs (Nz 0 ?_)))
 refine Wk 0 (Bb 3) ?_
 refine Wk 0 (Bb 2) ?_
 refine Wk 1 (Cb rfl rfl J1h (fun u hu=>Jgd r u (hr.st hu) g (hG.st hu) hn z (hz.st hu))) ?_
 refine Wd (Qc (Nz 2 ?_))
 refine Wd (Qc (CS.cond rfl ?_ ?_))<;>intro hc1<;>try simp only [bq] at hc1
 ·
  have hS:¬ stL r z.x=0:=hc1
  refine Nz 0 ?_
  refine Wk 1 (Db Jq5 zv45) ?_
  refine Wv 1 0 ?_
  refine Wd (Qc (Cr (Qr ?_)))
  exact outR (Jis rfl (Jbl (j:=0) rfl rfl tk45) rfl) (by
    have hv:StepV r z.x m=(stL r z.x,no3):=if_neg hS
    rw [hv]
    exact fun u hu=>Js8 (f:=fun v=>.tuple #[v,.int .i64 (stL r z.x)]) hu)
 have hc1:Jlf r z=0:=hc1
 have hc1:stL r z.x=0:=hc1
 have hS:stL r z.x=0:=by omega
 obtain ⟨hC,hI⟩:=Joy.1 hS
 have hR:=Jfd hC
 have hlen:=hR.lens
 have hply:=hR.ply
 have hlt:z.ths.l.length=r.ths.l.length:=hI.lt
 have hlp:z.prs.l.length=r.prs.l.length:=hI.lp
 have hll:(z.pls.l.length:Int)=r.ply:=hI.ll
 refine Ck (Qc (Nz 0 ?_))
 refine Wk 0 (Bb 3) ?_
 refine Wk 0 (Bb 2) ?_
 refine Wc rfl rfl Jw9 (fun u hu=>Jvv r u (hr.st hu) z (hz.st hu) (hI.small hR)) (fun _=>rfl) ?_; rintro ⟨tb,va,vb,vc⟩ ⟨hva,hvb,hvc⟩
 refine WS.unpack ?_
 refine Wz 1 ?_
 refine Wd (Qc (Cs (Nz 1 ?_)))
 refine Wk 0 (Bb 5) ?_
 refine Wk 1 (Cb rfl rfl J2o (fun u hu=>Jo5 tb r ⟨⟨va,z.ths.l⟩,⟨vb,z.prs.l⟩,⟨vc,z.pls.l⟩⟩ u ⟨Ja6 hu (j:=0) rfl,hr.st hu,(Ja8 hu (j:=1) rfl).tree,(Ja8 hu (j:=2) rfl).tree,(Ja8 hu (j:=3) rfl).tree⟩ hR hI m)) ?_
 refine Wd (Qc (CS.cond rfl ?_ ?_))<;>intro hc2<;>try simp only [bq] at hc2
 ·
  refine Nz 0 ?_
  refine Wk 0 (Db Jq5 zv45) ?_
  refine Wv 1 4 ?_
  refine Wd (Qc (Cr (Qr ?_)))
  exact outR (Jis rfl (Jbl (j:=4) rfl rfl tk45) rfl) (by
    have hv:StepV r z.x m=(29,no3):=(if_pos hS).trans (if_neg (by rw [show legalB r z.x m=false from hc2]; decide))
    rw [hv]
    exact fun u hu=>Js8 (f:=fun v=>.tuple #[v,.int .i64 (29)]) hu)
 refine Ck (Qc (Nz 1 ?_))
 refine Wk 0 (Bb 5) ?_
 refine WS.callS rfl rfl J4f (fun u hu=>Jwe [] _ r hr hR tb va vb vc z.x hI m hc2 hu) (fun _=>rfl) ?_; rintro _ _
 refine Wd (Qc (Cs ?_))
 rcases Bool.eq_false_or_eq_true ((settleN r.aus.l 101 (moveX r z.x m).1).isSome) with hb | hb
 ·
  refine Ny 1 ?_
  refine WS.callS rfl rfl Jw7 (fun u hu=>Jek [] _ r hr tb va vb vc hva hvb hvc (moveX r z.x m).1 (moveX r z.x m).2.1 (moveX r z.x m).2.2 (by rw [Jmp.1]; exact hI.autos hR) hb hu) (fun _=>rfl) ?_; rintro o ⟨ho,hol⟩
  refine Wz 2 ?_
  refine Wv 1 4 ?_
  refine Wd (Qc (Cr ?_))
  exact outR (Jis rfl (Jbl (j:=4) rfl rfl tk45) rfl) (by
    have hv:StepV r z.x m=(0,(o,(moveX r z.x m).2.1,(moveX r z.x m).2.2)):=(if_pos hS).trans ((if_pos hc2).trans (by rw [Jmc (r:=r) (x:=moveX r z.x m) hb ho]; rfl))
    rw [hv]
    exact fun u hu=>retS (f:=fun v=>.tuple #[v,.int .i64 0]) (is:=[1,1,1]) rfl hu)
 refine Ny 1 ?_
 refine WS.callS rfl rfl Jw7 (fun u hu=>Jek [] _ r hr tb va vb vc hva hvb hvc (moveX r z.x m).1 (moveX r z.x m).2.1 (moveX r z.x m).2.2 (by rw [Jmp.1]; exact hI.autos hR) hb hu) (fun _=>rfl) ?_; rintro o ⟨ho,hol⟩
 refine Wz 2 ?_
 refine Wv 1 4 ?_
 refine Wd (Qc (Cr ?_))
 exact outR (Jis rfl (Jbl (j:=4) rfl rfl tk45) rfl) (by
   have hv:StepV r z.x m=(27,no3):=(if_pos hS).trans ((if_pos hc2).trans (by rw [Jmu (r:=r) (x:=moveX r z.x m) hb]; rfl))
   rw [hv]
   exact fun u hu=>Js8 (f:=fun v=>.tuple #[v,.int .i64 (27)]) hu)
def mvV (x:Move):Value:=.agg #[.int .i64 x.p,.int .i64 x.k,.int .i64 x.n]
theorem Jw6 (r:Room) (w:World) (hr:RoomOk w r) (hR:Ready r) (b:Nat) :
  Iter Tryz.prog w 119 [.pointer (some ⟨b,0,none⟩)] [blk b [r.pls.v,r.ths.v,r.prs.v,r.wys.v,r.acs.v,r.aus.v,.int .i64 r.ply,r.gl.v] 32] (fun v x=>fact (v=mvV x)) (allM r r.ply.toNat):=by
 intro lp C Cx hy u hu
 have kpl:=hr.pls
 have lpl:=hr.pls.le
 have kth:=hr.ths
 have lth:=hr.ths.le
 have kpr:=hr.prs
 have lpr:=hr.prs.le
 have kwy:=hr.wys
 have lwy:=hr.wys.le
 have kac:=hr.acs
 have lac:=hr.acs.le
 have kau:=hr.aus
 have lau:=hr.aus.le
 have kgl:=hr.gl
 have lgl:=hr.gl.le
 have hply:=hR.ply
 have hlen:=hR.lens
 have hc5:(cntL r).length=5:=rfl
 refine Jdd hu Tryz.func119 rfl rfl (Nat.le_of_ble_eq_true rfl) ?_
 refine Nz 1 ?_
 refine Wk 1 (Ba 1) ?_
 refine Wd (Qc (Ce ?_))
 refine CS.loopM (σ:=Int) [3,4,5,6,10,11,12,13,14,15,16,17,18,19,20,21,22,23,24,25,26,27,28,29,30,31,32,33,34,35,36,37,38,39,40,41,42,43,44] (fun s=>[(9,.int .i64 s)]) (fun s=>[C (upM r s 0 0),blk b [r.pls.v,r.ths.v,r.prs.v,r.wys.v,r.acs.v,r.aus.v,.int .i64 r.ply,r.gl.v] 32]) (fun s=>0≤s∧s≤r.ply) (fun s=>(r.ply - s).toNat) 0 (fun _ _=>rfl) rfl rfl ⟨by omega,by omega⟩ ?_
 intro p t hs
 obtain ⟨hp1,hp2⟩:=hs
 refine Nz 1 ?_
 refine Wd (Qc (Cs (CS.cond rfl ?_ ?_)))<;>intro hc1<;>try simp only [bq] at hc1
 ·
  refine Ck (Qc (Cs (Ce (Nz 2 ?_))))
  refine Wd (Qc (Nz 1 ?_))
  refine Wk 0 (Ba 1) ?_
  refine Wk 1 Nc ?_
  refine Wk 0 (Ba 1) ?_
  refine Wk 1 Nc ?_
  refine Wk 0 (Ba 1) ?_
  refine Wk 1 Nc ?_
  refine Wk 0 (Ba 1) ?_
  refine Wk 0 Nc ?_
  refine WS.buildHole sl43 zv3 rfl rfl rfl rfl (fun _=>rfl) ?_; intro v24
  refine Wk 1 (Jt6 (xs:=cntL r) (j:=0) sl43 rfl rfl) ?_
  refine Wd (Qc (Ce ?_))
  refine CS.sel [1,0,0] rfl ?_
  refine CS.loopM (σ:=Int) [4,5,6,27,28,29,30,31,32,33,34,35,36,37,38,39,40,41,42,43] (fun s=>[(26,.int .i64 s)]) (fun s=>[C (upM r p s 0),oints 3 v24 (cntL r),blk b [r.pls.v,r.ths.v,r.prs.v,r.wys.v,r.acs.v,r.aus.v,.int .i64 r.ply,r.gl.v] 32]) (fun s=>0≤s∧s≤5) (fun s=>(5 - s).toNat) 0 (fun _ _=>rfl) rfl rfl ⟨by omega,by omega⟩ ?_
  intro k t hs
  obtain ⟨hk1,hk2⟩:=hs
  refine Nz 1 ?_
  refine Wd (Qc (Cs (CS.cond rfl ?_ ?_)))<;>intro hc2<;>try simp only [bq] at hc2
  ·
   have hca:=Jua r hk1 (by omega)
   have hcm:0≤nth (cntL r) k∧nth (cntL r) k≤24:=by
      have hbig:(cntM r k.toNat:Int)≤24:=by
       rcases (show k=0∨k=1∨k=2∨k=3∨k=4 by omega) with h | h | h | h | h <;> subst h <;> simp [cntM] <;> omega
      omega
   refine Ck (Qc (Cs (Ce (Nz 1 ?_))))
   refine Wk 0 (Xb 1) ?_
   refine Wk 2 (Ib 1) ?_
   refine Wd (Qc (Nz 2 ?_))
   refine Wd (Qc (Ce ?_))
   refine CS.loopM (σ:=Int) [6,33,34,35,36,37,38,39,40,41,42] (fun s=>[(32,.int .i64 s)]) (fun s=>[C (upM r p k s),oints 3 v24 (cntL r),blk b [r.pls.v,r.ths.v,r.prs.v,r.wys.v,r.acs.v,r.aus.v,.int .i64 r.ply,r.gl.v] 32]) (fun s=>0≤s∧s≤nth (cntL r) k) (fun s=>(nth (cntL r) k - s).toNat) 0 (fun _ _=>rfl) rfl rfl ⟨by omega,by omega⟩ ?_
   intro n t hs
   obtain ⟨hn1,hn2⟩:=hs
   refine Nz 1 ?_
   refine Wd (Qc (Cs (CS.cond rfl ?_ ?_)))<;>intro hc3<;>try simp only [bq] at hc3
   ·
    obtain ⟨post,hspl⟩:=Jsl (r:=r) (p:=p) (j:=k) (n:=n) ⟨hp1,by omega⟩ ⟨hk1,by omega⟩ ⟨hn1,by omega⟩
    refine Ck (Qc (Cs (Ce (Nz 2 ?_))))
    refine Wd (Qc (Nz 4 ?_))
    refine Wk 0 (Db J05 zv50) ?_
    refine WS.yield (L':=fun b'=>[cond b' (C (upM r p k n++[(⟨p,k,n⟩:Move)])) (Cx (upM r p k n++[(⟨p,k,n⟩:Move)])),oints 3 v24 (cntL r),blk b [r.pls.v,r.ths.v,r.prs.v,r.wys.v,r.acs.v,r.aus.v,.int .i64 r.ply,r.gl.v] 32]) rfl rfl rfl (fun u hu=>(Jnw (B:=fact (mvV ⟨p,k,n⟩=mvV ⟨p,k,n⟩)) (fun F' u' hu'=>hy _ _ _ hspl F' _ u' hu') (hu.factI rfl)).mono (fun e u' h=>let ⟨b',he,hs⟩:=h; ⟨b',he,hs.tail⟩)) (fun _=>rfl) ?_; intro b'
    refine Wz 1 ?_
    refine Wd (Qc (CS.cond rfl ?_ ?_))<;>intro hc4<;>try simp only [bq] at hc4
    ·
     obtain rfl:b'=false:=by simpa using hc4
     exact Cr (Qs (Qr (Qr (Qs (Qs (Qr (Qr (Qs (Qs (Qr (Qr (Qs (out0 (Or.inl rfl) rfl (fun u hu=>⟨⟨_,rfl⟩,.inr ⟨_,_,_,hspl,hu.sel [0,1] rfl⟩⟩))))))))))))))
    obtain rfl:b'=true:=by simpa using hc4
    refine Ck (Qb (Qc (Ny 0 ?_)))
    refine Wk 1 Za ?_
    exact Wd (QS.head (n+1) rfl (by rw [← Jph hn1]; rfl) ⟨⟨by omega,by omega⟩,by omega⟩)
   refine Cv (Qe (Qe (Qx (Qb (Qc (Ny 0 ?_))))))
   refine Wk 1 Za ?_
   exact Wd (QS.head (k+1) rfl (by rw [← J4t hk1, ← Jua r hk1 (by omega),show n=nth (cntL r) k by omega]) ⟨⟨by omega,by omega⟩,by omega⟩)
  refine Cv (Qe (Qe (Qx (Qb (Qc (Ny 0 ?_))))))
  refine Wk 1 Za ?_
  refine Wd ?_
  refine QS.sel [0,1] rfl ?_
  exact QS.head (p+1) rfl (by simp only [← J3r hp1,show k=5 by omega]) ⟨⟨by omega,by omega⟩,by omega⟩
 exact Cv (Qe (Qe (Qx (out0 (Or.inr rfl) rfl (fun u hu=>⟨⟨_,rfl⟩,.inl (by rw [← J0q r (p:=p) (by omega)]; exact hu)⟩)))))
theorem J0t (r:Room) (w:World) :
  Calls Tryz.prog 60 #[.agg #[r.pls.v,r.ths.v,r.prs.v,r.wys.v,r.acs.v,r.aus.v,.int .i64 r.ply,r.gl.v]] w (fun e w'=>∃ b:Nat,True∧RetF w (.func (.func 119) #[] #[.pointer (some ⟨b,0,none⟩)]) (blk b [r.pls.v,r.ths.v,r.prs.v,r.wys.v,r.acs.v,r.aus.v,.int .i64 r.ply,r.gl.v] 32) e w'):=by
 refine enter Tryz.func60 rfl rfl (Nat.le_of_ble_eq_true rfl) ?_
 refine Nz 0 ?_
 refine Wb 1 rfl rfl (fun _=>rfl) (fun _=>rfl) fun b1 hb1=>?_
 refine Wd (Qc (Nz 0 ?_))
 refine Wk 1 (Jat rfl) ?_
 exact Wd (Qc (Cr (out1 rfl rfl (fun u hu=>⟨b1,trivial,retF (j:=0) rfl u hu⟩))))
theorem Jvz (r:Room) (w:World) (hr:RoomOk w r) (g:Sl ByteArray) (hG:GOk w g) (hn:Near r) (z:Stt) (hz:SttOk w z) :
  Calls Tryz.prog 17 #[.agg #[r.pls.v,r.ths.v,r.prs.v,r.wys.v,r.acs.v,r.aus.v,.int .i64 r.ply,r.gl.v],.agg #[z.ths.v,z.prs.v,z.pls.v]] w (RetM w (LegalV r z.x).2 fun v=>.tuple #[v,.int .i64 (LegalV r z.x).1]):=by
 refine J2i St.nil Tryz.func17 rfl rfl (Nat.le_of_ble_eq_true rfl) ?_
 refine Nz 0 ?_
 refine Wb 0 rfl rfl (fun _=>rfl) (fun _=>rfl) fun b2 hb2=>?_
 refine Wb 0 rfl rfl (fun _=>rfl) (fun _=>rfl) fun b3 hb3=>?_
 refine Wl 1 zv51 (fun _=>rfl) (fun _=>rfl) fun b4 hb4=>?_
 refine Wd (Qc (Cs (Nz 0 ?_)))
 refine Wk 0 (Bb 2) ?_
 refine Wk 0 (Bb 1) ?_
 refine Wk 1 (Cb rfl rfl J1h (fun u hu=>Jgd r u (hr.st hu) g (hG.st hu) hn z (hz.st hu))) ?_
 refine Wd (Qc (Nz 2 ?_))
 refine Wd (Qc (CS.cond rfl ?_ ?_))<;>intro hc1<;>try simp only [bq] at hc1
 ·
  have hS:¬ stL r z.x=0:=hc1
  refine Nz 1 ?_
  refine Ws 1 0 ?_
  refine Wd (Qc (Cr (Qr ?_)))
  exact outE (Or.inl rfl) (Jis rfl (Jng (j:=0) rfl rfl rfl tk51) rfl) (by
    have hv:LegalV r z.x=(stL r z.x,[]):=if_neg hS
    rw [hv]
    exact fun u hu=>J4x (f:=fun v=>.tuple #[v,.int .i64 (stL r z.x)]) hu)
 have hc1:Jlf r z=0:=hc1
 have hc1:stL r z.x=0:=hc1
 have hS:stL r z.x=0:=by omega
 obtain ⟨hC,hI⟩:=Joy.1 hS
 have hR:=Jfd hC
 have hlen:=hR.lens
 have hply:=hR.ply
 have hlt:z.ths.l.length=r.ths.l.length:=hI.lt
 have hlp:z.prs.l.length=r.prs.l.length:=hI.lp
 have hll:(z.pls.l.length:Int)=r.ply:=hI.ll
 refine Ck (Qc (Nz 0 ?_))
 refine Wk 0 (Bb 2) ?_
 refine Wk 0 (Bb 1) ?_
 refine Wc rfl rfl Jw9 (fun u hu=>Jvv r u (hr.st hu) z (hz.st hu) (hI.small hR)) (fun _=>rfl) ?_; rintro ⟨tb,va,vb,vc⟩ ⟨hva,hvb,hvc⟩
 refine WS.unpack ?_
 refine Wl 0 J4k (fun _=>rfl) (fun _=>rfl) fun b7 hb7=>?_
 refine Ws 0 0 ?_
 refine Wd (Qc (Cs (Nz 0 ?_)))
 refine Wk 0 (Bb 7) ?_
 refine Wc rfl rfl J4s (fun u hu=>J0t r u) (fun _=>rfl) ?_; intro bm _
 refine Wd (Qc (Ce ?_))
 refine CS.sel [6,2,2,2,2,1,0] rfl ?_
 refine CS.weak (L':=[exS fun q:Value=>star [blk b4 [q] 51,oT cMove 50 q ([])],blk tb [r.pls.v,r.ths.v,r.prs.v,r.wys.v,r.acs.v,r.aus.v,.int .i64 r.ply,r.gl.v,va,vb,vc] 156,oints 3 va (z.ths.l),oints 3 vb (z.prs.l),oints 3 vc (z.pls.l),blk b7 [.pointer (some ⟨tb,0,none⟩)] 113]++[blk bm [r.pls.v,r.ths.v,r.prs.v,r.wys.v,r.acs.v,r.aus.v,.int .i64 r.ply,r.gl.v] 32]) (fun u hu=>St.exI (Value.slice none 0 0) (St.pack (L1:=[_,_]) ((hu.osl0 (e:=50) (size:=3)).sel [1,0,0,0,0,0,0,0] rfl))) ?_
 refine CS.rangeB (V:=mvV) (cMove.cells) (fun _=>rfl) (fun _=>rfl) (fun x=>cMove.one w x trivial) zv50 rfl tk50 (by decide) (A:=[blk bm [r.pls.v,r.ths.v,r.prs.v,r.wys.v,r.acs.v,r.aus.v,.int .i64 r.ply,r.gl.v] 32]) rfl J14 (Jw6 r w hr hR bm) (fun pre=>[exS fun q:Value=>star [blk b4 [q] 51,oT cMove 50 q (pre.filter (legalB r z.x))],blk tb [r.pls.v,r.ths.v,r.prs.v,r.wys.v,r.acs.v,r.aus.v,.int .i64 r.ply,r.gl.v,va,vb,vc] 156,oints 3 va (z.ths.l),oints 3 vb (z.prs.l),oints 3 vc (z.pls.l),blk b7 [.pointer (some ⟨tb,0,none⟩)] 113]) (fun kd pre=>match kd with | _=>[fact False]) (fun _=>rfl) (Nat.le_of_ble_eq_true rfl) (fun _ _=>rfl) (fun _=>Nat.le_of_ble_eq_true rfl) ?_ ?_ ?_
 ·
  intro lr pre x post v b8 F hall
  have hal:=Jof hR r.ply.toNat
  rw [hall] at hal
  simp only [List.length_append,List.length_cons] at hal
  have hfl:=List.length_filter_le (legalB r z.x) pre
  refine CS.factE (j:=1) rfl (fun hv=>?_)
  subst hv
  refine CS.sel [2,0,0,0,0,0,0,0,0] rfl ?_
  refine CS.ex ?_; intro q
  refine CS.unpack ?_
  refine Ce (Nz 0 ?_)
  refine Wk 0 (Ba 8) ?_
  refine Wk 0 (Bb 2) ?_
  refine Wk 0 (Cb rfl rfl J2o (fun u hu=>Jo5 tb r ⟨⟨va,z.ths.l⟩,⟨vb,z.prs.l⟩,⟨vc,z.pls.l⟩⟩ u ⟨Ja6 hu (j:=4) rfl,hr.st hu,(Ja8 hu (j:=5) rfl).tree,(Ja8 hu (j:=6) rfl).tree,(Ja8 hu (j:=7) rfl).tree⟩ hR hI x)) ?_
  refine Wd (Qc (CS.cond rfl ?_ ?_))<;>intro hc2<;>try simp only [bq] at hc2
  ·
   have hc2:legalB r z.x x=true:=hc2
   refine Ny 0 ?_
   refine Wk 0 (Ba 0) ?_
   refine Wk 0 (Bb 2) ?_
   refine WS.buildT1 cMove (a:=x) sl51 zv50 rfl (by decide) (fun _=>rfl) ?_; intro v26
   refine WS.appendT1 (j:=2) (jz:=0) sl51 zv50 rfl (by decide) rfl rfl rfl rfl (w:=w) trivial (by omega) (by omega) (fun _=>rfl) (fun _=>rfl) ?_; intro v27 hv27
   refine Ws 0 1 ?_
   refine Wd (Qb ?_)
   refine QS.sel [1,1,2,2,2,2,2,2,2] rfl ?_
   exact fun u hu=>by
    change St _ _ (_::(_++[_])) u
    dsimp only
    rw [List.filter_append,show [x].filter (legalB r z.x)=[x] by simp [hc2]]
    exact St.perm (St.exI (f:=fun q:Value=>star [blk b4 [q] 51,oT cMove 50 q (pre.filter (legalB r z.x)++[x])]) v27 (St.pack (L1:=[_,_]) hu)) (List.Perm.swap _ _ _)
  have hc2:legalB r z.x x=false:=hc2
  refine Ck (Qb ?_)
  refine QS.sel [0,0,1,1,1,1,1,1,1] rfl ?_
  exact fun u hu=>by
   change St _ _ (_::(_++[_])) u
   dsimp only
   rw [List.filter_append,show [x].filter (legalB r z.x)=[] by simp [hc2],List.append_nil]
   exact St.perm (St.exI (f:=fun q:Value=>star [blk b4 [q] 51,oT cMove 50 q (pre.filter (legalB r z.x))]) q (St.pack (L1:=[_,_]) hu)) (List.Perm.swap _ _ _)
 ·
  intro D
  refine QS.sel [1,0] rfl ?_
  refine QS.ex ?_; intro q
  refine QS.unpack ?_
  refine QS.oc (j:=1) rfl (fun hq=>?_)
  refine Qb (Qc (Nz 0 ?_))
  refine Wk 0 (Ba 0) ?_
  refine Ws 1 0 ?_
  refine Wd (Qc (Cr ?_))
  exact outM (j:=2) (Or.inl rfl) rfl (Jis rfl (Jng (j:=0) rfl rfl rfl tk51) rfl) (by
    have hv:LegalV r z.x=(0,(allM r r.ply.toNat).filter (legalB r z.x)):=(if_pos hS).trans (by rw [Jiw hR]; rfl)
    rw [hv]
    exact fun u hu=>retM (f:=fun v=>.tuple #[v,.int .i64 0]) (j:=1) rfl hu)
 intro D kd pre x post hall
 cases kd with
 | _=>exact fun u hu=>(hu.factE (j:=1) rfl).elim
theorem J26:agq Tryz.prog 96=some [(0,0),(1,0),(2,1)]:=by kernel_rfl
theorem Jw4:agq Tryz.prog 75=some [(0,0),(1,0)]:=by kernel_rfl
theorem Jtc:agq Tryz.prog 65=some [(0,2),(1,0),(2,0),(3,0)]:=by kernel_rfl
theorem J11 (r:Room) (w:World) (hr:RoomOk w r) :
  Calls Tryz.prog 9 #[.agg #[r.pls.v,r.ths.v,r.prs.v,r.wys.v,r.acs.v,r.aus.v,.int .i64 r.ply,r.gl.v]] w (RetB w (.bool (!clB (Near r)))):=by
 have kpl:=hr.pls
 have lpl:=hr.pls.le
 have kth:=hr.ths
 have lth:=hr.ths.le
 have kpr:=hr.prs
 have lpr:=hr.prs.le
 have kwy:=hr.wys
 have lwy:=hr.wys.le
 have kac:=hr.acs
 have lac:=hr.acs.le
 have kau:=hr.aus
 have lau:=hr.aus.le
 have kgl:=hr.gl
 have lgl:=hr.gl.le
 refine enter Tryz.func9 rfl rfl (Nat.le_of_ble_eq_true rfl) ?_
 refine Nz 0 ?_
 refine Wb 1 rfl rfl (fun _=>rfl) (fun _=>rfl) fun b1 hb1=>?_
 refine Wd (Qc (Cs (Nz 1 ?_)))
 refine Wk 0 (Ba 0) ?_
 refine Wk 2 Nc ?_
 refine Wf 0 rfl rfl (fun hg=>Ff) ?_
 refine Wf 0 rfl rfl (fun hg=>Ba 0) ?_
 refine Wf 0 rfl rfl (fun hg=>Nc (eg_ hg rfl)) ?_
 refine Wf 0 rfl rfl (fun hg=>Fg) ?_
 refine Wk 1 Po ?_
 refine Wf 0 rfl rfl (fun hg=>Ff) ?_
 refine Wf 0 rfl rfl (fun hg=>Ba 0) ?_
 refine Wf 0 rfl rfl (fun hg=>Nc (eg_ hg rfl)) ?_
 refine Wf 0 rfl rfl (fun hg=>Fg) ?_
 refine Wk 1 Po ?_
 refine Wf 0 rfl rfl (fun hg=>Ff) ?_
 refine Wf 0 rfl rfl (fun hg=>Ba 0) ?_
 refine Wf 0 rfl rfl (fun hg=>Nc (eg_ hg rfl)) ?_
 refine Wf 0 rfl rfl (fun hg=>Fg) ?_
 refine Wk 1 Po ?_
 refine Wf 0 rfl rfl (fun hg=>Ff) ?_
 refine Wf 0 rfl rfl (fun hg=>Ba 0) ?_
 refine Wf 0 rfl rfl (fun hg=>Nc (eg_ hg rfl)) ?_
 refine Wf 0 rfl rfl (fun hg=>Fg) ?_
 refine Wk 1 Po ?_
 refine Wf 0 rfl rfl (fun hg=>Ff) ?_
 refine Wf 0 rfl rfl (fun hg=>Ba 0) ?_
 refine Wf 0 rfl rfl (fun hg=>Nc (eg_ hg rfl)) ?_
 refine Wf 0 rfl rfl (fun hg=>Fg) ?_
 refine Wk 1 Po ?_
 refine Wf 0 rfl rfl (fun hg=>Ff) ?_
 refine Wf 0 rfl rfl (fun hg=>Ba 0) ?_
 refine Wf 0 rfl rfl (fun hg=>Nc (eg_ hg rfl)) ?_
 refine Wf 0 rfl rfl (fun hg=>Fg) ?_
 refine Wk 0 Po ?_
 refine Wd (Qc (CS.cond rfl ?_ ?_))<;>intro hc1<;>try simp only [bq] at hc1
 ·
  refine Nz 1 ?_
  exact Wd (Qc (Cr (Qr (out1 rfl rfl (Jah (by rw [Jbk (fun h=>by have:=h.pls; have:=h.ths; have:=h.prs; have:=h.wys; have:=h.acs; have:=h.aus; have:=h.gl; omega)]; rfl))))))
 refine Ck (Qc (Cs (Nz 1 ?_)))
 refine Wd (Qc (Ce ?_))
 refine CS.loopM (σ:=Int) [2,50,51,52,53,54,55,56,57,58,59,60,61,62,63] (fun s=>[(3,.int .i64 s)]) (fun _=>_) (fun s=>0≤s∧s≤r.pls.l.length∧∀ j:Int,0≤j→j < s→(nth r.pls.l j).size≤100) (fun s=>(r.pls.l.length - s).toNat) 0 (fun _ _=>rfl) rfl rfl ⟨by omega,by omega,fun j _ _=>by omega⟩ ?_
 intro a t hs
 obtain ⟨ha1,ha2,ha3⟩:=hs
 refine Cs (Nz 2 ?_)
 refine Wk 0 (Ba 0) ?_
 refine Wk 1 Nc ?_
 refine Wd (Qc (CS.cond rfl ?_ ?_))<;>intro hc2<;>try simp only [bq] at hc2
 ·
  refine Ck (Qc (Cs (Ce (Nz 1 ?_))))
  refine Wk 1 (Ba 0) ?_
  refine Wk 0 Xc ?_
  refine Wk 0 Ub ?_
  refine Wk 1 (Jbb Tryz.underlying9 rfl) ?_
  refine Wd (Qc (CS.cond rfl ?_ ?_))<;>intro hc3<;>try simp only [bq] at hc3
  ·
   refine Nz 1 ?_
   exact Wd (Qc (Cr (Qs (Qr (Qr (Qs (Qr (out1 rfl rfl (Jah (by rw [Jbk (fun h=>by have:=h.pl _ (Jak ha1 (by omega)); omega)]; rfl))))))))))
  refine Ck (Qb (Qc (Ny 1 ?_)))
  refine Wk 1 Za ?_
  refine Wd ?_
  exact QS.head (a+1) rfl rfl ⟨⟨by omega,by omega,fun j h0 h1=>by
     rcases (show j < a∨j=a by omega) with h | h
     ·
      exact ha3 j h0 h
     rw [h]; omega⟩,by omega⟩
 refine Cv (Qe (Qe (Qx (Qc (Cs (Nz 1 ?_))))))
 refine Wd (Qc (Ce ?_))
 refine CS.loopM (σ:=Int) [2,64,65,66,67,68,69,70,71,72,73,74,75,76,77,78] (fun s=>[(4,.int .i64 s)]) (fun _=>_) (fun s=>0≤s∧s≤r.ths.l.length∧∀ j:Int,0≤j→j < s→(nth r.ths.l j).nm.size≤100) (fun s=>(r.ths.l.length - s).toNat) 0 (fun _ _=>rfl) rfl rfl ⟨by omega,by omega,fun j _ _=>by omega⟩ ?_
 intro b t hs
 obtain ⟨hb1,hb2,hb3⟩:=hs
 refine Cs (Nz 2 ?_)
 refine Wk 0 (Ba 0) ?_
 refine Wk 1 Nc ?_
 refine Wd (Qc (CS.cond rfl ?_ ?_))<;>intro hc4<;>try simp only [bq] at hc4
 ·
  refine Ck (Qc (Cs (Ce (Nz 1 ?_))))
  refine Wk 1 (Ba 0) ?_
  refine Wk 1 Xc ?_
  refine Wk 0 (Uc 4 0) ?_
  refine Wk 1 (Jbb Tryz.underlying9 rfl) ?_
  refine Wd (Qc (CS.cond rfl ?_ ?_))<;>intro hc5<;>try simp only [bq] at hc5
  ·
   refine Nz 1 ?_
   exact Wd (Qc (Cr (Qs (Qr (Qr (Qs (Qr (out1 rfl rfl (Jah (by rw [Jbk (fun h=>by have:=h.th _ (Jak hb1 (by omega)); omega)]; rfl))))))))))
  refine Ck (Qb (Qc (Ny 1 ?_)))
  refine Wk 1 Za ?_
  refine Wd ?_
  exact QS.head (b+1) rfl rfl ⟨⟨by omega,by omega,fun j h0 h1=>by
     rcases (show j < b∨j=b by omega) with h | h
     ·
      exact hb3 j h0 h
     rw [h]; omega⟩,by omega⟩
 refine Cv (Qe (Qe (Qx (Qc (Cs (Nz 1 ?_))))))
 refine Wd (Qc (Ce ?_))
 refine CS.loopM (σ:=Int) [2,79,80,81,82,83,84,85,86,87,88,89,90,91,92,93,94,95,96,97,98,99,100,101,102,103] (fun s=>[(5,.int .i64 s)]) (fun _=>_) (fun s=>0≤s∧s≤r.prs.l.length∧∀ j:Int,0≤j→j < s→((nth r.prs.l j).nm.size≤100∧(nth r.prs.l j).wh.l.length≤20)) (fun s=>(r.prs.l.length - s).toNat) 0 (fun _ _=>rfl) rfl rfl ⟨by omega,by omega,fun j _ _=>by omega⟩ ?_
 intro d t hs
 obtain ⟨hd1,hd2,hd3⟩:=hs
 refine Cs (Nz 2 ?_)
 refine Wk 0 (Ba 0) ?_
 refine Wk 1 Nc ?_
 refine Wd (Qc (CS.cond rfl ?_ ?_))<;>intro hc6<;>try simp only [bq] at hc6
 ·
  have hwh:SlT cLit w (nth r.prs.l d).wh:=hr.prs.at hd1 (by omega)
  refine Ck (Qc (Cs (Ce (Nz 1 ?_))))
  refine Wk 1 (Ba 0) ?_
  refine Wk 1 Xc ?_
  refine Wk 0 (Uc 3 0) ?_
  refine Wk 2 (Jbb Tryz.underlying9 rfl) ?_
  refine Wf 0 rfl rfl (fun hg=>Ff) ?_
  refine Wf 0 rfl rfl (fun hg=>Ba 0) ?_
  refine Wf 0 rfl rfl (fun hg=>Fm) ?_
  refine Wf 0 rfl rfl (fun hg=>Xc (eg_ hg rfl)) ?_
  refine Wf 0 rfl rfl (fun hg=>Ff) ?_
  refine Wf 0 rfl rfl (fun hg=>Uc 3 2) ?_
  refine Wf 0 rfl rfl (fun hg=>Nc (eg_ hg rfl)) ?_
  refine Wf 0 rfl rfl (fun hg=>Fg) ?_
  refine Wk 0 Po ?_
  refine Wd (Qc (CS.cond rfl ?_ ?_))<;>intro hc7<;>try simp only [bq] at hc7
  ·
   refine Nz 1 ?_
   exact Wd (Qc (Cr (Qs (Qr (Qr (Qs (Qr (out1 rfl rfl (Jah (by rw [Jbk (fun h=>by have:=h.pr _ (Jak hd1 (by omega)); omega)]; rfl))))))))))
  refine Ck (Qb (Qc (Ny 1 ?_)))
  refine Wk 1 Za ?_
  refine Wd ?_
  exact QS.head (d+1) rfl rfl ⟨⟨by omega,by omega,fun j h0 h1=>by
     rcases (show j < d∨j=d by omega) with h | h
     ·
      exact hd3 j h0 h
     rw [h]; omega⟩,by omega⟩
 refine Cv (Qe (Qe (Qx (Qc (Cs (Nz 1 ?_))))))
 refine Wd (Qc (Ce ?_))
 refine CS.loopM (σ:=Int) [2,104,105,106,107,108,109,110,111,112,113,114,115,116,117,118] (fun s=>[(6,.int .i64 s)]) (fun _=>_) (fun s=>0≤s∧s≤r.wys.l.length∧∀ j:Int,0≤j→j < s→(nth r.wys.l j).wh.l.length≤20) (fun s=>(r.wys.l.length - s).toNat) 0 (fun _ _=>rfl) rfl rfl ⟨by omega,by omega,fun j _ _=>by omega⟩ ?_
 intro e t hs
 obtain ⟨he1,he2,he3⟩:=hs
 refine Cs (Nz 2 ?_)
 refine Wk 0 (Ba 0) ?_
 refine Wk 1 Nc ?_
 refine Wd (Qc (CS.cond rfl ?_ ?_))<;>intro hc8<;>try simp only [bq] at hc8
 ·
  have hwh:SlT cLit w (nth r.wys.l e).wh:=hr.wys.at he1 (by omega)
  refine Ck (Qc (Cs (Ce (Nz 1 ?_))))
  refine Wk 1 (Ba 0) ?_
  refine Wk 1 Xc ?_
  refine Wk 0 (Uc 3 2) ?_
  refine Wk 1 Nc ?_
  refine Wd (Qc (CS.cond rfl ?_ ?_))<;>intro hc9<;>try simp only [bq] at hc9
  ·
   refine Nz 1 ?_
   exact Wd (Qc (Cr (Qs (Qr (Qr (Qs (Qr (out1 rfl rfl (Jah (by rw [Jbk (fun h=>by have:=h.wy _ (Jak he1 (by omega)); omega)]; rfl))))))))))
  refine Ck (Qb (Qc (Ny 1 ?_)))
  refine Wk 1 Za ?_
  refine Wd ?_
  exact QS.head (e+1) rfl rfl ⟨⟨by omega,by omega,fun j h0 h1=>by
     rcases (show j < e∨j=e by omega) with h | h
     ·
      exact he3 j h0 h
     rw [h]; omega⟩,by omega⟩
 refine Cv (Qe (Qe (Qx (Qc (Cs (Nz 1 ?_))))))
 refine Wd (Qc (Ce ?_))
 refine CS.loopM (σ:=Int) [2,8,119,120,121,122,123,124,125,126,127,128,129,130,131,132,133,134,135,136,137,138,139,140,141,142,143,144,145,146,147,148,149,150,151,152,153,154,155,156,157,158,159,160,161,162,163,164] (fun s=>[(7,.int .i64 s)]) (fun _=>_) (fun s=>0≤s∧s≤r.acs.l.length∧∀ j:Int,0≤j→j < s→((nth r.acs.l j).nm.size≤100∧(nth r.acs.l j).wh.l.length≤20∧(nth r.acs.l j).us.l.length≤20∧(nth r.acs.l j).se.l.length≤20∧(nth r.acs.l j).sp.l.length≤20∧(nth r.acs.l j).br.l.length≤20)) (fun s=>(r.acs.l.length - s).toNat) 0 (fun _ _=>rfl) rfl rfl ⟨by omega,by omega,fun j _ _=>by omega⟩ ?_
 intro f t hs
 obtain ⟨hf1,hf2,hf3⟩:=hs
 refine Cs (Nz 2 ?_)
 refine Wk 0 (Ba 0) ?_
 refine Wk 1 Nc ?_
 refine Wd (Qc (CS.cond rfl ?_ ?_))<;>intro hc10<;>try simp only [bq] at hc10
 ·
  have hak:ActOk w (nth r.acs.l f):=hr.acs.at hf1 (by omega)
  have a1:=hak.us.ints
  have a2:=hak.wh
  have a3:=hak.se
  have a4:=hak.sp.ints
  have a5:=hak.br.ints
  refine Ck (Qc (Cs (Ce (Nz 1 ?_))))
  refine Wk 1 (Ba 0) ?_
  refine Wk 0 Xc ?_
  refine Wk 0 Ua ?_
  refine Wl 0 zv73 (fun _=>rfl) (fun _=>rfl) fun b8 hb8=>?_
  refine Wv 0 0 ?_
  refine Wd (Qc (Nz 1 ?_))
  refine Wk 0 (Ba 0) ?_
  refine Wk 2 (Jbb Tryz.underlying9 rfl) ?_
  refine Wf 0 rfl rfl (fun hg=>Ff) ?_
  refine Wf 0 rfl rfl (fun hg=>Ba 0) ?_
  refine Wf 0 rfl rfl (fun hg=>Nc (eg_ hg rfl)) ?_
  refine Wf 0 rfl rfl (fun hg=>Fg) ?_
  refine Wk 1 Po ?_
  refine Wf 0 rfl rfl (fun hg=>Ff) ?_
  refine Wf 0 rfl rfl (fun hg=>Ba 0) ?_
  refine Wf 0 rfl rfl (fun hg=>Na (eg_ hg rfl)) ?_
  refine Wf 0 rfl rfl (fun hg=>Fg) ?_
  refine Wk 1 Po ?_
  refine Wf 0 rfl rfl (fun hg=>Ff) ?_
  refine Wf 0 rfl rfl (fun hg=>Ba 0) ?_
  refine Wf 0 rfl rfl (fun hg=>Nc (eg_ hg rfl)) ?_
  refine Wf 0 rfl rfl (fun hg=>Fg) ?_
  refine Wk 1 Po ?_
  refine Wf 0 rfl rfl (fun hg=>Ff) ?_
  refine Wf 0 rfl rfl (fun hg=>Ba 0) ?_
  refine Wf 0 rfl rfl (fun hg=>Na (eg_ hg rfl)) ?_
  refine Wf 0 rfl rfl (fun hg=>Fg) ?_
  refine Wk 1 Po ?_
  refine Wf 0 rfl rfl (fun hg=>Ff) ?_
  refine Wf 0 rfl rfl (fun hg=>Ba 0) ?_
  refine Wf 0 rfl rfl (fun hg=>Na (eg_ hg rfl)) ?_
  refine Wf 0 rfl rfl (fun hg=>Fg) ?_
  refine Wk 0 Po ?_
  refine Wd (Qc (CS.cond rfl ?_ ?_))<;>intro hc11<;>try simp only [bq] at hc11
  ·
   refine Nz 1 ?_
   exact Wd (Qc (Cr (Qs (Qr (Qr (Qs (Qr (out1 rfl rfl (Jah (by rw [Jbk (fun h=>by have:=h.ac _ (Jak hf1 (by omega)); omega)]; rfl))))))))))
  refine Ck (Qb (Qc (Ny 1 ?_)))
  refine Wk 1 Za ?_
  refine Wd ?_
  refine QS.sel [1] rfl ?_
  exact QS.head (f+1) rfl rfl ⟨⟨by omega,by omega,fun j h0 h1=>by
     rcases (show j < f∨j=f by omega) with h | h
     ·
      exact hf3 j h0 h
     rw [h]; omega⟩,by omega⟩
 refine Cv (Qe (Qe (Qx (Qc (Cs (Nz 1 ?_))))))
 refine Wd (Qc (Ce ?_))
 refine CS.loopM (σ:=Int) [2,165,166,167,168,169,170,171,172,173,174,175,176,177,178,179] (fun s=>[(9,.int .i64 s)]) (fun _=>_) (fun s=>0≤s∧s≤r.aus.l.length∧∀ j:Int,0≤j→j < s→(nth r.aus.l j).wh.l.length≤20) (fun s=>(r.aus.l.length - s).toNat) 0 (fun _ _=>rfl) rfl rfl ⟨by omega,by omega,fun j _ _=>by omega⟩ ?_
 intro k t hs
 obtain ⟨hk1,hk2,hk3⟩:=hs
 refine Cs (Nz 2 ?_)
 refine Wk 0 (Ba 0) ?_
 refine Wk 1 Nc ?_
 refine Wd (Qc (CS.cond rfl ?_ ?_))<;>intro hc12<;>try simp only [bq] at hc12
 ·
  have hwh:SlT cLit w (nth r.aus.l k).wh:=hr.aus.at hk1 (by omega)
  refine Ck (Qc (Cs (Ce (Nz 1 ?_))))
  refine Wk 1 (Ba 0) ?_
  refine Wk 1 Xc ?_
  refine Wk 0 (Uc 3 0) ?_
  refine Wk 1 Nc ?_
  refine Wd (Qc (CS.cond rfl ?_ ?_))<;>intro hc13<;>try simp only [bq] at hc13
  ·
   refine Nz 1 ?_
   exact Wd (Qc (Cr (Qs (Qr (Qr (Qs (Qr (out1 rfl rfl (Jah (by rw [Jbk (fun h=>by have:=h.au _ (Jak hk1 (by omega)); omega)]; rfl))))))))))
  refine Ck (Qb (Qc (Ny 1 ?_)))
  refine Wk 1 Za ?_
  refine Wd ?_
  exact QS.head (k+1) rfl rfl ⟨⟨by omega,by omega,fun j h0 h1=>by
     rcases (show j < k∨j=k by omega) with h | h
     ·
      exact hk3 j h0 h
     rw [h]; omega⟩,by omega⟩
 refine Cv (Qe (Qe (Qx (Qc (Nz 1 ?_)))))
 exact Wd (Qc (Cr (out1 rfl rfl (Jah (by rw [Jbz ⟨by omega,by omega,by omega,by omega,by omega,by omega,by omega,Jhg hc2 ha3,Jhg hc4 hb3,Jhg hc6 hd3,Jhg hc8 he3,Jhg hc10 hf3,Jhg hc12 hk3⟩]; rfl)))))
theorem Jcw (a b:Sl Lit) (w:World) (ha:SlT cLit w a) (hb:SlT cLit w b) :
  Calls Tryz.prog 24 #[a.v,b.v] w (RetB w (.bool (clB (a.l=b.l)))):=by
 have la:=ha.le
 have lb:=hb.le
 refine enter Tryz.func24 rfl rfl (Nat.le_of_ble_eq_true rfl) ?_
 refine Nz 1 ?_
 refine Wd (Qc (Cs (Nz 1 ?_)))
 refine Wk 1 Nc ?_
 refine Wk 1 Nc ?_
 refine Wd (Qc (CS.cond rfl ?_ ?_))<;>intro hc1<;>try simp only [bq] at hc1
 ·
  refine Nz 1 ?_
  exact Wd (Qc (Cr (Qr (out1 rfl rfl (Jah (by rw [Jbk (fun h=>hc1 (by rw [h]))]))))))
 refine Ck (Qc (Cs (Nz 1 ?_)))
 refine Wd (Qc (Ce ?_))
 refine CS.loopM (σ:=Int) [4,11,12,13,14,15,16,17,18,19,20,21,22,23,24,25] (fun s=>[(5,.int .i64 s)]) (fun _=>_) (fun s=>0≤s∧s≤a.l.length∧∀ j:Int,0≤j→j < s→nth a.l j=nth b.l j) (fun s=>(a.l.length - s).toNat) 0 (fun _ _=>rfl) rfl rfl ⟨by omega,by omega,fun j _ _=>by omega⟩ ?_
 intro s t hs
 obtain ⟨hs1,hs2,hs3⟩:=hs
 refine Cs (Nz 2 ?_)
 refine Wk 1 Nc ?_
 refine Wd (Qc (CS.cond rfl ?_ ?_))<;>intro hc2<;>try simp only [bq] at hc2
 ·
  refine Ck (Qc (Cs (Ce (Cs (Dr mixed 2 ?_)))))
  refine Dk 0 Xc ?_
  refine Dk 2 Ua ?_
  refine Dk 0 Xc ?_
  refine Dk 0 Ua ?_
  refine Dk 0 (Jdu J26 rfl rfl (Jr9 (nth a.l s) (nth b.l s))) ?_
  refine Dd (Qc (CS.cond rfl ?_ ?_))<;>intro hc3<;>try simp only [bq] at hc3
  ·
   refine Nz 1 ?_
   exact Wd (Qc (Cr (Qs (Qr (Qr (Qs (Qr (out1 rfl rfl (Jah (by rw [Jbk (fun h=>hc3 (by rw [h]))]))))))))))
  refine Ck (Qb (Qc (Ny 1 ?_)))
  refine Wk 1 Za ?_
  refine Wd ?_
  exact QS.head (s+1) rfl rfl ⟨⟨by omega,by omega,fun j h0 h1=>by
     rcases (show j < s∨j=s by omega) with h | h
     ·
      exact hs3 j h0 h
     rw [h]; exact hc3⟩,by omega⟩
 refine Cv (Qe (Qe (Qx (Qc (Nz 1 ?_)))))
 exact Wd (Qc (Cr (out1 rfl rfl (Jah (by rw [Jbz (Jga hc2 (by omega) hs3)])))))
theorem Jsf (a b:Actn) (w:World) (ha:ActOk w a) (hb:ActOk w b) :
  Calls Tryz.prog 25 #[.agg #[.string a.nm,.int .i64 a.pl,.int .i64 a.lk,a.us.v,a.wh.v,a.se.v,a.sp.v,a.br.v],.agg #[.string b.nm,.int .i64 b.pl,.int .i64 b.lk,b.us.v,b.wh.v,b.se.v,b.sp.v,b.br.v]] w (RetB w (.bool (clB (a.e=b.e)))):=by
 have aus:=ha.us
 have awh:=ha.wh
 have ase:=ha.se
 have asp:=ha.sp
 have abr:=ha.br
 have bus:=hb.us
 have bwh:=hb.wh
 have bse:=hb.se
 have bsp:=hb.sp
 have bbr:=hb.br
 have la:=ase.le
 have lb:=bse.le
 refine enter Tryz.func25 rfl rfl (Nat.le_of_ble_eq_true rfl) ?_
 refine Nz 0 ?_
 refine Wb 0 rfl rfl (fun _=>rfl) (fun _=>rfl) fun b2 hb2=>?_
 refine Wb 1 rfl rfl (fun _=>rfl) (fun _=>rfl) fun b3 hb3=>?_
 refine Wd (Qc (Cs (Nz 1 ?_)))
 refine Wk 0 (Ba 1) ?_
 refine Wk 1 Nc ?_
 refine Wk 0 (Ba 0) ?_
 refine Wk 1 Nc ?_
 refine Wd (Qc (CS.cond rfl ?_ ?_))<;>intro hc1<;>try simp only [bq] at hc1
 ·
  refine Nz 1 ?_
  exact Wd (Qc (Cr (Qr (out1 rfl rfl (Jah (by rw [Jbk (fun h=>hc1 (by rw [(Je1 h).se]))]))))))
 refine Ck (Qc (Cs (Nz 1 ?_)))
 refine Wd (Qc (Ce ?_))
 refine CS.loopM (σ:=Int) [4,13,14,15,16,17,18,19,20,21,22,23,24,25,26,27,28,29,30] (fun s=>[(5,.int .i64 s)]) (fun _=>_) (fun s=>0≤s∧s≤a.se.l.length∧∀ j:Int,0≤j→j < s→nth a.se.l j=nth b.se.l j) (fun s=>(a.se.l.length - s).toNat) 0 (fun _ _=>rfl) rfl rfl ⟨by omega,by omega,fun j _ _=>by omega⟩ ?_
 intro s t hs
 obtain ⟨hs1,hs2,hs3⟩:=hs
 refine Cs (Nz 2 ?_)
 refine Wk 0 (Ba 1) ?_
 refine Wk 1 Nc ?_
 refine Wd (Qc (CS.cond rfl ?_ ?_))<;>intro hc2<;>try simp only [bq] at hc2
 ·
  refine Ck (Qc (Cs (Ce (Cs (Dr mixed 1 ?_)))))
  refine Dk 1 (Ba 1) ?_
  refine Dk 0 Xc ?_
  refine Dk 1 Ua ?_
  refine Dk 1 (Ba 0) ?_
  refine Dk 0 Xc ?_
  refine Dk 0 Ua ?_
  refine Dk 0 (Jdu Jw4 rfl rfl (Jm9 (nth a.se.l s) (nth b.se.l s))) ?_
  refine Dd (Qc (CS.cond rfl ?_ ?_))<;>intro hc3<;>try simp only [bq] at hc3
  ·
   refine Nz 1 ?_
   exact Wd (Qc (Cr (Qs (Qr (Qr (Qs (Qr (out1 rfl rfl (Jah (by rw [Jbk (fun h=>hc3 (by rw [(Je1 h).se]))]))))))))))
  refine Ck (Qb (Qc (Ny 1 ?_)))
  refine Wk 1 Za ?_
  refine Wd ?_
  exact QS.head (s+1) rfl rfl ⟨⟨by omega,by omega,fun j h0 h1=>by
     rcases (show j < s∨j=s by omega) with h | h
     ·
      exact hs3 j h0 h
     rw [h]; exact hc3⟩,by omega⟩
 refine Cv (Qe (Qe (Qx (Qc (Nz 1 ?_)))))
 refine Wk 1 (Ba 1) ?_
 refine Wk 0 (Ba 0) ?_
 refine Wk 1 (Ja2 rfl rfl) ?_
 refine Wt 0 rfl rfl (fun hg=>Ff) ?_
 refine Wt 0 rfl rfl (fun hg=>Ba 1) ?_
 refine Wt 0 rfl rfl (fun hg=>Ff) ?_
 refine Wt 0 rfl rfl (fun hg=>Ba 0) ?_
 refine Wt 0 rfl rfl (fun hg=>Fq) ?_
 refine Wk 1 Pa ?_
 refine Wt 0 rfl rfl (fun hg=>Ff) ?_
 refine Wt 0 rfl rfl (fun hg=>Ba 1) ?_
 refine Wt 0 rfl rfl (fun hg=>Ff) ?_
 refine Wt 0 rfl rfl (fun hg=>Ba 0) ?_
 refine Wt 0 rfl rfl (fun hg=>Fq) ?_
 refine Wk 1 Pa ?_
 refine Wt 0 rfl rfl (fun hg=>Ff) ?_
 refine Wt 0 rfl rfl (fun hg=>Ba 1) ?_
 refine Wt 0 rfl rfl (fun hg=>Ff) ?_
 refine Wt 0 rfl rfl (fun hg=>Ba 0) ?_
 refine Wt 0 rfl rfl (fun hg=>Cb rfl (ec_ (eg_ hg rfl) (ec_ (eg_ hg rfl) en_)) Js2 (fun u hu=>Jhl _ _ _ _ u (aus.st hu).ints (bus.st hu).ints)) ?_
 refine Wk 1 Pa ?_
 refine Wt 0 rfl rfl (fun hg=>Ff) ?_
 refine Wt 0 rfl rfl (fun hg=>Ba 1) ?_
 refine Wt 0 rfl rfl (fun hg=>Ff) ?_
 refine Wt 0 rfl rfl (fun hg=>Ba 0) ?_
 refine Wt 0 rfl rfl (fun hg=>Cb rfl (ec_ (eg_ hg rfl) (ec_ (eg_ hg rfl) en_)) Jm4 (fun u hu=>Jcw _ _ u (awh.st hu) (bwh.st hu))) ?_
 refine Wk 1 Pa ?_
 refine Wt 0 rfl rfl (fun hg=>Ff) ?_
 refine Wt 0 rfl rfl (fun hg=>Ba 1) ?_
 refine Wt 0 rfl rfl (fun hg=>Ff) ?_
 refine Wt 0 rfl rfl (fun hg=>Ba 0) ?_
 refine Wt 0 rfl rfl (fun hg=>Cb rfl (ec_ (eg_ hg rfl) (ec_ (eg_ hg rfl) en_)) Js2 (fun u hu=>Jhl _ _ _ _ u (asp.st hu).ints (bsp.st hu).ints)) ?_
 refine Wk 1 Pa ?_
 refine Wt 0 rfl rfl (fun hg=>Ff) ?_
 refine Wt 0 rfl rfl (fun hg=>Ba 1) ?_
 refine Wt 0 rfl rfl (fun hg=>Ff) ?_
 refine Wt 0 rfl rfl (fun hg=>Ba 0) ?_
 refine Wt 0 rfl rfl (fun hg=>Cb rfl (ec_ (eg_ hg rfl) (ec_ (eg_ hg rfl) en_)) Js2 (fun u hu=>Jhl _ _ _ _ u (abr.st hu).ints (bbr.st hu).ints)) ?_
 refine Wk 1 Pa ?_
 refine Wd (Qc (Cr ?_))
 exact out1 rfl rfl (Jah (by
    have hse:=Jga hc2 (by omega) hs3
    by_cases h:a.e=b.e
    ·
     have q:=Je1 h
     rw [Jbz h,q.nm,q.pl,q.lk,q.us,q.wh,q.sp,q.br,Jcy,Jbz rfl]; simp
    rw [Jbk h]
    symm
    cases hq:((((((seq a.nm b.nm && decide (a.pl=b.pl)) && decide (a.lk=b.lk)) && decide (a.us.l=b.us.l)) && clB (a.wh.l=b.wh.l)) && decide (a.sp.l=b.sp.l)) && decide (a.br.l=b.br.l)) with
    | false=>rfl
    | true =>
     simp only [Bool.and_eq_true,decide_eq_true_eq,Jbv,Jez] at hq
     exact (h (J2t ⟨hq.1.1.1.1.1.1,hq.1.1.1.1.1.2,hq.1.1.1.1.2,hq.1.1.1.2,hq.1.1.2,hse,hq.1.2,hq.2⟩)).elim))
theorem Jtl (a b:Room) (w:World) (ha:RoomOk w a) (hb:RoomOk w b) :
  Calls Tryz.prog 8 #[.agg #[a.pls.v,a.ths.v,a.prs.v,a.wys.v,a.acs.v,a.aus.v,.int .i64 a.ply,a.gl.v],.agg #[b.pls.v,b.ths.v,b.prs.v,b.wys.v,b.acs.v,b.aus.v,.int .i64 b.ply,b.gl.v]] w (RetB w (.bool (clB (a.e=b.e)))):=by
 have apls:=ha.pls
 have alpls:=ha.pls.le
 have aths:=ha.ths
 have alths:=ha.ths.le
 have aprs:=ha.prs
 have alprs:=ha.prs.le
 have awys:=ha.wys
 have alwys:=ha.wys.le
 have aacs:=ha.acs
 have alacs:=ha.acs.le
 have aaus:=ha.aus
 have alaus:=ha.aus.le
 have agl:=ha.gl
 have algl:=ha.gl.le
 have bpls:=hb.pls
 have blpls:=hb.pls.le
 have bths:=hb.ths
 have blths:=hb.ths.le
 have bprs:=hb.prs
 have blprs:=hb.prs.le
 have bwys:=hb.wys
 have blwys:=hb.wys.le
 have bacs:=hb.acs
 have blacs:=hb.acs.le
 have baus:=hb.aus
 have blaus:=hb.aus.le
 have bgl:=hb.gl
 have blgl:=hb.gl.le
 refine enter Tryz.func8 rfl rfl (Nat.le_of_ble_eq_true rfl) ?_
 refine Nz 0 ?_
 refine Wb 0 rfl rfl (fun _=>rfl) (fun _=>rfl) fun b2 hb2=>?_
 refine Wb 1 rfl rfl (fun _=>rfl) (fun _=>rfl) fun b3 hb3=>?_
 refine Wd (Qc (Cs (Nz 1 ?_)))
 refine Wk 0 (Ba 1) ?_
 refine Wk 1 Nc ?_
 refine Wk 0 (Ba 0) ?_
 refine Wk 2 Nc ?_
 refine Wf 0 rfl rfl (fun hg=>Ff) ?_
 refine Wf 0 rfl rfl (fun hg=>Ba 1) ?_
 refine Wf 0 rfl rfl (fun hg=>Nc (eg_ hg rfl)) ?_
 refine Wf 0 rfl rfl (fun hg=>Ff) ?_
 refine Wf 0 rfl rfl (fun hg=>Ba 0) ?_
 refine Wf 0 rfl rfl (fun hg=>Nc (eg_ hg rfl)) ?_
 refine Wf 0 rfl rfl (fun hg=>Fr) ?_
 refine Wk 1 Po ?_
 refine Wf 0 rfl rfl (fun hg=>Ff) ?_
 refine Wf 0 rfl rfl (fun hg=>Ba 1) ?_
 refine Wf 0 rfl rfl (fun hg=>Nc (eg_ hg rfl)) ?_
 refine Wf 0 rfl rfl (fun hg=>Ff) ?_
 refine Wf 0 rfl rfl (fun hg=>Ba 0) ?_
 refine Wf 0 rfl rfl (fun hg=>Nc (eg_ hg rfl)) ?_
 refine Wf 0 rfl rfl (fun hg=>Fr) ?_
 refine Wk 1 Po ?_
 refine Wf 0 rfl rfl (fun hg=>Ff) ?_
 refine Wf 0 rfl rfl (fun hg=>Ba 1) ?_
 refine Wf 0 rfl rfl (fun hg=>Nc (eg_ hg rfl)) ?_
 refine Wf 0 rfl rfl (fun hg=>Ff) ?_
 refine Wf 0 rfl rfl (fun hg=>Ba 0) ?_
 refine Wf 0 rfl rfl (fun hg=>Nc (eg_ hg rfl)) ?_
 refine Wf 0 rfl rfl (fun hg=>Fr) ?_
 refine Wk 1 Po ?_
 refine Wf 0 rfl rfl (fun hg=>Ff) ?_
 refine Wf 0 rfl rfl (fun hg=>Ba 1) ?_
 refine Wf 0 rfl rfl (fun hg=>Nc (eg_ hg rfl)) ?_
 refine Wf 0 rfl rfl (fun hg=>Ff) ?_
 refine Wf 0 rfl rfl (fun hg=>Ba 0) ?_
 refine Wf 0 rfl rfl (fun hg=>Nc (eg_ hg rfl)) ?_
 refine Wf 0 rfl rfl (fun hg=>Fr) ?_
 refine Wk 1 Po ?_
 refine Wf 0 rfl rfl (fun hg=>Ff) ?_
 refine Wf 0 rfl rfl (fun hg=>Ba 1) ?_
 refine Wf 0 rfl rfl (fun hg=>Nc (eg_ hg rfl)) ?_
 refine Wf 0 rfl rfl (fun hg=>Ff) ?_
 refine Wf 0 rfl rfl (fun hg=>Ba 0) ?_
 refine Wf 0 rfl rfl (fun hg=>Nc (eg_ hg rfl)) ?_
 refine Wf 0 rfl rfl (fun hg=>Fr) ?_
 refine Wk 1 Po ?_
 refine Wf 0 rfl rfl (fun hg=>Ff) ?_
 refine Wf 0 rfl rfl (fun hg=>Ba 1) ?_
 refine Wf 0 rfl rfl (fun hg=>Ff) ?_
 refine Wf 0 rfl rfl (fun hg=>Ba 0) ?_
 refine Wf 0 rfl rfl (fun hg=>Fr) ?_
 refine Wk 1 Po ?_
 refine Wf 0 rfl rfl (fun hg=>Ff) ?_
 refine Wf 0 rfl rfl (fun hg=>Ba 1) ?_
 refine Wf 0 rfl rfl (fun hg=>Ff) ?_
 refine Wf 0 rfl rfl (fun hg=>Ba 0) ?_
 refine Wf 0 rfl rfl (fun hg=>Cb rfl (ec_ (eg_ hg rfl) (ec_ (eg_ hg rfl) en_)) Jm4 (fun u hu=>Jcw _ _ u (agl.st hu) (bgl.st hu))) ?_
 refine Wf 0 rfl rfl (fun hg=>Fn) ?_
 refine Wk 0 Po ?_
 refine Wd (Qc (CS.cond rfl ?_ ?_))<;>intro hc1<;>try simp only [bq] at hc1
 ·
  refine Nz 1 ?_
  refine Wd (Qc (Cr (Qr ?_)))
  exact out1 rfl rfl (Jah (by rw [Jbk (fun h=>by
     have q:=Jeq h
     simp only [q.pls,q.ths,q.lprs,q.lwys,q.lacs,q.laus,q.ply,q.gl,Jbz] at hc1
     simp at hc1)]))
 have hgl:=Jbv.1 hc1.2
 refine Ck (Qc (Cs (Nz 1 ?_)))
 refine Wd (Qc (Ce ?_))
 refine CS.loopM (σ:=Int) [4,82,83,84,85,86,87,88,89,90,91,92,93,94,95,96,97,98,99] (fun s=>[(5,.int .i64 s)]) (fun _=>_) (fun s=>0≤s∧s≤a.pls.l.length∧∀ j:Int,0≤j→j < s→nth a.pls.l j=nth b.pls.l j) (fun s=>(a.pls.l.length - s).toNat) 0 (fun _ _=>rfl) rfl rfl ⟨by omega,by omega,fun j _ _=>by omega⟩ ?_
 intro a_ t hs
 obtain ⟨ha_1,ha_2,ha_3⟩:=hs
 refine Cs (Nz 2 ?_)
 refine Wk 0 (Ba 1) ?_
 refine Wk 1 Nc ?_
 refine Wd (Qc (CS.cond rfl ?_ ?_))<;>intro hc2<;>try simp only [bq] at hc2
 ·
  refine Ck (Qc (Cs (Ce (Cs (Dr mixed 1 ?_)))))
  refine Dk 1 (Ba 1) ?_
  refine Dk 0 Xc ?_
  refine Dk 1 Ub ?_
  refine Dk 1 (Ba 0) ?_
  refine Dk 0 Xc ?_
  refine Dk 0 Ub ?_
  refine Dk 0 (Jcm rfl rfl) ?_
  refine Dd (Qc (CS.cond rfl ?_ ?_))<;>intro hc3<;>try simp only [bq] at hc3
  ·
   refine Nz 1 ?_
   exact Wd (Qc (Cr (Qs (Qr (Qr (Qs (Qr (out1 rfl rfl (Jah (by rw [Jbk (fun h=>J23 hc3 (by rw [(Jeq h).pls]))]))))))))))
  refine Ck (Qb (Qc (Ny 1 ?_)))
  refine Wk 1 Za ?_
  refine Wd ?_
  exact QS.head (a_+1) rfl rfl ⟨⟨by omega,by omega,fun j h0 h1=>by
     rcases (show j < a_∨j=a_ by omega) with h | h
     ·
      exact ha_3 j h0 h
     rw [h]; exact Jez.1 hc3⟩,by omega⟩
 refine Cv (Qe (Qe (Qx (Qc (Cs (Nz 1 ?_))))))
 refine Wd (Qc (Ce ?_))
 refine CS.loopM (σ:=Int) [4,100,101,102,103,104,105,106,107,108,109,110,111,112,113,114,115,116,117] (fun s=>[(6,.int .i64 s)]) (fun _=>_) (fun s=>0≤s∧s≤a.ths.l.length∧∀ j:Int,0≤j→j < s→nth a.ths.l j=nth b.ths.l j) (fun s=>(a.ths.l.length - s).toNat) 0 (fun _ _=>rfl) rfl rfl ⟨by omega,by omega,fun j _ _=>by omega⟩ ?_
 intro b_ t hs
 obtain ⟨hb_1,hb_2,hb_3⟩:=hs
 refine Cs (Nz 2 ?_)
 refine Wk 0 (Ba 1) ?_
 refine Wk 1 Nc ?_
 refine Wd (Qc (CS.cond rfl ?_ ?_))<;>intro hc4<;>try simp only [bq] at hc4
 ·
  refine Ck (Qc (Cs (Ce (Cs (Dr mixed 1 ?_)))))
  refine Dk 1 (Ba 1) ?_
  refine Dk 0 Xc ?_
  refine Dk 1 Ua ?_
  refine Dk 1 (Ba 0) ?_
  refine Dk 0 Xc ?_
  refine Dk 0 Ua ?_
  refine Dk 0 (Jdu Jtc rfl rfl (Jl0 (nth a.ths.l b_) (nth b.ths.l b_))) ?_
  refine Dd (Qc (CS.cond rfl ?_ ?_))<;>intro hc5<;>try simp only [bq] at hc5
  ·
   refine Nz 1 ?_
   exact Wd (Qc (Cr (Qs (Qr (Qr (Qs (Qr (out1 rfl rfl (Jah (by rw [Jbk (fun h=>by rw [(Jeq h).ths,Jbz rfl] at hc5; cases hc5)]))))))))))
  refine Ck (Qb (Qc (Ny 1 ?_)))
  refine Wk 1 Za ?_
  refine Wd ?_
  exact QS.head (b_+1) rfl rfl ⟨⟨by omega,by omega,fun j h0 h1=>by
     rcases (show j < b_∨j=b_ by omega) with h | h
     ·
      exact hb_3 j h0 h
     rw [h]; exact Jbv.1 hc5⟩,by omega⟩
 refine Cv (Qe (Qe (Qx (Qc (Cs (Nz 1 ?_))))))
 refine Wd (Qc (Ce ?_))
 refine CS.loopM (σ:=Int) [4,8,9,118,119,120,121,122,123,124,125,126,127,128,129,130,131,132,133,134,135,136,137,138,139,140,141,142,143,144,145,146,147,148,149,150,151,152,153,154] (fun s=>[(7,.int .i64 s)]) (fun _=>_) (fun s=>0≤s∧s≤a.prs.l.length∧∀ j:Int,0≤j→j < s→(nth a.prs.l j).e=(nth b.prs.l j).e) (fun s=>(a.prs.l.length - s).toNat) 0 (fun _ _=>rfl) rfl rfl ⟨by omega,by omega,fun j _ _=>by omega⟩ ?_
 intro d t hs
 obtain ⟨hd1,hd2,hd3⟩:=hs
 refine Cs (Nz 2 ?_)
 refine Wk 0 (Ba 1) ?_
 refine Wk 1 Nc ?_
 refine Wd (Qc (CS.cond rfl ?_ ?_))<;>intro hc6<;>try simp only [bq] at hc6
 ·
  have aw:SlT cLit w (nth a.prs.l d).wh:=ha.prs.at hd1 (by omega)
  have bw:SlT cLit w (nth b.prs.l d).wh:=hb.prs.at hd1 (by omega)
  refine Ck (Qc (Cs (Ce (Cs ?_))))
  refine CS.drawnAll (k:=14) mixed rfl rfl ?_
  refine Ar [0] ?_
  refine Ak 1 [2] rfl (Ba 1) ?_
  refine Ak 3 [] rfl Xc ?_
  refine Ak 4 [5] rfl Ua ?_
  refine Ak 6 [7] rfl (Ba 0) ?_
  refine Ak 8 [] rfl Xc ?_
  refine Ak 9 [] rfl Ua ?_
  refine AS.two (i:=10) (j:=11) (by kernel_rfl) rfl rfl (by first | exact fun _ h=>h | exact fun _ h=>h.sub (by repeat first | exact List.Sublist.refl _ | apply List.Sublist.cons_cons | apply List.Sublist.cons)) rfl rfl ?_ ?_
  ·
   refine Wl 0 zv67 (fun _=>rfl) (fun _=>rfl) fun b8 hb8=>?_
   refine Wd (Qa ?_)
   refine Ao 11 rfl ?_
   refine Wl 0 zv67 (fun _=>rfl) (fun _=>rfl) fun b9 hb9=>?_
   refine Wd (Qa ?_)
   refine Ao 12 rfl ?_
   refine Wv 0 1 ?_
   refine Wd (Qa ?_)
   refine Ao 13 rfl ?_
   refine Wv 0 0 ?_
   refine Wd (Qa ?_)
   refine Ae ?_
   refine Qc (Nz 1 ?_)
   refine Wk 1 (Ba 1) ?_
   refine Wk 0 (Ba 0) ?_
   refine Wk 1 (Jcm rfl rfl) ?_
   refine Wf 0 rfl rfl (fun hg=>Ff) ?_
   refine Wf 0 rfl rfl (fun hg=>Ba 1) ?_
   refine Wf 0 rfl rfl (fun hg=>Ff) ?_
   refine Wf 0 rfl rfl (fun hg=>Ba 0) ?_
   refine Wf 0 rfl rfl (fun hg=>Fr) ?_
   refine Wk 1 Po ?_
   refine Wf 0 rfl rfl (fun hg=>Ff) ?_
   refine Wf 0 rfl rfl (fun hg=>Ba 1) ?_
   refine Wf 0 rfl rfl (fun hg=>Ff) ?_
   refine Wf 0 rfl rfl (fun hg=>Ba 0) ?_
   refine Wf 0 rfl rfl (fun hg=>Cb rfl (ec_ (eg_ hg rfl) (ec_ (eg_ hg rfl) en_)) Jm4 (fun u hu=>Jcw _ _ u (aw.st hu) (bw.st hu))) ?_
   refine Wf 0 rfl rfl (fun hg=>Fn) ?_
   refine Wk 0 Po ?_
   refine Wd (Qc (CS.cond rfl ?_ ?_))<;>intro hc7<;>try simp only [bq] at hc7
   ·
    refine Nz 1 ?_
    refine Wd (Qc (Cr (Qs (Qr (Qr (Qs (Qr ?_)))))))
    exact out1 rfl rfl (Jah (by rw [Jbk (fun h=>by
       have q:=(Jeq h).pr d
       simp only [q.1,q.2.1,q.2.2,Jcy,Jbz] at hc7
       simp at hc7)]))
   refine Ck (Qb (Qc (Ny 1 ?_)))
   refine Wk 1 Za ?_
   refine Wd ?_
   refine QS.sel [2,2] rfl ?_
   exact QS.head (d+1) rfl rfl ⟨⟨by omega,by omega,fun j h0 h1=>by
      rcases (show j < d∨j=d by omega) with h | h
      ·
       exact hd3 j h0 h
      rw [h]; exact Jy3 (Jez.1 hc7.1.1) hc7.1.2 (Jbv.1 hc7.2)⟩,by omega⟩
  refine Wl 0 zv67 (fun _=>rfl) (fun _=>rfl) fun b9 hb9=>?_
  refine Wd (Qa ?_)
  refine Ao 10 rfl ?_
  refine Wl 0 zv67 (fun _=>rfl) (fun _=>rfl) fun b8 hb8=>?_
  refine Wd (Qa ?_)
  refine Ao 12 rfl ?_
  refine Wv 0 0 ?_
  refine Wd (Qa ?_)
  refine Ao 13 rfl ?_
  refine Wv 0 1 ?_
  refine Wd (Qa ?_)
  refine Ae ?_
  refine Qc (Nz 1 ?_)
  refine Wk 1 (Ba 0) ?_
  refine Wk 0 (Ba 1) ?_
  refine Wk 1 (Jcm rfl rfl) ?_
  refine Wf 0 rfl rfl (fun hg=>Ff) ?_
  refine Wf 0 rfl rfl (fun hg=>Ba 0) ?_
  refine Wf 0 rfl rfl (fun hg=>Ff) ?_
  refine Wf 0 rfl rfl (fun hg=>Ba 1) ?_
  refine Wf 0 rfl rfl (fun hg=>Fr) ?_
  refine Wk 1 Po ?_
  refine Wf 0 rfl rfl (fun hg=>Ff) ?_
  refine Wf 0 rfl rfl (fun hg=>Ba 0) ?_
  refine Wf 0 rfl rfl (fun hg=>Ff) ?_
  refine Wf 0 rfl rfl (fun hg=>Ba 1) ?_
  refine Wf 0 rfl rfl (fun hg=>Cb rfl (ec_ (eg_ hg rfl) (ec_ (eg_ hg rfl) en_)) Jm4 (fun u hu=>Jcw _ _ u (aw.st hu) (bw.st hu))) ?_
  refine Wf 0 rfl rfl (fun hg=>Fn) ?_
  refine Wk 0 Po ?_
  refine Wd (Qc (CS.cond rfl ?_ ?_))<;>intro hc7<;>try simp only [bq] at hc7
  ·
   refine Nz 1 ?_
   refine Wd (Qc (Cr (Qs (Qr (Qr (Qs (Qr ?_)))))))
   exact out1 rfl rfl (Jah (by rw [Jbk (fun h=>by
      have q:=(Jeq h).pr d
      simp only [q.1,q.2.1,q.2.2,Jcy,Jbz] at hc7
      simp at hc7)]))
  refine Ck (Qb (Qc (Ny 1 ?_)))
  refine Wk 1 Za ?_
  refine Wd ?_
  refine QS.sel [2,2] rfl ?_
  exact QS.head (d+1) rfl rfl ⟨⟨by omega,by omega,fun j h0 h1=>by
     rcases (show j < d∨j=d by omega) with h | h
     ·
      exact hd3 j h0 h
     rw [h]; exact Jy3 (Jez.1 hc7.1.1) hc7.1.2 (Jbv.1 hc7.2)⟩,by omega⟩
 refine Cv (Qe (Qe (Qx (Qc (Cs (Nz 1 ?_))))))
 refine Wd (Qc (Ce ?_))
 refine CS.loopM (σ:=Int) [4,11,12,155,156,157,158,159,160,161,162,163,164,165,166,167,168,169,170,171,172,173,174,175,176,177,178,179,180,181,182,183,184,185,186,187,188,189,190,191] (fun s=>[(10,.int .i64 s)]) (fun _=>_) (fun s=>0≤s∧s≤a.wys.l.length∧∀ j:Int,0≤j→j < s→(nth a.wys.l j).e=(nth b.wys.l j).e) (fun s=>(a.wys.l.length - s).toNat) 0 (fun _ _=>rfl) rfl rfl ⟨by omega,by omega,fun j _ _=>by omega⟩ ?_
 intro e t hs
 obtain ⟨he1,he2,he3⟩:=hs
 refine Cs (Nz 2 ?_)
 refine Wk 0 (Ba 1) ?_
 refine Wk 1 Nc ?_
 refine Wd (Qc (CS.cond rfl ?_ ?_))<;>intro hc8<;>try simp only [bq] at hc8
 ·
  have aw:SlT cLit w (nth a.wys.l e).wh:=ha.wys.at he1 (by omega)
  have bw:SlT cLit w (nth b.wys.l e).wh:=hb.wys.at he1 (by omega)
  refine Ck (Qc (Cs (Ce (Cs ?_))))
  refine CS.drawnAll (k:=14) mixed rfl rfl ?_
  refine Ar [0] ?_
  refine Ak 1 [2] rfl (Ba 1) ?_
  refine Ak 3 [] rfl Xc ?_
  refine Ak 4 [5] rfl Ua ?_
  refine Ak 6 [7] rfl (Ba 0) ?_
  refine Ak 8 [] rfl Xc ?_
  refine Ak 9 [] rfl Ua ?_
  refine AS.two (i:=10) (j:=11) (by kernel_rfl) rfl rfl (by first | exact fun _ h=>h | exact fun _ h=>h.sub (by repeat first | exact List.Sublist.refl _ | apply List.Sublist.cons_cons | apply List.Sublist.cons)) rfl rfl ?_ ?_
  ·
   refine Wl 0 zv69 (fun _=>rfl) (fun _=>rfl) fun b11 hb11=>?_
   refine Wd (Qa ?_)
   refine Ao 11 rfl ?_
   refine Wl 0 zv69 (fun _=>rfl) (fun _=>rfl) fun b12 hb12=>?_
   refine Wd (Qa ?_)
   refine Ao 12 rfl ?_
   refine Wv 0 1 ?_
   refine Wd (Qa ?_)
   refine Ao 13 rfl ?_
   refine Wv 0 0 ?_
   refine Wd (Qa ?_)
   refine Ae ?_
   refine Qc (Nz 1 ?_)
   refine Wk 1 (Ba 1) ?_
   refine Wk 2 (Ba 0) ?_
   refine Wf 0 rfl rfl (fun hg=>Ff) ?_
   refine Wf 0 rfl rfl (fun hg=>Ba 1) ?_
   refine Wf 0 rfl rfl (fun hg=>Ff) ?_
   refine Wf 0 rfl rfl (fun hg=>Ba 0) ?_
   refine Wf 0 rfl rfl (fun hg=>Fr) ?_
   refine Wk 1 Po ?_
   refine Wf 0 rfl rfl (fun hg=>Ff) ?_
   refine Wf 0 rfl rfl (fun hg=>Ba 1) ?_
   refine Wf 0 rfl rfl (fun hg=>Ff) ?_
   refine Wf 0 rfl rfl (fun hg=>Ba 0) ?_
   refine Wf 0 rfl rfl (fun hg=>Cb rfl (ec_ (eg_ hg rfl) (ec_ (eg_ hg rfl) en_)) Jm4 (fun u hu=>Jcw _ _ u (aw.st hu) (bw.st hu))) ?_
   refine Wf 0 rfl rfl (fun hg=>Fn) ?_
   refine Wk 0 Po ?_
   refine Wd (Qc (CS.cond rfl ?_ ?_))<;>intro hc9<;>try simp only [bq] at hc9
   ·
    refine Nz 1 ?_
    refine Wd (Qc (Cr (Qs (Qr (Qr (Qs (Qr ?_)))))))
    exact out1 rfl rfl (Jah (by rw [Jbk (fun h=>by
       have q:=(Jeq h).wy e
       simp only [q.1,q.2.1,q.2.2,Jbz] at hc9
       simp at hc9)]))
   refine Ck (Qb (Qc (Ny 1 ?_)))
   refine Wk 1 Za ?_
   refine Wd ?_
   refine QS.sel [2,2] rfl ?_
   exact QS.head (e+1) rfl rfl ⟨⟨by omega,by omega,fun j h0 h1=>by
      rcases (show j < e∨j=e by omega) with h | h
      ·
       exact he3 j h0 h
      rw [h]; exact Jyz hc9.1.1 hc9.1.2 (Jbv.1 hc9.2)⟩,by omega⟩
  refine Wl 0 zv69 (fun _=>rfl) (fun _=>rfl) fun b12 hb12=>?_
  refine Wd (Qa ?_)
  refine Ao 10 rfl ?_
  refine Wl 0 zv69 (fun _=>rfl) (fun _=>rfl) fun b11 hb11=>?_
  refine Wd (Qa ?_)
  refine Ao 12 rfl ?_
  refine Wv 0 0 ?_
  refine Wd (Qa ?_)
  refine Ao 13 rfl ?_
  refine Wv 0 1 ?_
  refine Wd (Qa ?_)
  refine Ae ?_
  refine Qc (Nz 1 ?_)
  refine Wk 1 (Ba 0) ?_
  refine Wk 2 (Ba 1) ?_
  refine Wf 0 rfl rfl (fun hg=>Ff) ?_
  refine Wf 0 rfl rfl (fun hg=>Ba 0) ?_
  refine Wf 0 rfl rfl (fun hg=>Ff) ?_
  refine Wf 0 rfl rfl (fun hg=>Ba 1) ?_
  refine Wf 0 rfl rfl (fun hg=>Fr) ?_
  refine Wk 1 Po ?_
  refine Wf 0 rfl rfl (fun hg=>Ff) ?_
  refine Wf 0 rfl rfl (fun hg=>Ba 0) ?_
  refine Wf 0 rfl rfl (fun hg=>Ff) ?_
  refine Wf 0 rfl rfl (fun hg=>Ba 1) ?_
  refine Wf 0 rfl rfl (fun hg=>Cb rfl (ec_ (eg_ hg rfl) (ec_ (eg_ hg rfl) en_)) Jm4 (fun u hu=>Jcw _ _ u (aw.st hu) (bw.st hu))) ?_
  refine Wf 0 rfl rfl (fun hg=>Fn) ?_
  refine Wk 0 Po ?_
  refine Wd (Qc (CS.cond rfl ?_ ?_))<;>intro hc9<;>try simp only [bq] at hc9
  ·
   refine Nz 1 ?_
   refine Wd (Qc (Cr (Qs (Qr (Qr (Qs (Qr ?_)))))))
   exact out1 rfl rfl (Jah (by rw [Jbk (fun h=>by
      have q:=(Jeq h).wy e
      simp only [q.1,q.2.1,q.2.2,Jbz] at hc9
      simp at hc9)]))
  refine Ck (Qb (Qc (Ny 1 ?_)))
  refine Wk 1 Za ?_
  refine Wd ?_
  refine QS.sel [2,2] rfl ?_
  exact QS.head (e+1) rfl rfl ⟨⟨by omega,by omega,fun j h0 h1=>by
     rcases (show j < e∨j=e by omega) with h | h
     ·
      exact he3 j h0 h
     rw [h]; exact Jyz hc9.1.1 hc9.1.2 (Jbv.1 hc9.2)⟩,by omega⟩
 refine Cv (Qe (Qe (Qx (Qc (Cs (Nz 1 ?_))))))
 refine Wd (Qc (Ce ?_))
 refine CS.loopM (σ:=Int) [4,192,193,194,195,196,197,198,199,200,201,202,203,204,205,206,207,208,209,210] (fun s=>[(13,.int .i64 s)]) (fun _=>_) (fun s=>0≤s∧s≤a.acs.l.length∧∀ j:Int,0≤j→j < s→(nth a.acs.l j).e=(nth b.acs.l j).e) (fun s=>(a.acs.l.length - s).toNat) 0 (fun _ _=>rfl) rfl rfl ⟨by omega,by omega,fun j _ _=>by omega⟩ ?_
 intro f t hs
 obtain ⟨hf1,hf2,hf3⟩:=hs
 refine Cs (Nz 2 ?_)
 refine Wk 0 (Ba 1) ?_
 refine Wk 1 Nc ?_
 refine Wd (Qc (CS.cond rfl ?_ ?_))<;>intro hc10<;>try simp only [bq] at hc10
 ·
  have aw:ActOk w (nth a.acs.l f):=ha.acs.at hf1 (by omega)
  have bw:ActOk w (nth b.acs.l f):=hb.acs.at hf1 (by omega)
  refine Ck (Qc (Cs (Ce (Cs (Dr mixed 1 ?_)))))
  refine Dk 1 (Ba 1) ?_
  refine Dk 0 Xc ?_
  refine Dk 1 Ua ?_
  refine Dk 1 (Ba 0) ?_
  refine Dk 0 Xc ?_
  refine Dk 0 Ua ?_
  refine Dk 1 (Cb rfl rfl J3q (fun u hu=>Jsf (nth a.acs.l f) (nth b.acs.l f) u (cAct.ext _ _ _ aw hu.below) (cAct.ext _ _ _ bw hu.below))) ?_
  refine Dd (Qc (CS.cond rfl ?_ ?_))<;>intro hc11<;>try simp only [bq] at hc11
  ·
   refine Nz 1 ?_
   exact Wd (Qc (Cr (Qs (Qr (Qr (Qs (Qr (out1 rfl rfl (Jah (by rw [Jbk (fun h=>by rw [Jbz ((Jeq h).ac f)] at hc11; cases hc11)]))))))))))
  refine Ck (Qb (Qc (Ny 1 ?_)))
  refine Wk 1 Za ?_
  refine Wd ?_
  exact QS.head (f+1) rfl rfl ⟨⟨by omega,by omega,fun j h0 h1=>by
     rcases (show j < f∨j=f by omega) with h | h
     ·
      exact hf3 j h0 h
     rw [h]; exact Jbv.1 hc11⟩,by omega⟩
 refine Cv (Qe (Qe (Qx (Qc (Cs (Nz 1 ?_))))))
 refine Wd (Qc (Ce ?_))
 refine CS.loopM (σ:=Int) [4,211,212,213,214,215,216,217,218,219,220,221,222,223,224,225,226,227,228,229,230,231,232,233,234,235,236,237,238,239,240,241,242,243,244,245,246] (fun s=>[(14,.int .i64 s)]) (fun _=>_) (fun s=>0≤s∧s≤a.aus.l.length∧∀ j:Int,0≤j→j < s→(nth a.aus.l j).e=(nth b.aus.l j).e) (fun s=>(a.aus.l.length - s).toNat) 0 (fun _ _=>rfl) rfl rfl ⟨by omega,by omega,fun j _ _=>by omega⟩ ?_
 intro k t hs
 obtain ⟨hk1,hk2,hk3⟩:=hs
 refine Cs (Nz 2 ?_)
 refine Wk 0 (Ba 1) ?_
 refine Wk 1 Nc ?_
 refine Wd (Qc (CS.cond rfl ?_ ?_))<;>intro hc12<;>try simp only [bq] at hc12
 ·
  have aw:SlT cLit w (nth a.aus.l k).wh:=ha.aus.at hk1 (by omega)
  have bw:SlT cLit w (nth b.aus.l k).wh:=hb.aus.at hk1 (by omega)
  refine Ck (Qc (Cs (Ce (Cs (Dr mixed 1 ?_)))))
  refine Dk 1 (Ba 1) ?_
  refine Dk 1 Xc ?_
  refine Dk 1 (Jow 3 1 2 rfl aaus rfl ⟨by omega,by omega⟩ rfl rfl tk75) ?_
  refine Dk 1 (Ba 0) ?_
  refine Dk 1 Xc ?_
  refine Dk 0 (Jow 3 1 2 rfl baus rfl ⟨by omega,by omega⟩ rfl rfl tk75) ?_
  refine Dk 1 (Jdu Jw4 rfl rfl (@Jy9 (nth a.aus.l k) (nth b.aus.l k))) ?_
  refine Df 0 rfl rfl (fun hg=>Ff) ?_
  refine Df 0 rfl rfl (fun hg=>Ba 1) ?_
  refine Df 0 rfl rfl (fun hg=>Fm) ?_
  refine Df 0 rfl rfl (fun hg=>Xc (eg_ hg rfl)) ?_
  refine Df 0 rfl rfl (fun hg=>Ff) ?_
  refine Df 0 rfl rfl (fun hg=>Uc 3 0) ?_
  refine Df 0 rfl rfl (fun hg=>Ff) ?_
  refine Df 0 rfl rfl (fun hg=>Ba 0) ?_
  refine Df 0 rfl rfl (fun hg=>Fm) ?_
  refine Df 0 rfl rfl (fun hg=>Xc (eg_ hg rfl)) ?_
  refine Df 0 rfl rfl (fun hg=>Ff) ?_
  refine Df 0 rfl rfl (fun hg=>Uc 3 0) ?_
  refine Df 0 rfl rfl (fun hg=>Cb rfl (ec_ (eg_ hg rfl) (ec_ (eg_ hg rfl) en_)) Jm4 (fun u hu=>Jcw _ _ u (aw.st hu) (bw.st hu))) ?_
  refine Df 0 rfl rfl (fun hg=>Fn) ?_
  refine Dk 0 Po ?_
  refine Dd (Qc (CS.cond rfl ?_ ?_))<;>intro hc13<;>try simp only [bq] at hc13
  ·
   refine Nz 1 ?_
   refine Wd (Qc (Cr (Qs (Qr (Qr (Qs (Qr ?_)))))))
   exact out1 rfl rfl (Jah (by rw [Jbk (fun h=>by
      have q:=(Jeq h).au k
      simp only [q.1,q.2.1,q.2.2,Jbz] at hc13
      simp at hc13)]))
  refine Ck (Qb (Qc (Ny 1 ?_)))
  refine Wk 1 Za ?_
  refine Wd ?_
  exact QS.head (k+1) rfl rfl ⟨⟨by omega,by omega,fun j h0 h1=>by
     rcases (show j < k∨j=k by omega) with h | h
     ·
      exact hk3 j h0 h
     rw [h]; exact Jx9 hc13.1.1 hc13.1.2 (Jbv.1 hc13.2)⟩,by omega⟩
 refine Cv (Qe (Qe (Qx (Qc (Nz 1 ?_)))))
 exact Wd (Qc (Cr (out1 rfl rfl (Jah (by rw [Jbz (Jyi (Jga hc2 (by omega) ha_3) (Jga hc4 (by omega) hb_3) (Jb7 Pro.e hc6 (by omega) hd3) (Jb7 Way.e hc8 (by omega) he3) (Jb7 Actn.e hc10 (by omega) hf3) (Jb7 Auto.e hc12 (by omega) hk3) (by omega) hgl)])))))
end Go.Proofs.YtkekjhcmephhjaaGreatDoor
