/- Merged texts of this proof (walks and plain laws), printed by a program of the prover. -/
import Derived.Test.YtdpbapffdmahnaaGreatDoorZj
import Derived.Test.YtdpbapffdmahnaaGreatDoorZb
import Derived.Test.YtdpbapffdmahnaaGreatDoorZk
import Derived.Test.YtdpbapffdmahnaaGreatDoorZc
set_option maxHeartbeats 8000000
namespace Go.Proofs.YtdpbapffdmahnaaGreatDoor
open Go.RowKit Go.Proofs
set_option maxRecDepth 100000
set_option linter.unusedVariables false
set_option linter.unusedSimpArgs false
def mvV (x:Move):Value:=.agg #[.int .i64 x.p,.int .i64 x.k,.int .i64 x.n]
theorem Jlf (r:Room) (w:World) (hr:RoomOk w r) (hR:Ready r) (b:Nat) :
  Iter Tryz.prog w 96 [.pointer (some ⟨b,0,none⟩)] [blk b [r.pls.v,r.ths.v,r.prs.v,r.wys.v,r.acs.v,r.aus.v,.int .i64 r.ply,r.gl.v] 31] (fun v x=>fact (v=mvV x)) (allM r r.ply.toNat):=by
 intro lp C Cx hy u hu
 have kpl:=hr.pls
 have lpl:=hr.pls.le
 have kth:=hr.ths
 have lth:=hr.ths.le
 have kpr:=hr.prs
 have lpr:=hr.prs.le
 have kwy:=hr.wys
 have lwy:=hr.wys.le
 have kac:=hr.acs
 have lac:=hr.acs.le
 have kau:=hr.aus
 have lau:=hr.aus.le
 have kgl:=hr.gl
 have lgl:=hr.gl.le
 have hply:=hR.ply
 have hlen:=hR.lens
 have hc5:(cntL r).length=5:=rfl
 refine Jhb hu Tryz.func96 rfl rfl (Nat.le_of_ble_eq_true rfl) ?_
 refine Nz 1 ?_
 refine Wk 1 (Ba 1) ?_
 refine Wd (Qc (Ce ?_))
 refine CS.loopM (σ:=Int) [3,4,5,6,10,11,12,13,14,15,16,17,18,19,20,21,22,23,24,25,26,27,28,29,30,31,32,33,34,35,36,37,38,39,40,41,42,43,44] (fun s=>[(9,.int .i64 s)]) (fun s=>[C (upM r s 0 0),blk b [r.pls.v,r.ths.v,r.prs.v,r.wys.v,r.acs.v,r.aus.v,.int .i64 r.ply,r.gl.v] 31]) (fun s=>0≤s∧s≤r.ply) (fun s=>(r.ply - s).toNat) 0 (fun _ _=>rfl) rfl rfl ⟨by omega,by omega⟩ ?_
 intro p t hs
 obtain ⟨hp1,hp2⟩:=hs
 refine Nz 1 ?_
 refine Wd (Qc (Cs (CS.cond rfl ?_ ?_)))<;>intro hc1<;>try simp only [bq] at hc1
 ·
  refine Ck (Qc (Cs (Ce (Nz 2 ?_))))
  refine Wd (Qc (Nz 1 ?_))
  refine Wk 0 (Ba 1) ?_
  refine Wk 1 Nc ?_
  refine Wk 0 (Ba 1) ?_
  refine Wk 1 Nc ?_
  refine Wk 0 (Ba 1) ?_
  refine Wk 1 Nc ?_
  refine Wk 0 (Ba 1) ?_
  refine Wk 0 Nc ?_
  refine WS.buildHole sl32 zv3 rfl rfl rfl rfl (fun _=>rfl) ?_; intro v24
  refine Wk 1 (Jkr (xs:=cntL r) (j:=0) sl32 rfl rfl) ?_
  refine Wd (Qc (Ce ?_))
  refine CS.sel [1,0,0] rfl ?_
  refine CS.loopM (σ:=Int) [4,5,6,27,28,29,30,31,32,33,34,35,36,37,38,39,40,41,42,43] (fun s=>[(26,.int .i64 s)]) (fun s=>[C (upM r p s 0),oints 3 v24 (cntL r),blk b [r.pls.v,r.ths.v,r.prs.v,r.wys.v,r.acs.v,r.aus.v,.int .i64 r.ply,r.gl.v] 31]) (fun s=>0≤s∧s≤5) (fun s=>(5 - s).toNat) 0 (fun _ _=>rfl) rfl rfl ⟨by omega,by omega⟩ ?_
  intro k t hs
  obtain ⟨hk1,hk2⟩:=hs
  refine Nz 1 ?_
  refine Wd (Qc (Cs (CS.cond rfl ?_ ?_)))<;>intro hc2<;>try simp only [bq] at hc2
  ·
   have hca:=Jjv r hk1 (by omega)
   have hcm:0≤nth (cntL r) k∧nth (cntL r) k≤24:=by
      have hbig:(cntM r k.toNat:Int)≤24:=by
       rcases (show k=0∨k=1∨k=2∨k=3∨k=4 by omega) with h | h | h | h | h <;> subst h <;> simp [cntM] <;> omega
      omega
   refine Ck (Qc (Cs (Ce (Nz 1 ?_))))
   refine Wk 0 (Xb 1) ?_
   refine Wk 2 (Ib 1) ?_
   refine Wd (Qc (Nz 2 ?_))
   refine Wd (Qc (Ce ?_))
   refine CS.loopM (σ:=Int) [6,33,34,35,36,37,38,39,40,41,42] (fun s=>[(32,.int .i64 s)]) (fun s=>[C (upM r p k s),oints 3 v24 (cntL r),blk b [r.pls.v,r.ths.v,r.prs.v,r.wys.v,r.acs.v,r.aus.v,.int .i64 r.ply,r.gl.v] 31]) (fun s=>0≤s∧s≤nth (cntL r) k) (fun s=>(nth (cntL r) k - s).toNat) 0 (fun _ _=>rfl) rfl rfl ⟨by omega,by omega⟩ ?_
   intro n t hs
   obtain ⟨hn1,hn2⟩:=hs
   refine Nz 1 ?_
   refine Wd (Qc (Cs (CS.cond rfl ?_ ?_)))<;>intro hc3<;>try simp only [bq] at hc3
   ·
    obtain ⟨post,hspl⟩:=Ji1 (r:=r) (p:=p) (j:=k) (n:=n) ⟨hp1,by omega⟩ ⟨hk1,by omega⟩ ⟨hn1,by omega⟩
    refine Ck (Qc (Cs (Ce (Nz 2 ?_))))
    refine Wd (Qc (Nz 4 ?_))
    refine Wk 0 (Db Jo2 zv72) ?_
    refine WS.yield (L':=fun b'=>[cond b' (C (upM r p k n++[(⟨p,k,n⟩:Move)])) (Cx (upM r p k n++[(⟨p,k,n⟩:Move)])),oints 3 v24 (cntL r),blk b [r.pls.v,r.ths.v,r.prs.v,r.wys.v,r.acs.v,r.aus.v,.int .i64 r.ply,r.gl.v] 31]) rfl rfl rfl (fun u hu=>(Jgh (B:=fact (mvV ⟨p,k,n⟩=mvV ⟨p,k,n⟩)) (fun F' u' hu'=>hy _ _ _ hspl F' _ u' hu') (hu.factI rfl)).mono (fun e u' h=>let ⟨b',he,hs⟩:=h; ⟨b',he,hs.tail⟩)) (fun _=>rfl) ?_; intro b'
    refine Wz 1 ?_
    refine Wd (Qc (CS.cond rfl ?_ ?_))<;>intro hc4<;>try simp only [bq] at hc4
    ·
     obtain rfl:b'=false:=by simpa using hc4
     exact Cr (Qs (Qr (Qr (Qs (Qs (Qr (Qr (Qs (Qs (Qr (Qr (Qs (out0 (Or.inl rfl) rfl (fun u hu=>⟨⟨_,rfl⟩,.inr ⟨_,_,_,hspl,hu.sel [0,1] rfl⟩⟩))))))))))))))
    obtain rfl:b'=true:=by simpa using hc4
    refine Ck (Qb (Qc (Ny 0 ?_)))
    refine Wk 1 Za ?_
    exact Wd (QS.head (n+1) rfl (by rw [← Jhs hn1]; rfl) ⟨⟨by omega,by omega⟩,by omega⟩)
   refine Cv (Qe (Qe (Qx (Qb (Qc (Ny 0 ?_))))))
   refine Wk 1 Za ?_
   exact Wd (QS.head (k+1) rfl (by rw [← Jpo hk1, ← Jjv r hk1 (by omega),show n=nth (cntL r) k by omega]) ⟨⟨by omega,by omega⟩,by omega⟩)
  refine Cv (Qe (Qe (Qx (Qb (Qc (Ny 0 ?_))))))
  refine Wk 1 Za ?_
  refine Wd ?_
  refine QS.sel [0,1] rfl ?_
  exact QS.head (p+1) rfl (by simp only [← Jpv hp1,show k=5 by omega]) ⟨⟨by omega,by omega⟩,by omega⟩
 exact Cv (Qe (Qe (Qx (out0 (Or.inr rfl) rfl (fun u hu=>⟨⟨_,rfl⟩,.inl (by rw [← Jm8 r (p:=p) (by omega)]; exact hu)⟩)))))
theorem Jnb (r:Room) (w:World) :
  Calls Tryz.prog 50 #[.agg #[r.pls.v,r.ths.v,r.prs.v,r.wys.v,r.acs.v,r.aus.v,.int .i64 r.ply,r.gl.v]] w (fun e w'=>∃ b:Nat,True∧RetF w (.func (.func 96) #[] #[.pointer (some ⟨b,0,none⟩)]) (blk b [r.pls.v,r.ths.v,r.prs.v,r.wys.v,r.acs.v,r.aus.v,.int .i64 r.ply,r.gl.v] 31) e w'):=by
 refine enter Tryz.func50 rfl rfl (Nat.le_of_ble_eq_true rfl) ?_
 refine Nz 0 ?_
 refine Wb 1 rfl rfl (fun _=>rfl) (fun _=>rfl) fun b1 hb1=>?_
 refine Wd (Qc (Nz 0 ?_))
 refine Wk 1 (Jak rfl) ?_
 exact Wd (Qc (Cr (out1 rfl rfl (fun u hu=>⟨b1,trivial,retF (j:=0) rfl u hu⟩))))
theorem Jkt (r:Room) (w:World) (hr:RoomOk w r) (g:Sl ByteArray) (hG:GOk w g) (hn:Near r) (z:Stt) (hz:SttOk w z) :
  Calls Tryz.prog 22 #[.agg #[r.pls.v,r.ths.v,r.prs.v,r.wys.v,r.acs.v,r.aus.v,.int .i64 r.ply,r.gl.v],.agg #[z.ths.v,z.prs.v,z.pls.v]] w (RetM w (LegalV r z.x).2 fun v=>.tuple #[v,.int .i64 (LegalV r z.x).1]):=by
 refine Jon St.nil Tryz.func22 rfl rfl (Nat.le_of_ble_eq_true rfl) ?_
 refine Nz 0 ?_
 refine Wb 0 rfl rfl (fun _=>rfl) (fun _=>rfl) fun b2 hb2=>?_
 refine Wb 0 rfl rfl (fun _=>rfl) (fun _=>rfl) fun b3 hb3=>?_
 refine Wl 1 zv73 (fun _=>rfl) (fun _=>rfl) fun b4 hb4=>?_
 refine Wd (Qc (Cs (Nz 0 ?_)))
 refine Wk 0 (Bb 2) ?_
 refine Wk 0 (Bb 1) ?_
 refine Wk 1 (Cb rfl rfl Jnk (fun u hu=>Jcc r u (hr.st hu) g (hG.st hu) hn z (hz.st hu))) ?_
 refine Wd (Qc (Nz 2 ?_))
 refine Wd (Qc (CS.cond rfl ?_ ?_))<;>intro hc1<;>try simp only [bq] at hc1
 ·
  have hS:¬ stL r z.x=0:=hc1
  refine Nz 1 ?_
  refine Ws 1 0 ?_
  refine Wd (Qc (Cr (Qr ?_)))
  exact outE (Or.inl rfl) (Jeg rfl (Jkc (j:=0) rfl rfl rfl tk73) rfl) (by
    have hv:LegalV r z.x=(stL r z.x,[]):=if_neg hS
    rw [hv]
    exact fun u hu=>Jpm (f:=fun v=>.tuple #[v,.int .i64 (stL r z.x)]) hu)
 have hc1:Jdp r z=0:=hc1
 have hc1:stL r z.x=0:=hc1
 have hS:stL r z.x=0:=by omega
 obtain ⟨hC,hI⟩:=Jds.1 hS
 have hR:=Jcm hC
 have hlen:=hR.lens
 have hply:=hR.ply
 have hlt:z.ths.l.length=r.ths.l.length:=hI.lt
 have hlp:z.prs.l.length=r.prs.l.length:=hI.lp
 have hll:(z.pls.l.length:Int)=r.ply:=hI.ll
 refine Ck (Qc (Nz 0 ?_))
 refine Wk 0 (Bb 2) ?_
 refine Wk 0 (Bb 1) ?_
 refine Wc rfl rfl Jlz (fun u hu=>Jld r u (hr.st hu) z (hz.st hu) (hI.small hR)) (fun _=>rfl) ?_; rintro ⟨tb,va,vb,vc⟩ ⟨hva,hvb,hvc⟩
 refine WS.unpack ?_
 refine Wl 0 Jqe (fun _=>rfl) (fun _=>rfl) fun b7 hb7=>?_
 refine Ws 0 0 ?_
 refine Wd (Qc (Cs (Nz 0 ?_)))
 refine Wk 0 (Bb 7) ?_
 refine Wc rfl rfl Jqc (fun u hu=>Jnb r u) (fun _=>rfl) ?_; intro bm _
 refine Wd (Qc (Ce ?_))
 refine CS.sel [6,2,2,2,2,1,0] rfl ?_
 refine CS.weak (L':=[exS fun q:Value=>star [blk b4 [q] 73,oT cMove 72 q ([])],blk tb [r.pls.v,r.ths.v,r.prs.v,r.wys.v,r.acs.v,r.aus.v,.int .i64 r.ply,r.gl.v,va,vb,vc] 146,oints 3 va (z.ths.l),oints 3 vb (z.prs.l),oints 3 vc (z.pls.l),blk b7 [.pointer (some ⟨tb,0,none⟩)] 103]++[blk bm [r.pls.v,r.ths.v,r.prs.v,r.wys.v,r.acs.v,r.aus.v,.int .i64 r.ply,r.gl.v] 31]) (fun u hu=>St.exI (Value.slice none 0 0) (St.pack (L1:=[_,_]) ((hu.osl0 (e:=72) (size:=3)).sel [1,0,0,0,0,0,0,0] rfl))) ?_
 refine CS.rangeB (V:=mvV) (cMove.cells) (fun _=>rfl) (fun _=>rfl) (fun x=>cMove.one w x trivial) zv72 rfl tk72 (by decide) (A:=[blk bm [r.pls.v,r.ths.v,r.prs.v,r.wys.v,r.acs.v,r.aus.v,.int .i64 r.ply,r.gl.v] 31]) rfl Jp4 (Jlf r w hr hR bm) (fun pre=>[exS fun q:Value=>star [blk b4 [q] 73,oT cMove 72 q (pre.filter (legalB r z.x))],blk tb [r.pls.v,r.ths.v,r.prs.v,r.wys.v,r.acs.v,r.aus.v,.int .i64 r.ply,r.gl.v,va,vb,vc] 146,oints 3 va (z.ths.l),oints 3 vb (z.prs.l),oints 3 vc (z.pls.l),blk b7 [.pointer (some ⟨tb,0,none⟩)] 103]) (fun kd pre=>match kd with | _=>[fact False]) (fun _=>rfl) (Nat.le_of_ble_eq_true rfl) (fun _ _=>rfl) (fun _=>Nat.le_of_ble_eq_true rfl) ?_ ?_ ?_
 ·
  intro lr pre x post v b8 F hall
  have hal:=Jg4 hR r.ply.toNat
  rw [hall] at hal
  simp only [List.length_append,List.length_cons] at hal
  have hfl:=List.length_filter_le (legalB r z.x) pre
  refine CS.factE (j:=1) rfl (fun hv=>?_)
  subst hv
  refine CS.sel [2,0,0,0,0,0,0,0,0] rfl ?_
  refine CS.ex ?_; intro q
  refine CS.unpack ?_
  refine Ce (Nz 0 ?_)
  refine Wk 0 (Ba 8) ?_
  refine Wk 0 (Bb 2) ?_
  refine Wk 0 (Cb rfl rfl Jnt (fun u hu=>Jhc tb r ⟨⟨va,z.ths.l⟩,⟨vb,z.prs.l⟩,⟨vc,z.pls.l⟩⟩ u ⟨Jao hu (j:=4) rfl,hr.st hu,(Jan hu (j:=5) rfl).tree,(Jan hu (j:=6) rfl).tree,(Jan hu (j:=7) rfl).tree⟩ hR hI x)) ?_
  refine Wd (Qc (CS.cond rfl ?_ ?_))<;>intro hc2<;>try simp only [bq] at hc2
  ·
   have hc2:legalB r z.x x=true:=hc2
   refine Ny 0 ?_
   refine Wk 0 (Ba 0) ?_
   refine Wk 0 (Bb 2) ?_
   refine WS.buildT1 cMove (a:=x) sl73 zv72 rfl (by decide) (fun _=>rfl) ?_; intro v26
   refine WS.appendT1 (j:=2) (jz:=0) sl73 zv72 rfl (by decide) rfl rfl rfl rfl (w:=w) trivial (by omega) (by omega) (fun _=>rfl) (fun _=>rfl) ?_; intro v27 hv27
   refine Ws 0 1 ?_
   refine Wd (Qb ?_)
   refine QS.sel [1,1,2,2,2,2,2,2,2] rfl ?_
   exact fun u hu=>by
    change St _ _ (_::(_++[_])) u
    dsimp only
    rw [List.filter_append,show [x].filter (legalB r z.x)=[x] by simp [hc2]]
    exact St.perm (St.exI (f:=fun q:Value=>star [blk b4 [q] 73,oT cMove 72 q (pre.filter (legalB r z.x)++[x])]) v27 (St.pack (L1:=[_,_]) hu)) (List.Perm.swap _ _ _)
  have hc2:legalB r z.x x=false:=hc2
  refine Ck (Qb ?_)
  refine QS.sel [0,0,1,1,1,1,1,1,1] rfl ?_
  exact fun u hu=>by
   change St _ _ (_::(_++[_])) u
   dsimp only
   rw [List.filter_append,show [x].filter (legalB r z.x)=[] by simp [hc2],List.append_nil]
   exact St.perm (St.exI (f:=fun q:Value=>star [blk b4 [q] 73,oT cMove 72 q (pre.filter (legalB r z.x))]) q (St.pack (L1:=[_,_]) hu)) (List.Perm.swap _ _ _)
 ·
  intro D
  refine QS.sel [1,0] rfl ?_
  refine QS.ex ?_; intro q
  refine QS.unpack ?_
  refine QS.oc (j:=1) rfl (fun hq=>?_)
  refine Qb (Qc (Nz 0 ?_))
  refine Wk 0 (Ba 0) ?_
  refine Ws 1 0 ?_
  refine Wd (Qc (Cr ?_))
  exact outM (j:=2) (Or.inl rfl) rfl (Jeg rfl (Jkc (j:=0) rfl rfl rfl tk73) rfl) (by
    have hv:LegalV r z.x=(0,(allM r r.ply.toNat).filter (legalB r z.x)):=(if_pos hS).trans (by rw [Jeb hR]; rfl)
    rw [hv]
    exact fun u hu=>retM (f:=fun v=>.tuple #[v,.int .i64 0]) (j:=1) rfl hu)
 intro D kd pre x post hall
 cases kd with
 | _=>exact fun u hu=>(hu.factE (j:=1) rfl).elim
end Go.Proofs.YtdpbapffdmahnaaGreatDoor
