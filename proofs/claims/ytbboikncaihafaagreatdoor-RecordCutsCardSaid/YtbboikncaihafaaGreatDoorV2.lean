/- Contracts of functions, printed by a program of the prover (gen.py). -/
import Derived.Test.YtbboikncaihafaaGreatDoorXi
import Derived.Test.YtbboikncaihafaaGreatDoorXe
import Derived.Test.YtbboikncaihafaaGreatDoorY0
set_option maxHeartbeats 8000000
namespace Go.Proofs.YtbboikncaihafaaGreatDoor
open Go.RowKit Go.Proofs
set_option maxRecDepth 100000
set_option linter.unusedVariables false
set_option linter.unusedSimpArgs false
theorem Jpc (G:Game) (w:World) (hG:GameOk w G) (g:Sl ByteArray) (hW:GOk w g) (l:Sl Entr) (hk:SlT cEntry w l) (tick:Int) :
  Calls Tryz.prog 6 #[.agg #[G.rm.pls.v,G.rm.ths.v,G.rm.prs.v,G.rm.wys.v,G.rm.acs.v,G.rm.aus.v,.int .i64 G.rm.ply,G.rm.gl.v,G.lks.v,G.cds.v,G.nts.v,.int .i64 G.tr],l.v,.int .i64 tick] w (RetB w (.bool true)):=by
 have lls:=hk.le
 refine enter Tryz.func6 rfl rfl (Nat.le_of_ble_eq_true rfl) ?_
 refine Nz 0 ?_
 refine Wb 1 rfl rfl (fun _=>rfl) (fun _=>rfl) fun b3 hb3=>?_
 refine Wd (Qc (Cs (Nz 0 ?_)))
 refine Wk 0 (Bb 0) ?_
 refine Wk 1 (Cb rfl rfl ent7 (fun u hu=>J4e G u (hG.st hu))) ?_
 refine Wf 0 rfl rfl (fun hg=>Fm) ?_
 refine Wf 0 rfl rfl (fun hg=>Nc (eg_ hg rfl)) ?_
 refine Wf 0 rfl rfl (fun hg=>Fg) ?_
 refine Wk 0 Po ?_
 refine Wd (Qc (CS.cond rfl ?_ ?_))<;>intro hc1<;>try simp only [bq] at hc1
 ·
  refine Nz 0 ?_
  refine Wk 1 (Cb rfl rfl Jhz (fun u hu=>Jcn u g (hW.st hu))) ?_
  exact Wd (Qc (Cr (Qr (out1 rfl rfl retB))))
 have hn:NearG G:=Jkd.1 hc1.1
 refine Ck (Qc (Nz 0 ?_))
 refine Wk 0 (Bb 0) ?_
 refine Wc rfl rfl J0e (fun u hu=>Jm1 G u (hG.st hu) hn) (fun _=>rfl) ?_; rintro c ⟨hcp,uc,hcok⟩
 have hnc:=Jpn hcp hn
 have o1:=Sl.one hcok.rm.pls
 have o2:=Sl.one hcok.rm.ths
 have o3:=Sl.one hcok.rm.prs
 have o4:=Sl.one hcok.rm.wys
 have o5:=Sl.one hcok.rm.acs
 have o6:=Sl.one hcok.rm.aus
 have o7:=Sl.one hcok.rm.gl
 have o8:=Sl.one hcok.lks
 have o9:=Sl.one hcok.cds
 have o10:=Sl.one hcok.nts
 refine Wl 0 zv36 (fun _=>rfl) (fun _=>rfl) fun b7 hb7=>?_
 refine Wv 0 0 ?_
 refine Wd (Qc (Cs ?_))
 refine CS.drawnAll (k:=10) Jah rfl rfl ?_
 refine Ak 0 [1,3] rfl (Bb 0) ?_
 refine Ao 2 rfl ?_
 refine Wc rfl rfl Jhr (fun u hu=>Jb4 l u (hk.st hu) (by omega)) (fun _=>rfl) ?_; rintro v37 ⟨u37,h37⟩
 refine Wd (Qa ?_)
 refine Ao 4 rfl ?_
 refine Wc rfl rfl Kc1 (fun u hu=>(by have q:=Kbs c u (hu.ro (j:=2) rfl) hnc g (hW.st hu) ⟨v37,l.l⟩ (hu.ro (j:=0) rfl) (by show l.l.length≤1000; omega) tick; rw [hcp] at q; exact q)) (fun _=>rfl) ?_; rintro v39 ⟨u39,h39⟩
 refine Wd (Qa ?_)
 refine Ar [5,6,7,8,9] ?_
 refine Ae ?_
 refine Qc (Nz 0 ?_)
 refine Wk 2 (Bb 4) ?_
 refine Wc rfl rfl Kcd (fun u hu=>J7i G u (hG.st hu) hn l (hk.st hu) tick) (fun _=>rfl) ?_; rintro v46 ⟨u46,h46⟩
 refine Wz 5 ?_
 refine Wd (Qc (Cs (Nz 2 ?_)))
 refine Wk 2 (Cb rfl rfl Jk6 (fun u hu=>Jgx ⟨v39,(CutV G.p l.l tick).2⟩ ⟨v46,(CutV G.p l.l tick).2⟩ u (hu.ro (j:=1) rfl) (hu.ro (j:=0) rfl))) ?_
 refine Wf 0 rfl rfl (fun hg=>Fm) ?_
 refine Wf 0 rfl rfl (fun hg=>Fm) ?_
 refine Wf 0 rfl rfl (fun hg=>Fr) ?_
 refine Wk 0 Po ?_
 refine Wd (Qc (CS.cond rfl ?_ ?_))<;>intro hc2<;>try simp only [bq] at hc2
 ·
  exact absurd hc2 (by simp)
 refine Ck (Qc (Cs (Nz 2 ?_)))
 refine Wd (Qc (CS.cond rfl ?_ ?_))<;>intro hc3<;>try simp only [bq] at hc3
 ·
  refine Nz 0 ?_
  refine Wk 1 (Cb rfl rfl Jhz (fun u hu=>Jcn u g (hW.st hu))) ?_
  exact Wd (Qc (Cr (Qr (out1 rfl rfl retB))))
 have hC0:(CutV G.p l.l tick).1=0:=by first | exact hc3 | simpa using hc3
 obtain ⟨hE,hEA,hM,hlA,hlB,hR1,hR2,R,hRR⟩:=Jwp hC0
 refine Ck (Qc (Cs ?_))
 refine CS.drawnAll (k:=9) Jah rfl rfl ?_
 refine Ak 0 [1] rfl (Bb 3) ?_
 refine Ao 2 rfl ?_
 refine Wc rfl rfl Jhr (fun u hu=>Jb4 ⟨v39,(CutV G.p l.l tick).2⟩ u (hu.ro (j:=1) rfl) (by show ((CutV G.p l.l tick).2.length:Int)≤1000000; omega)) (fun _=>rfl) ?_; rintro v64 ⟨u64,h64⟩
 refine Wd (Qa ?_)
 refine Ao 3 rfl ?_
 refine Wk 0 (Cb rfl rfl Kcp (fun u hu=>(by have q:=Jrb c u (hu.ro (j:=5) rfl) hnc g (hW.st hu) ⟨v64,(CutV G.p l.l tick).2⟩ (hu.ro (j:=0) rfl); rw [hcp] at q; exact q))) ?_
 refine Wd (Qa ?_)
 refine Ar [4,5,6,7,8] ?_
 refine Ae ?_
 refine Qc (Nz 1 ?_)
 refine Wd (Qc (Cs (Nz 1 ?_)))
 refine Wd (Qc (Ce ?_))
 refine CS.weak (fun _ hu=>hu.osl0 (e:=84) (size:=7)) ?_
 refine CS.sel [0,2,3,3] rfl ?_
 refine CS.loopM (σ:=Int × Value) [68,69,70,71,72,73,74,75,76,77,78,79,80,81,82,83,84,85,86,87] (fun s=>[(15,.int .i64 s.1),(14,s.2)]) (fun s=>[oT cEntry 84 s.2 ((l.l.take s.1.toNat).filter fun x=>decide (tick < x.t)),roT cEntry ⟨v39,(CutV G.p l.l tick).2⟩,blk b7 [c.rm.pls.v,c.rm.ths.v,c.rm.prs.v,c.rm.wys.v,c.rm.acs.v,c.rm.aus.v,.int .i64 c.rm.ply,c.rm.gl.v,c.lks.v,c.cds.v,c.nts.v,.int .i64 c.tr] 36,roS fun u=>GameOk u c]) (fun s=>0≤s.1∧s.1≤l.l.length) (fun s=>(l.l.length - s.1).toNat) (0,.slice none 0 0) (fun _ _=>rfl) rfl rfl ⟨by simp,by simp⟩ ?_
 intro s t hs
 obtain ⟨hs1,hs2⟩:=hs
 have hkl:=Jso (p:=fun x:Entr=>decide (tick < x.t)) (xs:=l.l) hs1 hs2
 refine Cs (Nz 2 ?_)
 refine Wk 1 Nc ?_
 refine Wd (Qc (CS.cond rfl ?_ ?_))<;>intro hc4<;>try simp only [bq] at hc4
 ·
  refine Ck (Qc (Cs (Ce (Nz 2 ?_))))
  refine Wk 1 Xc ?_
  refine Wk 2 (Uc 7 0) ?_
  refine Wd (Qc (CS.cond rfl ?_ ?_))<;>intro hc5<;>try simp only [bq] at hc5
  ·
   have hp:decide (tick < (nth l.l s.1).t)=true:=decide_eq_true hc5
   refine Ny 3 ?_
   refine Wk 0 Xc ?_
   refine Wk 0 Ua ?_
   refine WS.buildT1 cEntry (a:=(nth l.l s.1)) sl67 zv84 rfl (by decide) (fun _=>rfl) ?_; intro v86
   refine WS.appendT1 (C:=cEntry) (a:=(nth l.l s.1)) (j:=1) (jz:=0) sl67 zv84 rfl (by decide) rfl rfl rfl rfl (w:=w) trivial (by omega) (by omega) (fun _=>rfl) (fun _=>rfl) ?_; intro v87 hv87
   refine Wz 1 ?_
   refine Wd (Qb (Qc (Ny 1 ?_)))
   refine Wk 1 Za ?_
   refine Wd ?_
   refine QS.sel [1,1,1,1] rfl ?_
   exact QS.head ((s.1+1,v87)) rfl (by show [_,_,_,_]=[_,_,_,_]; rw [← Jtp hs1 (by omega) hp]) ⟨⟨by simp; omega,by simp; omega⟩,by simp; omega⟩
  have hp:decide (tick < (nth l.l s.1).t)=false:=decide_eq_false hc5
  refine Ck (Qb (Qc (Ny 1 ?_)))
  refine Wk 1 Za ?_
  exact Wd (QS.head ((s.1+1,s.2)) rfl (by show [_,_,_,_]=[_,_,_,_]; rw [← Jxh hs1 (by omega) hp]) ⟨⟨by simp; omega,by simp; omega⟩,by simp; omega⟩)
 have hta:l.l.take s.1.toNat=l.l:=List.take_of_length_le (by omega)
 rw [hta]
 refine Cv (Qe (Qe (Qx (Qc (Nz 1 ?_)))))
 refine Wc rfl rfl Jhr (fun u hu=>Jb4 ⟨v39,(CutV G.p l.l tick).2⟩ u (hu.ro (j:=1) rfl) (by show ((CutV G.p l.l tick).2.length:Int)≤1000000; omega)) (fun _=>rfl) ?_; rintro v90 ⟨u90,h90⟩
 refine Wz 1 ?_
 refine Wc rfl rfl Kdd (fun u hu=>J0r ⟨v90,(CutV G.p l.l tick).2⟩ ⟨s.2,l.l.filter fun x ↦ decide (tick < x.t)⟩ u (hu.ro (j:=0) rfl) ⟨Jbx hu (j:=1) rfl,fun _ _ ↦ trivial⟩ (by show (CutV G.p l.l tick).2.length≤_; omega) (by show (l.l.filter fun x ↦ decide (tick < x.t)).length≤_; omega)) (fun _=>rfl) ?_; rintro v92 ⟨u92,h92⟩
 refine Wz 5 ?_
 refine Wd (Qc (Cs ?_))
 refine CS.drawnAll (k:=12) Jah rfl rfl ?_
 refine Ak 0 [1] rfl (Bb 4) ?_
 refine AS.two (i:=2) (j:=8) (by kernel_rfl) rfl rfl (by first | exact fun _ h=>h | exact fun _ h=>h.sub (by repeat first | exact List.Sublist.refl _ | apply List.Sublist.cons_cons | apply List.Sublist.cons)) rfl rfl ?_ ?_
 ·
  refine Wc rfl rfl Jhr (fun u hu=>Jb4 l u (hk.st hu) (by omega)) (fun _=>rfl) ?_; rintro v98 ⟨u98,h98⟩
  refine Wd (Qa ?_)
  refine AS.two (i:=3) (j:=8) (by kernel_rfl) rfl rfl (by first | exact fun _ h=>h | exact fun _ h=>h.sub (by repeat first | exact List.Sublist.refl _ | apply List.Sublist.cons_cons | apply List.Sublist.cons)) rfl rfl ?_ ?_
  ·
   refine Wc rfl rfl Jja (fun u hu=>(by have q:=Jbc c u (hu.ro (j:=6) rfl) hnc g (hW.st hu) ⟨v98,l.l⟩ (hu.ro (j:=0) rfl); rw [hcp] at q; exact q)) (fun _=>rfl) ?_; rintro ⟨ra,p⟩ ⟨hra,hpx,up,hra1,hpok⟩
   dsimp only at hra hpx hra1 hpok
   obtain ⟨hpa,hpb,hpc⟩:=hpok.st.ones
   have hpd:=Sl.one hpok.rd
   refine Wd (Qa ?_)
   refine Ar [4,5,6,7] ?_
   refine Ao 8 rfl ?_
   refine Wl 0 zv47 (fun _=>rfl) (fun _=>rfl) fun b19 hb19=>?_
   refine Wd (Qa ?_)
   refine Ar [9] ?_
   refine Ao 10 rfl ?_
   refine Wv 0 0 ?_
   refine Wd (Qa ?_)
   refine Ar [11] ?_
   refine Ae ?_
   refine Qc (Cs ?_)
   refine CS.drawnAll (k:=12) Jah rfl rfl ?_
   refine Ak 0 [1] rfl (Bb 7) ?_
   refine AS.two (i:=2) (j:=8) (by kernel_rfl) rfl rfl (by first | exact fun _ h=>h | exact fun _ h=>h.sub (by repeat first | exact List.Sublist.refl _ | apply List.Sublist.cons_cons | apply List.Sublist.cons)) rfl rfl ?_ ?_
   ·
    refine Wc rfl rfl Jhr (fun u hu=>Jb4 ⟨v39,(CutV G.p l.l tick).2⟩ u (hu.ro (j:=6) rfl) (by show ((CutV G.p l.l tick).2.length:Int)≤1000000; omega)) (fun _=>rfl) ?_; rintro v106 ⟨u106,h106⟩
    refine Wd (Qa ?_)
    refine AS.two (i:=3) (j:=8) (by kernel_rfl) rfl rfl (by first | exact fun _ h=>h | exact fun _ h=>h.sub (by repeat first | exact List.Sublist.refl _ | apply List.Sublist.cons_cons | apply List.Sublist.cons)) rfl rfl ?_ ?_
    ·
     refine Wc rfl rfl Jja (fun u hu=>(by have q:=Jbc c u (hu.ro (j:=9) rfl) hnc g (hW.st hu) ⟨v106,(CutV G.p l.l tick).2⟩ (hu.ro (j:=0) rfl); rw [hcp] at q; exact q)) (fun _=>rfl) ?_; rintro ⟨rb,q⟩ ⟨hrb,hqx,uq,hrb1,hqok⟩
     dsimp only at hrb hqx hrb1 hqok
     obtain ⟨hqa,hqb,hqc⟩:=hqok.st.ones
     have hqd:=Sl.one hqok.rd
     have hrl:rb.l.length≤ra.l.length:=by have e1:=congrArg List.length hra; have e2:=congrArg List.length hrb; have e3:=congrArg List.length hRR; rw [List.length_map] at e1 e2; rw [List.length_append] at e3; omega
     refine Wd (Qa ?_)
     refine Ar [4,5,6,7] ?_
     refine Ao 8 rfl ?_
     refine Wl 0 zv47 (fun _=>rfl) (fun _=>rfl) fun b22 hb22=>?_
     refine Wd (Qa ?_)
     refine Ar [9] ?_
     refine Ao 10 rfl ?_
     refine Wv 0 0 ?_
     refine Wd (Qa ?_)
     refine Ar [11] ?_
     refine Ae ?_
     refine Qc (Nz 3 ?_)
     refine Wt 0 rfl rfl (fun hg=>Fm) ?_
     refine Wt 0 rfl rfl (fun hg=>Fq) ?_
     refine Wk 1 Pa ?_
     refine Wt 0 rfl rfl (fun hg=>Fm) ?_
     refine Wt 0 rfl rfl (fun hg=>Fm) ?_
     refine Wt 0 rfl rfl (fun hg=>Cb rfl (ec_ (eg_ hg rfl) (ec_ (eg_ hg rfl) en_)) Jk6 (fun u hu=>Jgx ⟨v92,_⟩ l u (hu.ro (j:=6) rfl) (hk.st hu))) ?_
     refine Wk 1 Pa ?_
     refine Wt 0 rfl rfl (fun hg=>Fm) ?_
     refine Wt 0 rfl rfl (fun hg=>Fq) ?_
     refine Wk 1 Pa ?_
     refine Wt 0 rfl rfl (fun hg=>Fm) ?_
     refine Wt 0 rfl rfl (fun hg=>Fq) ?_
     refine Wk 1 Pa ?_
     refine Wt 0 rfl rfl (fun hg=>Fm) ?_
     refine Wt 0 rfl rfl (fun hg=>Jay (s:=rb) sl33 (eg_ hg rfl) hrb1) ?_
     refine Wt 0 rfl rfl (fun hg=>Fm) ?_
     refine Wt 0 rfl rfl (fun hg=>Jay (s:=ra) sl33 (eg_ hg rfl) hra1) ?_
     refine Wt 0 rfl rfl (fun hg=>Fk) ?_
     refine Wk 1 Pa ?_
     refine Wt 0 rfl rfl (fun hg=>Fm) ?_
     refine Wt 0 rfl rfl (fun hg=>Fm) ?_
     refine Wt 0 rfl rfl (fun hg=>Fm) ?_
     refine Wt 0 rfl rfl (fun hg=>Jay (s:=rb) sl33 (eg_ hg rfl) hrb1) ?_
     refine Wt 0 rfl rfl (fun hg=>Jb5 sl33 (eg_ hg rfl) (eg_ hg rfl) hra1.sp (by omega) (by omega)) ?_
     refine Wt 0 rfl rfl (fun hg=>Cb rfl (ec_ (eg_ hg rfl) (ec_ (eg_ hg rfl) en_)) Jm5 (fun u hu=>(show Calls _ _ _ u (RetB u (.bool (decide (rb.l.map Sl.l=(ra.cut 1 0 rb.l.length).l.map Sl.l)))) from Jcu rb (ra.cut 1 0 rb.l.length) u (hu.ro (j:=1) rfl).1 (SlT.cut (C:=cSl cInt) (hu.ro (j:=4) rfl).1 (Nat.zero_le _) hrl)))) ?_
     refine Wk 1 Pa ?_
     refine Wt 0 rfl rfl (fun hg=>Cb rfl rfl Jhz (fun u hu=>Jcn u g (hW.st hu))) ?_
     refine Wk 1 Pa ?_
     refine Wd (Qc (Cr ?_))
     exact out1 rfl rfl (Jab (by
        have hcl:rb.l.map Sl.l=(ra.cut 1 0 rb.l.length).l.map Sl.l:=by
         show _=((ra.l.drop 0).take (rb.l.length - 0)).map Sl.l
         rw [List.drop_zero,Nat.sub_zero,List.map_take,hra,hRR,hrb,List.take_append_of_le_length (by rw [← hrb,List.length_map]; exact Nat.le_refl _),List.take_of_length_le (by rw [← hrb,List.length_map]; exact Nat.le_refl _)]
        simp [hEA,hM,hR1,hR2,hrl,hcl]))
    refine Wl 0 zv47 (fun _=>rfl) (fun _=>rfl) fun b22 hb22=>?_
    refine Wd (Qa ?_)
    refine Ao 3 rfl ?_
    refine Wc rfl rfl Jja (fun u hu=>(by have q:=Jbc c u (hu.ro (j:=10) rfl) hnc g (hW.st hu) ⟨v106,(CutV G.p l.l tick).2⟩ (hu.ro (j:=1) rfl); rw [hcp] at q; exact q)) (fun _=>rfl) ?_; rintro ⟨rb,q⟩ ⟨hrb,hqx,uq,hrb1,hqok⟩
    dsimp only at hrb hqx hrb1 hqok
    obtain ⟨hqa,hqb,hqc⟩:=hqok.st.ones
    have hqd:=Sl.one hqok.rd
    have hrl:rb.l.length≤ra.l.length:=by have e1:=congrArg List.length hra; have e2:=congrArg List.length hrb; have e3:=congrArg List.length hRR; rw [List.length_map] at e1 e2; rw [List.length_append] at e3; omega
    refine Wd (Qa ?_)
    refine Ar [4,5,6,7,9] ?_
    refine Ao 10 rfl ?_
    refine Wv 0 1 ?_
    refine Wd (Qa ?_)
    refine Ar [11] ?_
    refine Ae ?_
    refine Qc (Nz 3 ?_)
    refine Wt 0 rfl rfl (fun hg=>Fm) ?_
    refine Wt 0 rfl rfl (fun hg=>Fq) ?_
    refine Wk 1 Pa ?_
    refine Wt 0 rfl rfl (fun hg=>Fm) ?_
    refine Wt 0 rfl rfl (fun hg=>Fm) ?_
    refine Wt 0 rfl rfl (fun hg=>Cb rfl (ec_ (eg_ hg rfl) (ec_ (eg_ hg rfl) en_)) Jk6 (fun u hu=>Jgx ⟨v92,_⟩ l u (hu.ro (j:=6) rfl) (hk.st hu))) ?_
    refine Wk 1 Pa ?_
    refine Wt 0 rfl rfl (fun hg=>Fm) ?_
    refine Wt 0 rfl rfl (fun hg=>Fq) ?_
    refine Wk 1 Pa ?_
    refine Wt 0 rfl rfl (fun hg=>Fm) ?_
    refine Wt 0 rfl rfl (fun hg=>Fq) ?_
    refine Wk 1 Pa ?_
    refine Wt 0 rfl rfl (fun hg=>Fm) ?_
    refine Wt 0 rfl rfl (fun hg=>Jay (s:=rb) sl33 (eg_ hg rfl) hrb1) ?_
    refine Wt 0 rfl rfl (fun hg=>Fm) ?_
    refine Wt 0 rfl rfl (fun hg=>Jay (s:=ra) sl33 (eg_ hg rfl) hra1) ?_
    refine Wt 0 rfl rfl (fun hg=>Fk) ?_
    refine Wk 1 Pa ?_
    refine Wt 0 rfl rfl (fun hg=>Fm) ?_
    refine Wt 0 rfl rfl (fun hg=>Fm) ?_
    refine Wt 0 rfl rfl (fun hg=>Fm) ?_
    refine Wt 0 rfl rfl (fun hg=>Jay (s:=rb) sl33 (eg_ hg rfl) hrb1) ?_
    refine Wt 0 rfl rfl (fun hg=>Jb5 sl33 (eg_ hg rfl) (eg_ hg rfl) hra1.sp (by omega) (by omega)) ?_
    refine Wt 0 rfl rfl (fun hg=>Cb rfl (ec_ (eg_ hg rfl) (ec_ (eg_ hg rfl) en_)) Jm5 (fun u hu=>(show Calls _ _ _ u (RetB u (.bool (decide (rb.l.map Sl.l=(ra.cut 1 0 rb.l.length).l.map Sl.l)))) from Jcu rb (ra.cut 1 0 rb.l.length) u (hu.ro (j:=0) rfl).1 (SlT.cut (C:=cSl cInt) (hu.ro (j:=4) rfl).1 (Nat.zero_le _) hrl)))) ?_
    refine Wk 1 Pa ?_
    refine Wt 0 rfl rfl (fun hg=>Cb rfl rfl Jhz (fun u hu=>Jcn u g (hW.st hu))) ?_
    refine Wk 1 Pa ?_
    refine Wd (Qc (Cr ?_))
    exact out1 rfl rfl (Jab (by
       have hcl:rb.l.map Sl.l=(ra.cut 1 0 rb.l.length).l.map Sl.l:=by
        show _=((ra.l.drop 0).take (rb.l.length - 0)).map Sl.l
        rw [List.drop_zero,Nat.sub_zero,List.map_take,hra,hRR,hrb,List.take_append_of_le_length (by rw [← hrb,List.length_map]; exact Nat.le_refl _),List.take_of_length_le (by rw [← hrb,List.length_map]; exact Nat.le_refl _)]
       simp [hEA,hM,hR1,hR2,hrl,hcl]))
   refine Wl 0 zv47 (fun _=>rfl) (fun _=>rfl) fun b22 hb22=>?_
   refine Wd (Qa ?_)
   refine Ao 2 rfl ?_
   refine Wc rfl rfl Jhr (fun u hu=>Jb4 ⟨v39,(CutV G.p l.l tick).2⟩ u (hu.ro (j:=7) rfl) (by show ((CutV G.p l.l tick).2.length:Int)≤1000000; omega)) (fun _=>rfl) ?_; rintro v106 ⟨u106,h106⟩
   refine Wd (Qa ?_)
   refine Ao 3 rfl ?_
   refine Wc rfl rfl Jja (fun u hu=>(by have q:=Jbc c u (hu.ro (j:=10) rfl) hnc g (hW.st hu) ⟨v106,(CutV G.p l.l tick).2⟩ (hu.ro (j:=0) rfl); rw [hcp] at q; exact q)) (fun _=>rfl) ?_; rintro ⟨rb,q⟩ ⟨hrb,hqx,uq,hrb1,hqok⟩
   dsimp only at hrb hqx hrb1 hqok
   obtain ⟨hqa,hqb,hqc⟩:=hqok.st.ones
   have hqd:=Sl.one hqok.rd
   have hrl:rb.l.length≤ra.l.length:=by have e1:=congrArg List.length hra; have e2:=congrArg List.length hrb; have e3:=congrArg List.length hRR; rw [List.length_map] at e1 e2; rw [List.length_append] at e3; omega
   refine Wd (Qa ?_)
   refine Ar [4,5,6,7,9] ?_
   refine Ao 10 rfl ?_
   refine Wv 0 2 ?_
   refine Wd (Qa ?_)
   refine Ar [11] ?_
   refine Ae ?_
   refine Qc (Nz 3 ?_)
   refine Wt 0 rfl rfl (fun hg=>Fm) ?_
   refine Wt 0 rfl rfl (fun hg=>Fq) ?_
   refine Wk 1 Pa ?_
   refine Wt 0 rfl rfl (fun hg=>Fm) ?_
   refine Wt 0 rfl rfl (fun hg=>Fm) ?_
   refine Wt 0 rfl rfl (fun hg=>Cb rfl (ec_ (eg_ hg rfl) (ec_ (eg_ hg rfl) en_)) Jk6 (fun u hu=>Jgx ⟨v92,_⟩ l u (hu.ro (j:=6) rfl) (hk.st hu))) ?_
   refine Wk 1 Pa ?_
   refine Wt 0 rfl rfl (fun hg=>Fm) ?_
   refine Wt 0 rfl rfl (fun hg=>Fq) ?_
   refine Wk 1 Pa ?_
   refine Wt 0 rfl rfl (fun hg=>Fm) ?_
   refine Wt 0 rfl rfl (fun hg=>Fq) ?_
   refine Wk 1 Pa ?_
   refine Wt 0 rfl rfl (fun hg=>Fm) ?_
   refine Wt 0 rfl rfl (fun hg=>Jay (s:=rb) sl33 (eg_ hg rfl) hrb1) ?_
   refine Wt 0 rfl rfl (fun hg=>Fm) ?_
   refine Wt 0 rfl rfl (fun hg=>Jay (s:=ra) sl33 (eg_ hg rfl) hra1) ?_
   refine Wt 0 rfl rfl (fun hg=>Fk) ?_
   refine Wk 1 Pa ?_
   refine Wt 0 rfl rfl (fun hg=>Fm) ?_
   refine Wt 0 rfl rfl (fun hg=>Fm) ?_
   refine Wt 0 rfl rfl (fun hg=>Fm) ?_
   refine Wt 0 rfl rfl (fun hg=>Jay (s:=rb) sl33 (eg_ hg rfl) hrb1) ?_
   refine Wt 0 rfl rfl (fun hg=>Jb5 sl33 (eg_ hg rfl) (eg_ hg rfl) hra1.sp (by omega) (by omega)) ?_
   refine Wt 0 rfl rfl (fun hg=>Cb rfl (ec_ (eg_ hg rfl) (ec_ (eg_ hg rfl) en_)) Jm5 (fun u hu=>(show Calls _ _ _ u (RetB u (.bool (decide (rb.l.map Sl.l=(ra.cut 1 0 rb.l.length).l.map Sl.l)))) from Jcu rb (ra.cut 1 0 rb.l.length) u (hu.ro (j:=0) rfl).1 (SlT.cut (C:=cSl cInt) (hu.ro (j:=4) rfl).1 (Nat.zero_le _) hrl)))) ?_
   refine Wk 1 Pa ?_
   refine Wt 0 rfl rfl (fun hg=>Cb rfl rfl Jhz (fun u hu=>Jcn u g (hW.st hu))) ?_
   refine Wk 1 Pa ?_
   refine Wd (Qc (Cr ?_))
   exact out1 rfl rfl (Jab (by
      have hcl:rb.l.map Sl.l=(ra.cut 1 0 rb.l.length).l.map Sl.l:=by
       show _=((ra.l.drop 0).take (rb.l.length - 0)).map Sl.l
       rw [List.drop_zero,Nat.sub_zero,List.map_take,hra,hRR,hrb,List.take_append_of_le_length (by rw [← hrb,List.length_map]; exact Nat.le_refl _),List.take_of_length_le (by rw [← hrb,List.length_map]; exact Nat.le_refl _)]
      simp [hEA,hM,hR1,hR2,hrl,hcl]))
  refine Wl 0 zv47 (fun _=>rfl) (fun _=>rfl) fun b19 hb19=>?_
  refine Wd (Qa ?_)
  refine Ao 3 rfl ?_
  refine Wc rfl rfl Jja (fun u hu=>(by have q:=Jbc c u (hu.ro (j:=7) rfl) hnc g (hW.st hu) ⟨v98,l.l⟩ (hu.ro (j:=1) rfl); rw [hcp] at q; exact q)) (fun _=>rfl) ?_; rintro ⟨ra,p⟩ ⟨hra,hpx,up,hra1,hpok⟩
  dsimp only at hra hpx hra1 hpok
  obtain ⟨hpa,hpb,hpc⟩:=hpok.st.ones
  have hpd:=Sl.one hpok.rd
  refine Wd (Qa ?_)
  refine Ar [4,5,6,7,9] ?_
  refine Ao 10 rfl ?_
  refine Wv 0 1 ?_
  refine Wd (Qa ?_)
  refine Ar [11] ?_
  refine Ae ?_
  refine Qc (Cs ?_)
  refine CS.drawnAll (k:=12) Jah rfl rfl ?_
  refine Ak 0 [1] rfl (Bb 7) ?_
  refine AS.two (i:=2) (j:=8) (by kernel_rfl) rfl rfl (by first | exact fun _ h=>h | exact fun _ h=>h.sub (by repeat first | exact List.Sublist.refl _ | apply List.Sublist.cons_cons | apply List.Sublist.cons)) rfl rfl ?_ ?_
  ·
   refine Wc rfl rfl Jhr (fun u hu=>Jb4 ⟨v39,(CutV G.p l.l tick).2⟩ u (hu.ro (j:=6) rfl) (by show ((CutV G.p l.l tick).2.length:Int)≤1000000; omega)) (fun _=>rfl) ?_; rintro v106 ⟨u106,h106⟩
   refine Wd (Qa ?_)
   refine AS.two (i:=3) (j:=8) (by kernel_rfl) rfl rfl (by first | exact fun _ h=>h | exact fun _ h=>h.sub (by repeat first | exact List.Sublist.refl _ | apply List.Sublist.cons_cons | apply List.Sublist.cons)) rfl rfl ?_ ?_
   ·
    refine Wc rfl rfl Jja (fun u hu=>(by have q:=Jbc c u (hu.ro (j:=9) rfl) hnc g (hW.st hu) ⟨v106,(CutV G.p l.l tick).2⟩ (hu.ro (j:=0) rfl); rw [hcp] at q; exact q)) (fun _=>rfl) ?_; rintro ⟨rb,q⟩ ⟨hrb,hqx,uq,hrb1,hqok⟩
    dsimp only at hrb hqx hrb1 hqok
    obtain ⟨hqa,hqb,hqc⟩:=hqok.st.ones
    have hqd:=Sl.one hqok.rd
    have hrl:rb.l.length≤ra.l.length:=by have e1:=congrArg List.length hra; have e2:=congrArg List.length hrb; have e3:=congrArg List.length hRR; rw [List.length_map] at e1 e2; rw [List.length_append] at e3; omega
    refine Wd (Qa ?_)
    refine Ar [4,5,6,7] ?_
    refine Ao 8 rfl ?_
    refine Wl 0 zv47 (fun _=>rfl) (fun _=>rfl) fun b22 hb22=>?_
    refine Wd (Qa ?_)
    refine Ar [9] ?_
    refine Ao 10 rfl ?_
    refine Wv 0 0 ?_
    refine Wd (Qa ?_)
    refine Ar [11] ?_
    refine Ae ?_
    refine Qc (Nz 3 ?_)
    refine Wt 0 rfl rfl (fun hg=>Fm) ?_
    refine Wt 0 rfl rfl (fun hg=>Fq) ?_
    refine Wk 1 Pa ?_
    refine Wt 0 rfl rfl (fun hg=>Fm) ?_
    refine Wt 0 rfl rfl (fun hg=>Fm) ?_
    refine Wt 0 rfl rfl (fun hg=>Cb rfl (ec_ (eg_ hg rfl) (ec_ (eg_ hg rfl) en_)) Jk6 (fun u hu=>Jgx ⟨v92,_⟩ l u (hu.ro (j:=6) rfl) (hk.st hu))) ?_
    refine Wk 1 Pa ?_
    refine Wt 0 rfl rfl (fun hg=>Fm) ?_
    refine Wt 0 rfl rfl (fun hg=>Fq) ?_
    refine Wk 1 Pa ?_
    refine Wt 0 rfl rfl (fun hg=>Fm) ?_
    refine Wt 0 rfl rfl (fun hg=>Fq) ?_
    refine Wk 1 Pa ?_
    refine Wt 0 rfl rfl (fun hg=>Fm) ?_
    refine Wt 0 rfl rfl (fun hg=>Jay (s:=rb) sl33 (eg_ hg rfl) hrb1) ?_
    refine Wt 0 rfl rfl (fun hg=>Fm) ?_
    refine Wt 0 rfl rfl (fun hg=>Jay (s:=ra) sl33 (eg_ hg rfl) hra1) ?_
    refine Wt 0 rfl rfl (fun hg=>Fk) ?_
    refine Wk 1 Pa ?_
    refine Wt 0 rfl rfl (fun hg=>Fm) ?_
    refine Wt 0 rfl rfl (fun hg=>Fm) ?_
    refine Wt 0 rfl rfl (fun hg=>Fm) ?_
    refine Wt 0 rfl rfl (fun hg=>Jay (s:=rb) sl33 (eg_ hg rfl) hrb1) ?_
    refine Wt 0 rfl rfl (fun hg=>Jb5 sl33 (eg_ hg rfl) (eg_ hg rfl) hra1.sp (by omega) (by omega)) ?_
    refine Wt 0 rfl rfl (fun hg=>Cb rfl (ec_ (eg_ hg rfl) (ec_ (eg_ hg rfl) en_)) Jm5 (fun u hu=>(show Calls _ _ _ u (RetB u (.bool (decide (rb.l.map Sl.l=(ra.cut 1 0 rb.l.length).l.map Sl.l)))) from Jcu rb (ra.cut 1 0 rb.l.length) u (hu.ro (j:=1) rfl).1 (SlT.cut (C:=cSl cInt) (hu.ro (j:=3) rfl).1 (Nat.zero_le _) hrl)))) ?_
    refine Wk 1 Pa ?_
    refine Wt 0 rfl rfl (fun hg=>Cb rfl rfl Jhz (fun u hu=>Jcn u g (hW.st hu))) ?_
    refine Wk 1 Pa ?_
    refine Wd (Qc (Cr ?_))
    exact out1 rfl rfl (Jab (by
       have hcl:rb.l.map Sl.l=(ra.cut 1 0 rb.l.length).l.map Sl.l:=by
        show _=((ra.l.drop 0).take (rb.l.length - 0)).map Sl.l
        rw [List.drop_zero,Nat.sub_zero,List.map_take,hra,hRR,hrb,List.take_append_of_le_length (by rw [← hrb,List.length_map]; exact Nat.le_refl _),List.take_of_length_le (by rw [← hrb,List.length_map]; exact Nat.le_refl _)]
       simp [hEA,hM,hR1,hR2,hrl,hcl]))
   refine Wl 0 zv47 (fun _=>rfl) (fun _=>rfl) fun b22 hb22=>?_
   refine Wd (Qa ?_)
   refine Ao 3 rfl ?_
   refine Wc rfl rfl Jja (fun u hu=>(by have q:=Jbc c u (hu.ro (j:=10) rfl) hnc g (hW.st hu) ⟨v106,(CutV G.p l.l tick).2⟩ (hu.ro (j:=1) rfl); rw [hcp] at q; exact q)) (fun _=>rfl) ?_; rintro ⟨rb,q⟩ ⟨hrb,hqx,uq,hrb1,hqok⟩
   dsimp only at hrb hqx hrb1 hqok
   obtain ⟨hqa,hqb,hqc⟩:=hqok.st.ones
   have hqd:=Sl.one hqok.rd
   have hrl:rb.l.length≤ra.l.length:=by have e1:=congrArg List.length hra; have e2:=congrArg List.length hrb; have e3:=congrArg List.length hRR; rw [List.length_map] at e1 e2; rw [List.length_append] at e3; omega
   refine Wd (Qa ?_)
   refine Ar [4,5,6,7,9] ?_
   refine Ao 10 rfl ?_
   refine Wv 0 1 ?_
   refine Wd (Qa ?_)
   refine Ar [11] ?_
   refine Ae ?_
   refine Qc (Nz 3 ?_)
   refine Wt 0 rfl rfl (fun hg=>Fm) ?_
   refine Wt 0 rfl rfl (fun hg=>Fq) ?_
   refine Wk 1 Pa ?_
   refine Wt 0 rfl rfl (fun hg=>Fm) ?_
   refine Wt 0 rfl rfl (fun hg=>Fm) ?_
   refine Wt 0 rfl rfl (fun hg=>Cb rfl (ec_ (eg_ hg rfl) (ec_ (eg_ hg rfl) en_)) Jk6 (fun u hu=>Jgx ⟨v92,_⟩ l u (hu.ro (j:=6) rfl) (hk.st hu))) ?_
   refine Wk 1 Pa ?_
   refine Wt 0 rfl rfl (fun hg=>Fm) ?_
   refine Wt 0 rfl rfl (fun hg=>Fq) ?_
   refine Wk 1 Pa ?_
   refine Wt 0 rfl rfl (fun hg=>Fm) ?_
   refine Wt 0 rfl rfl (fun hg=>Fq) ?_
   refine Wk 1 Pa ?_
   refine Wt 0 rfl rfl (fun hg=>Fm) ?_
   refine Wt 0 rfl rfl (fun hg=>Jay (s:=rb) sl33 (eg_ hg rfl) hrb1) ?_
   refine Wt 0 rfl rfl (fun hg=>Fm) ?_
   refine Wt 0 rfl rfl (fun hg=>Jay (s:=ra) sl33 (eg_ hg rfl) hra1) ?_
   refine Wt 0 rfl rfl (fun hg=>Fk) ?_
   refine Wk 1 Pa ?_
   refine Wt 0 rfl rfl (fun hg=>Fm) ?_
   refine Wt 0 rfl rfl (fun hg=>Fm) ?_
   refine Wt 0 rfl rfl (fun hg=>Fm) ?_
   refine Wt 0 rfl rfl (fun hg=>Jay (s:=rb) sl33 (eg_ hg rfl) hrb1) ?_
   refine Wt 0 rfl rfl (fun hg=>Jb5 sl33 (eg_ hg rfl) (eg_ hg rfl) hra1.sp (by omega) (by omega)) ?_
   refine Wt 0 rfl rfl (fun hg=>Cb rfl (ec_ (eg_ hg rfl) (ec_ (eg_ hg rfl) en_)) Jm5 (fun u hu=>(show Calls _ _ _ u (RetB u (.bool (decide (rb.l.map Sl.l=(ra.cut 1 0 rb.l.length).l.map Sl.l)))) from Jcu rb (ra.cut 1 0 rb.l.length) u (hu.ro (j:=0) rfl).1 (SlT.cut (C:=cSl cInt) (hu.ro (j:=3) rfl).1 (Nat.zero_le _) hrl)))) ?_
   refine Wk 1 Pa ?_
   refine Wt 0 rfl rfl (fun hg=>Cb rfl rfl Jhz (fun u hu=>Jcn u g (hW.st hu))) ?_
   refine Wk 1 Pa ?_
   refine Wd (Qc (Cr ?_))
   exact out1 rfl rfl (Jab (by
      have hcl:rb.l.map Sl.l=(ra.cut 1 0 rb.l.length).l.map Sl.l:=by
       show _=((ra.l.drop 0).take (rb.l.length - 0)).map Sl.l
       rw [List.drop_zero,Nat.sub_zero,List.map_take,hra,hRR,hrb,List.take_append_of_le_length (by rw [← hrb,List.length_map]; exact Nat.le_refl _),List.take_of_length_le (by rw [← hrb,List.length_map]; exact Nat.le_refl _)]
      simp [hEA,hM,hR1,hR2,hrl,hcl]))
  refine Wl 0 zv47 (fun _=>rfl) (fun _=>rfl) fun b22 hb22=>?_
  refine Wd (Qa ?_)
  refine Ao 2 rfl ?_
  refine Wc rfl rfl Jhr (fun u hu=>Jb4 ⟨v39,(CutV G.p l.l tick).2⟩ u (hu.ro (j:=7) rfl) (by show ((CutV G.p l.l tick).2.length:Int)≤1000000; omega)) (fun _=>rfl) ?_; rintro v106 ⟨u106,h106⟩
  refine Wd (Qa ?_)
  refine Ao 3 rfl ?_
  refine Wc rfl rfl Jja (fun u hu=>(by have q:=Jbc c u (hu.ro (j:=10) rfl) hnc g (hW.st hu) ⟨v106,(CutV G.p l.l tick).2⟩ (hu.ro (j:=0) rfl); rw [hcp] at q; exact q)) (fun _=>rfl) ?_; rintro ⟨rb,q⟩ ⟨hrb,hqx,uq,hrb1,hqok⟩
  dsimp only at hrb hqx hrb1 hqok
  obtain ⟨hqa,hqb,hqc⟩:=hqok.st.ones
  have hqd:=Sl.one hqok.rd
  have hrl:rb.l.length≤ra.l.length:=by have e1:=congrArg List.length hra; have e2:=congrArg List.length hrb; have e3:=congrArg List.length hRR; rw [List.length_map] at e1 e2; rw [List.length_append] at e3; omega
  refine Wd (Qa ?_)
  refine Ar [4,5,6,7,9] ?_
  refine Ao 10 rfl ?_
  refine Wv 0 2 ?_
  refine Wd (Qa ?_)
  refine Ar [11] ?_
  refine Ae ?_
  refine Qc (Nz 3 ?_)
  refine Wt 0 rfl rfl (fun hg=>Fm) ?_
  refine Wt 0 rfl rfl (fun hg=>Fq) ?_
  refine Wk 1 Pa ?_
  refine Wt 0 rfl rfl (fun hg=>Fm) ?_
  refine Wt 0 rfl rfl (fun hg=>Fm) ?_
  refine Wt 0 rfl rfl (fun hg=>Cb rfl (ec_ (eg_ hg rfl) (ec_ (eg_ hg rfl) en_)) Jk6 (fun u hu=>Jgx ⟨v92,_⟩ l u (hu.ro (j:=6) rfl) (hk.st hu))) ?_
  refine Wk 1 Pa ?_
  refine Wt 0 rfl rfl (fun hg=>Fm) ?_
  refine Wt 0 rfl rfl (fun hg=>Fq) ?_
  refine Wk 1 Pa ?_
  refine Wt 0 rfl rfl (fun hg=>Fm) ?_
  refine Wt 0 rfl rfl (fun hg=>Fq) ?_
  refine Wk 1 Pa ?_
  refine Wt 0 rfl rfl (fun hg=>Fm) ?_
  refine Wt 0 rfl rfl (fun hg=>Jay (s:=rb) sl33 (eg_ hg rfl) hrb1) ?_
  refine Wt 0 rfl rfl (fun hg=>Fm) ?_
  refine Wt 0 rfl rfl (fun hg=>Jay (s:=ra) sl33 (eg_ hg rfl) hra1) ?_
  refine Wt 0 rfl rfl (fun hg=>Fk) ?_
  refine Wk 1 Pa ?_
  refine Wt 0 rfl rfl (fun hg=>Fm) ?_
  refine Wt 0 rfl rfl (fun hg=>Fm) ?_
  refine Wt 0 rfl rfl (fun hg=>Fm) ?_
  refine Wt 0 rfl rfl (fun hg=>Jay (s:=rb) sl33 (eg_ hg rfl) hrb1) ?_
  refine Wt 0 rfl rfl (fun hg=>Jb5 sl33 (eg_ hg rfl) (eg_ hg rfl) hra1.sp (by omega) (by omega)) ?_
  refine Wt 0 rfl rfl (fun hg=>Cb rfl (ec_ (eg_ hg rfl) (ec_ (eg_ hg rfl) en_)) Jm5 (fun u hu=>(show Calls _ _ _ u (RetB u (.bool (decide (rb.l.map Sl.l=(ra.cut 1 0 rb.l.length).l.map Sl.l)))) from Jcu rb (ra.cut 1 0 rb.l.length) u (hu.ro (j:=0) rfl).1 (SlT.cut (C:=cSl cInt) (hu.ro (j:=3) rfl).1 (Nat.zero_le _) hrl)))) ?_
  refine Wk 1 Pa ?_
  refine Wt 0 rfl rfl (fun hg=>Cb rfl rfl Jhz (fun u hu=>Jcn u g (hW.st hu))) ?_
  refine Wk 1 Pa ?_
  refine Wd (Qc (Cr ?_))
  exact out1 rfl rfl (Jab (by
     have hcl:rb.l.map Sl.l=(ra.cut 1 0 rb.l.length).l.map Sl.l:=by
      show _=((ra.l.drop 0).take (rb.l.length - 0)).map Sl.l
      rw [List.drop_zero,Nat.sub_zero,List.map_take,hra,hRR,hrb,List.take_append_of_le_length (by rw [← hrb,List.length_map]; exact Nat.le_refl _),List.take_of_length_le (by rw [← hrb,List.length_map]; exact Nat.le_refl _)]
     simp [hEA,hM,hR1,hR2,hrl,hcl]))
 refine Wl 0 zv47 (fun _=>rfl) (fun _=>rfl) fun b19 hb19=>?_
 refine Wd (Qa ?_)
 refine Ao 2 rfl ?_
 refine Wc rfl rfl Jhr (fun u hu=>Jb4 l u (hk.st hu) (by omega)) (fun _=>rfl) ?_; rintro v98 ⟨u98,h98⟩
 refine Wd (Qa ?_)
 refine Ao 3 rfl ?_
 refine Wc rfl rfl Jja (fun u hu=>(by have q:=Jbc c u (hu.ro (j:=7) rfl) hnc g (hW.st hu) ⟨v98,l.l⟩ (hu.ro (j:=0) rfl); rw [hcp] at q; exact q)) (fun _=>rfl) ?_; rintro ⟨ra,p⟩ ⟨hra,hpx,up,hra1,hpok⟩
 dsimp only at hra hpx hra1 hpok
 obtain ⟨hpa,hpb,hpc⟩:=hpok.st.ones
 have hpd:=Sl.one hpok.rd
 refine Wd (Qa ?_)
 refine Ar [4,5,6,7,9] ?_
 refine Ao 10 rfl ?_
 refine Wv 0 2 ?_
 refine Wd (Qa ?_)
 refine Ar [11] ?_
 refine Ae ?_
 refine Qc (Cs ?_)
 refine CS.drawnAll (k:=12) Jah rfl rfl ?_
 refine Ak 0 [1] rfl (Bb 7) ?_
 refine AS.two (i:=2) (j:=8) (by kernel_rfl) rfl rfl (by first | exact fun _ h=>h | exact fun _ h=>h.sub (by repeat first | exact List.Sublist.refl _ | apply List.Sublist.cons_cons | apply List.Sublist.cons)) rfl rfl ?_ ?_
 ·
  refine Wc rfl rfl Jhr (fun u hu=>Jb4 ⟨v39,(CutV G.p l.l tick).2⟩ u (hu.ro (j:=6) rfl) (by show ((CutV G.p l.l tick).2.length:Int)≤1000000; omega)) (fun _=>rfl) ?_; rintro v106 ⟨u106,h106⟩
  refine Wd (Qa ?_)
  refine AS.two (i:=3) (j:=8) (by kernel_rfl) rfl rfl (by first | exact fun _ h=>h | exact fun _ h=>h.sub (by repeat first | exact List.Sublist.refl _ | apply List.Sublist.cons_cons | apply List.Sublist.cons)) rfl rfl ?_ ?_
  ·
   refine Wc rfl rfl Jja (fun u hu=>(by have q:=Jbc c u (hu.ro (j:=9) rfl) hnc g (hW.st hu) ⟨v106,(CutV G.p l.l tick).2⟩ (hu.ro (j:=0) rfl); rw [hcp] at q; exact q)) (fun _=>rfl) ?_; rintro ⟨rb,q⟩ ⟨hrb,hqx,uq,hrb1,hqok⟩
   dsimp only at hrb hqx hrb1 hqok
   obtain ⟨hqa,hqb,hqc⟩:=hqok.st.ones
   have hqd:=Sl.one hqok.rd
   have hrl:rb.l.length≤ra.l.length:=by have e1:=congrArg List.length hra; have e2:=congrArg List.length hrb; have e3:=congrArg List.length hRR; rw [List.length_map] at e1 e2; rw [List.length_append] at e3; omega
   refine Wd (Qa ?_)
   refine Ar [4,5,6,7] ?_
   refine Ao 8 rfl ?_
   refine Wl 0 zv47 (fun _=>rfl) (fun _=>rfl) fun b22 hb22=>?_
   refine Wd (Qa ?_)
   refine Ar [9] ?_
   refine Ao 10 rfl ?_
   refine Wv 0 0 ?_
   refine Wd (Qa ?_)
   refine Ar [11] ?_
   refine Ae ?_
   refine Qc (Nz 3 ?_)
   refine Wt 0 rfl rfl (fun hg=>Fm) ?_
   refine Wt 0 rfl rfl (fun hg=>Fq) ?_
   refine Wk 1 Pa ?_
   refine Wt 0 rfl rfl (fun hg=>Fm) ?_
   refine Wt 0 rfl rfl (fun hg=>Fm) ?_
   refine Wt 0 rfl rfl (fun hg=>Cb rfl (ec_ (eg_ hg rfl) (ec_ (eg_ hg rfl) en_)) Jk6 (fun u hu=>Jgx ⟨v92,_⟩ l u (hu.ro (j:=6) rfl) (hk.st hu))) ?_
   refine Wk 1 Pa ?_
   refine Wt 0 rfl rfl (fun hg=>Fm) ?_
   refine Wt 0 rfl rfl (fun hg=>Fq) ?_
   refine Wk 1 Pa ?_
   refine Wt 0 rfl rfl (fun hg=>Fm) ?_
   refine Wt 0 rfl rfl (fun hg=>Fq) ?_
   refine Wk 1 Pa ?_
   refine Wt 0 rfl rfl (fun hg=>Fm) ?_
   refine Wt 0 rfl rfl (fun hg=>Jay (s:=rb) sl33 (eg_ hg rfl) hrb1) ?_
   refine Wt 0 rfl rfl (fun hg=>Fm) ?_
   refine Wt 0 rfl rfl (fun hg=>Jay (s:=ra) sl33 (eg_ hg rfl) hra1) ?_
   refine Wt 0 rfl rfl (fun hg=>Fk) ?_
   refine Wk 1 Pa ?_
   refine Wt 0 rfl rfl (fun hg=>Fm) ?_
   refine Wt 0 rfl rfl (fun hg=>Fm) ?_
   refine Wt 0 rfl rfl (fun hg=>Fm) ?_
   refine Wt 0 rfl rfl (fun hg=>Jay (s:=rb) sl33 (eg_ hg rfl) hrb1) ?_
   refine Wt 0 rfl rfl (fun hg=>Jb5 sl33 (eg_ hg rfl) (eg_ hg rfl) hra1.sp (by omega) (by omega)) ?_
   refine Wt 0 rfl rfl (fun hg=>Cb rfl (ec_ (eg_ hg rfl) (ec_ (eg_ hg rfl) en_)) Jm5 (fun u hu=>(show Calls _ _ _ u (RetB u (.bool (decide (rb.l.map Sl.l=(ra.cut 1 0 rb.l.length).l.map Sl.l)))) from Jcu rb (ra.cut 1 0 rb.l.length) u (hu.ro (j:=1) rfl).1 (SlT.cut (C:=cSl cInt) (hu.ro (j:=3) rfl).1 (Nat.zero_le _) hrl)))) ?_
   refine Wk 1 Pa ?_
   refine Wt 0 rfl rfl (fun hg=>Cb rfl rfl Jhz (fun u hu=>Jcn u g (hW.st hu))) ?_
   refine Wk 1 Pa ?_
   refine Wd (Qc (Cr ?_))
   exact out1 rfl rfl (Jab (by
      have hcl:rb.l.map Sl.l=(ra.cut 1 0 rb.l.length).l.map Sl.l:=by
       show _=((ra.l.drop 0).take (rb.l.length - 0)).map Sl.l
       rw [List.drop_zero,Nat.sub_zero,List.map_take,hra,hRR,hrb,List.take_append_of_le_length (by rw [← hrb,List.length_map]; exact Nat.le_refl _),List.take_of_length_le (by rw [← hrb,List.length_map]; exact Nat.le_refl _)]
      simp [hEA,hM,hR1,hR2,hrl,hcl]))
  refine Wl 0 zv47 (fun _=>rfl) (fun _=>rfl) fun b22 hb22=>?_
  refine Wd (Qa ?_)
  refine Ao 3 rfl ?_
  refine Wc rfl rfl Jja (fun u hu=>(by have q:=Jbc c u (hu.ro (j:=10) rfl) hnc g (hW.st hu) ⟨v106,(CutV G.p l.l tick).2⟩ (hu.ro (j:=1) rfl); rw [hcp] at q; exact q)) (fun _=>rfl) ?_; rintro ⟨rb,q⟩ ⟨hrb,hqx,uq,hrb1,hqok⟩
  dsimp only at hrb hqx hrb1 hqok
  obtain ⟨hqa,hqb,hqc⟩:=hqok.st.ones
  have hqd:=Sl.one hqok.rd
  have hrl:rb.l.length≤ra.l.length:=by have e1:=congrArg List.length hra; have e2:=congrArg List.length hrb; have e3:=congrArg List.length hRR; rw [List.length_map] at e1 e2; rw [List.length_append] at e3; omega
  refine Wd (Qa ?_)
  refine Ar [4,5,6,7,9] ?_
  refine Ao 10 rfl ?_
  refine Wv 0 1 ?_
  refine Wd (Qa ?_)
  refine Ar [11] ?_
  refine Ae ?_
  refine Qc (Nz 3 ?_)
  refine Wt 0 rfl rfl (fun hg=>Fm) ?_
  refine Wt 0 rfl rfl (fun hg=>Fq) ?_
  refine Wk 1 Pa ?_
  refine Wt 0 rfl rfl (fun hg=>Fm) ?_
  refine Wt 0 rfl rfl (fun hg=>Fm) ?_
  refine Wt 0 rfl rfl (fun hg=>Cb rfl (ec_ (eg_ hg rfl) (ec_ (eg_ hg rfl) en_)) Jk6 (fun u hu=>Jgx ⟨v92,_⟩ l u (hu.ro (j:=6) rfl) (hk.st hu))) ?_
  refine Wk 1 Pa ?_
  refine Wt 0 rfl rfl (fun hg=>Fm) ?_
  refine Wt 0 rfl rfl (fun hg=>Fq) ?_
  refine Wk 1 Pa ?_
  refine Wt 0 rfl rfl (fun hg=>Fm) ?_
  refine Wt 0 rfl rfl (fun hg=>Fq) ?_
  refine Wk 1 Pa ?_
  refine Wt 0 rfl rfl (fun hg=>Fm) ?_
  refine Wt 0 rfl rfl (fun hg=>Jay (s:=rb) sl33 (eg_ hg rfl) hrb1) ?_
  refine Wt 0 rfl rfl (fun hg=>Fm) ?_
  refine Wt 0 rfl rfl (fun hg=>Jay (s:=ra) sl33 (eg_ hg rfl) hra1) ?_
  refine Wt 0 rfl rfl (fun hg=>Fk) ?_
  refine Wk 1 Pa ?_
  refine Wt 0 rfl rfl (fun hg=>Fm) ?_
  refine Wt 0 rfl rfl (fun hg=>Fm) ?_
  refine Wt 0 rfl rfl (fun hg=>Fm) ?_
  refine Wt 0 rfl rfl (fun hg=>Jay (s:=rb) sl33 (eg_ hg rfl) hrb1) ?_
  refine Wt 0 rfl rfl (fun hg=>Jb5 sl33 (eg_ hg rfl) (eg_ hg rfl) hra1.sp (by omega) (by omega)) ?_
  refine Wt 0 rfl rfl (fun hg=>Cb rfl (ec_ (eg_ hg rfl) (ec_ (eg_ hg rfl) en_)) Jm5 (fun u hu=>(show Calls _ _ _ u (RetB u (.bool (decide (rb.l.map Sl.l=(ra.cut 1 0 rb.l.length).l.map Sl.l)))) from Jcu rb (ra.cut 1 0 rb.l.length) u (hu.ro (j:=0) rfl).1 (SlT.cut (C:=cSl cInt) (hu.ro (j:=3) rfl).1 (Nat.zero_le _) hrl)))) ?_
  refine Wk 1 Pa ?_
  refine Wt 0 rfl rfl (fun hg=>Cb rfl rfl Jhz (fun u hu=>Jcn u g (hW.st hu))) ?_
  refine Wk 1 Pa ?_
  refine Wd (Qc (Cr ?_))
  exact out1 rfl rfl (Jab (by
     have hcl:rb.l.map Sl.l=(ra.cut 1 0 rb.l.length).l.map Sl.l:=by
      show _=((ra.l.drop 0).take (rb.l.length - 0)).map Sl.l
      rw [List.drop_zero,Nat.sub_zero,List.map_take,hra,hRR,hrb,List.take_append_of_le_length (by rw [← hrb,List.length_map]; exact Nat.le_refl _),List.take_of_length_le (by rw [← hrb,List.length_map]; exact Nat.le_refl _)]
     simp [hEA,hM,hR1,hR2,hrl,hcl]))
 refine Wl 0 zv47 (fun _=>rfl) (fun _=>rfl) fun b22 hb22=>?_
 refine Wd (Qa ?_)
 refine Ao 2 rfl ?_
 refine Wc rfl rfl Jhr (fun u hu=>Jb4 ⟨v39,(CutV G.p l.l tick).2⟩ u (hu.ro (j:=7) rfl) (by show ((CutV G.p l.l tick).2.length:Int)≤1000000; omega)) (fun _=>rfl) ?_; rintro v106 ⟨u106,h106⟩
 refine Wd (Qa ?_)
 refine Ao 3 rfl ?_
 refine Wc rfl rfl Jja (fun u hu=>(by have q:=Jbc c u (hu.ro (j:=10) rfl) hnc g (hW.st hu) ⟨v106,(CutV G.p l.l tick).2⟩ (hu.ro (j:=0) rfl); rw [hcp] at q; exact q)) (fun _=>rfl) ?_; rintro ⟨rb,q⟩ ⟨hrb,hqx,uq,hrb1,hqok⟩
 dsimp only at hrb hqx hrb1 hqok
 obtain ⟨hqa,hqb,hqc⟩:=hqok.st.ones
 have hqd:=Sl.one hqok.rd
 have hrl:rb.l.length≤ra.l.length:=by have e1:=congrArg List.length hra; have e2:=congrArg List.length hrb; have e3:=congrArg List.length hRR; rw [List.length_map] at e1 e2; rw [List.length_append] at e3; omega
 refine Wd (Qa ?_)
 refine Ar [4,5,6,7,9] ?_
 refine Ao 10 rfl ?_
 refine Wv 0 2 ?_
 refine Wd (Qa ?_)
 refine Ar [11] ?_
 refine Ae ?_
 refine Qc (Nz 3 ?_)
 refine Wt 0 rfl rfl (fun hg=>Fm) ?_
 refine Wt 0 rfl rfl (fun hg=>Fq) ?_
 refine Wk 1 Pa ?_
 refine Wt 0 rfl rfl (fun hg=>Fm) ?_
 refine Wt 0 rfl rfl (fun hg=>Fm) ?_
 refine Wt 0 rfl rfl (fun hg=>Cb rfl (ec_ (eg_ hg rfl) (ec_ (eg_ hg rfl) en_)) Jk6 (fun u hu=>Jgx ⟨v92,_⟩ l u (hu.ro (j:=6) rfl) (hk.st hu))) ?_
 refine Wk 1 Pa ?_
 refine Wt 0 rfl rfl (fun hg=>Fm) ?_
 refine Wt 0 rfl rfl (fun hg=>Fq) ?_
 refine Wk 1 Pa ?_
 refine Wt 0 rfl rfl (fun hg=>Fm) ?_
 refine Wt 0 rfl rfl (fun hg=>Fq) ?_
 refine Wk 1 Pa ?_
 refine Wt 0 rfl rfl (fun hg=>Fm) ?_
 refine Wt 0 rfl rfl (fun hg=>Jay (s:=rb) sl33 (eg_ hg rfl) hrb1) ?_
 refine Wt 0 rfl rfl (fun hg=>Fm) ?_
 refine Wt 0 rfl rfl (fun hg=>Jay (s:=ra) sl33 (eg_ hg rfl) hra1) ?_
 refine Wt 0 rfl rfl (fun hg=>Fk) ?_
 refine Wk 1 Pa ?_
 refine Wt 0 rfl rfl (fun hg=>Fm) ?_
 refine Wt 0 rfl rfl (fun hg=>Fm) ?_
 refine Wt 0 rfl rfl (fun hg=>Fm) ?_
 refine Wt 0 rfl rfl (fun hg=>Jay (s:=rb) sl33 (eg_ hg rfl) hrb1) ?_
 refine Wt 0 rfl rfl (fun hg=>Jb5 sl33 (eg_ hg rfl) (eg_ hg rfl) hra1.sp (by omega) (by omega)) ?_
 refine Wt 0 rfl rfl (fun hg=>Cb rfl (ec_ (eg_ hg rfl) (ec_ (eg_ hg rfl) en_)) Jm5 (fun u hu=>(show Calls _ _ _ u (RetB u (.bool (decide (rb.l.map Sl.l=(ra.cut 1 0 rb.l.length).l.map Sl.l)))) from Jcu rb (ra.cut 1 0 rb.l.length) u (hu.ro (j:=0) rfl).1 (SlT.cut (C:=cSl cInt) (hu.ro (j:=3) rfl).1 (Nat.zero_le _) hrl)))) ?_
 refine Wk 1 Pa ?_
 refine Wt 0 rfl rfl (fun hg=>Cb rfl rfl Jhz (fun u hu=>Jcn u g (hW.st hu))) ?_
 refine Wk 1 Pa ?_
 refine Wd (Qc (Cr ?_))
 exact out1 rfl rfl (Jab (by
    have hcl:rb.l.map Sl.l=(ra.cut 1 0 rb.l.length).l.map Sl.l:=by
     show _=((ra.l.drop 0).take (rb.l.length - 0)).map Sl.l
     rw [List.drop_zero,Nat.sub_zero,List.map_take,hra,hRR,hrb,List.take_append_of_le_length (by rw [← hrb,List.length_map]; exact Nat.le_refl _),List.take_of_length_le (by rw [← hrb,List.length_map]; exact Nat.le_refl _)]
    simp [hEA,hM,hR1,hR2,hrl,hcl]))
end Go.Proofs.YtbboikncaihafaaGreatDoor
