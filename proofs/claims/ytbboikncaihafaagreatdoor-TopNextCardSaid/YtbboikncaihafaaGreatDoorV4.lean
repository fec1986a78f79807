/- Contracts of functions, printed by a program of the prover (gen.py). -/
import Derived.Test.YtbboikncaihafaaGreatDoorXm
import Derived.Test.YtbboikncaihafaaGreatDoorZz
set_option maxHeartbeats 8000000
namespace Go.Proofs.YtbboikncaihafaaGreatDoor
open Go.RowKit Go.Proofs
set_option maxRecDepth 100000
set_option linter.unusedVariables false
set_option linter.unusedSimpArgs false
theorem Jre {r:Room} (hR:Ready r) (hC:checkE r=0) (hB:(BeginV r).1=0):SettleV r ((BeginV r).2.1,(BeginV r).2.2.1,List.replicate r.ply.toNat 0)=(0,(BeginV r).2):=by
 have hbs:BeginV r=ansS r (settleV r (Jcl r)):=(if_pos hC).trans (if_pos (Jc4.2 ⟨hC,Jgr hR⟩))
 cases h9:settleV r (Jcl r) with
 | none=>rw [hbs,h9] at hB; exact absurd hB (by show ¬ (27:Int)=0; decide)
 | some y =>
  have hb9:BeginV r=(0,y):=by rw [hbs,h9]; rfl
  have e3:y.2.2=List.replicate r.ply.toNat 0:=congrArg Prod.snd (Jf9 h9).2
  rw [hb9, ← e3]
  exact Jjh hC (Jgr hR) h9
theorem Jpy (G:Game) (w:World) (hG:GameOk w G) (g:Sl ByteArray) (hW:GOk w g) (ms:Sl Move) (hk:SlT cMove w ms) (ht:Lib.TabIs Tryz.prog w "internal/strconv.uint64pow10" .u64 Lib.pow10Tab) :
  Calls Tryz.prog 3 #[.agg #[G.rm.pls.v,G.rm.ths.v,G.rm.prs.v,G.rm.wys.v,G.rm.acs.v,G.rm.aus.v,.int .i64 G.rm.ply,G.rm.gl.v,G.lks.v,G.cds.v,G.nts.v,.int .i64 G.tr],ms.v] w (RetB w (.bool true)):=by
 have lms:=hk.le
 refine enter Tryz.func3 rfl rfl (Nat.le_of_ble_eq_true rfl) ?_
 refine Nz 0 ?_
 refine Wb 1 rfl rfl (fun _=>rfl) (fun _=>rfl) fun b2 hb2=>?_
 refine Wd (Qc (Cs (Nz 0 ?_)))
 refine Wk 0 (by first | exact Jac (j:=0) rfl rfl tk36 | exact Jab (j:=0) rfl rfl (by rfl) tk36 | exact Jai rfl (by assumption) (by rfl) tk36 | exact Jad (n:=12) (j:=0) rfl rfl rfl rfl tk36) ?_
 refine Wk 1 (Cb rfl rfl ent7 (fun u hu=>J0o G u (hG.st hu))) ?_
 refine Wf 0 rfl rfl (fun hg=>Ff) ?_
 refine Wf 0 rfl rfl (fun hg=>by first | exact Jac (j:=0) (eg_ hg rfl) rfl tk31 | exact Jab (j:=0) (eg_ hg rfl) rfl (by rfl) tk31 | exact Jai (eg_ hg rfl) (by assumption) (by rfl) tk31 | exact Jad (n:=8) (j:=0) (eg_ hg rfl) rfl rfl rfl tk31) ?_
 refine Wf 0 rfl rfl (fun hg=>Cb rfl (ec_ (eg_ hg rfl) en_) ent8 (fun u hu=>Jwe G.rm u (hG.rm.st hu))) ?_
 refine Wk 1 Po ?_
 refine Wf 0 rfl rfl (fun hg=>Fm) ?_
 refine Wf 0 rfl rfl (fun hg=>Nc (eg_ hg rfl)) ?_
 refine Wf 0 rfl rfl (fun hg=>Fg) ?_
 refine Wk 0 Po ?_
 refine Wd (Qc (CS.cond rfl ?_ ?_))<;>intro hc1<;>try simp only [bq] at hc1
 ·
  refine Nz 0 ?_
  refine Wk 1 (Cb rfl rfl ent9 (fun u hu=>Jgp u)) ?_
  exact Wd (Qc (Cr (Qr (out1 rfl rfl retB))))
 have hn:NearG G:=Jhq.1 (by cases hq:clB (NearG G) <;> simp_all)
 have hml:ms.l.length≤30:=by simp at hc1; omega
 refine Ck (Qc (Nz 0 ?_))
 refine Wk 0 (by first | exact Jac (j:=0) rfl rfl tk36 | exact Jab (j:=0) rfl rfl (by rfl) tk36 | exact Jai rfl (by assumption) (by rfl) tk36 | exact Jad (n:=12) (j:=0) rfl rfl rfl rfl tk36) ?_
 refine Wc rfl rfl J1j (fun u hu=>Jwg G u (hG.st hu) hn) (fun _=>rfl) ?_; rintro c ⟨hcp,uc,hcok⟩
 have hnc:=Jzh hcp hn
 have o1:=Sl.one hcok.rm.pls
 have o2:=Sl.one hcok.rm.ths
 have o3:=Sl.one hcok.rm.prs
 have o4:=Sl.one hcok.rm.wys
 have o5:=Sl.one hcok.rm.acs
 have o6:=Sl.one hcok.rm.aus
 have o7:=Sl.one hcok.rm.gl
 have o8:=Sl.one hcok.lks
 have o9:=Sl.one hcok.cds
 have o10:=Sl.one hcok.nts
 refine Wl 0 zv36 (fun _=>rfl) (fun _=>rfl) fun b5 hb5=>?_
 refine Wv 0 0 ?_
 refine Wd (Qc (Nz 0 ?_))
 refine Wk 0 (by first | exact Jac (j:=0) rfl rfl tk36 | exact Jab (j:=0) rfl rfl (by rfl) tk36 | exact Jai rfl (by assumption) (by rfl) tk36 | exact Jad (n:=12) (j:=0) rfl rfl rfl rfl tk36) ?_
 refine Wc rfl rfl J0g (fun u hu=>Jmd c u (hu.ro (j:=1) rfl) g (hW.st hu) hnc) (fun _=>rfl) ?_; rintro x ⟨hxx,ux,hxok⟩
 obtain ⟨hxa,hxb,hxc⟩:=hxok.st.ones
 have hxd:=Sl.one hxok.rd
 refine Wz 3 ?_
 refine Wl 0 zv47 (fun _=>rfl) (fun _=>rfl) fun b6 hb6=>?_
 refine Wv 1 0 ?_
 refine Wd (Qc (Cs (Nz 2 ?_)))
 refine Wd (Qc (CS.cond rfl ?_ ?_))<;>intro hc2<;>try simp only [bq] at hc2
 ·
  refine Nz 0 ?_
  refine Wk 1 (Cb rfl rfl ent9 (fun u hu=>Jgp u)) ?_
  exact Wd (Qc (Cr (Qr (out1 rfl rfl retB))))
 have hb0:(Jcb c.p).1=0:=hc2
 have hq0:posG c.p x.x=0:=by rw [hxx]; exact Jqb hb0
 have hP0:=Jfh (G:=c) hq0
 have hsmx:=hP0.small
 have hck:Jbt c.p=0:=Jpi hq0
 have hR:=hP0.ready
 have hBB:(BeginV c.rm).1=0:=by
  have hbv:BeginV c.p.rm=BeginV c.rm:=(c.p_alike.BeginV).symm
  unfold Jcb at hb0
  rw [if_pos hck,hbv] at hb0
  split at hb0
  ·
   assumption
  exact hb0
 have hB2:(Jcb c.p).2.1=(BeginV c.rm).2:=by
  have hbv:BeginV c.p.rm=BeginV c.rm:=(c.p_alike.BeginV).symm
  unfold Jcb
  rw [if_pos hck,hbv,if_pos hBB]
 have hl2:Len3 c.rm (BeginV c.rm).2:=Len3.of_in hR (Jfi hP0.ck hBB)
 have hply:G.rm.ply=c.rm.ply:=(congrArg Room.ply (Jx8 hcp).1).symm
 have hplb:=hR.ply
 have hRl:=hR.lens
 have hsb:stL c.rm (BeginV c.rm).2=0:=Jc4.2 ⟨hP0.ck,Jfi hP0.ck hBB⟩
 have hlg:LegalV c.rm (BeginV c.rm).2=(0,(Jc0 c.rm (BeginV c.rm).2)):=if_pos hsb
 have hxs:x.st.x=(BeginV c.rm).2:=(congrArg Prod.fst hxx).trans hB2
 have hlg2:LegalV c.rm x.st.x=(0,(Jc0 c.rm (BeginV c.rm).2)):=by rw [hxs]; exact hlg
 refine Ck (Qc (Nz 0 ?_))
 refine Wk 0 (by first | exact Jac (j:=0) rfl rfl tk47 | exact Jab (j:=0) rfl rfl (by rfl) tk47 | exact Jai rfl (by assumption) (by rfl) tk47 | exact Jad (n:=4) (j:=0) rfl rfl rfl rfl tk47) ?_
 refine Wc rfl rfl J0w (fun u hu=>Jqo x u (hu.ro (j:=1) rfl) hsmx) (fun _=>rfl) ?_; rintro y ⟨hyx,uy,hyok⟩
 obtain ⟨hya,hyb,hyc⟩:=hyok.st.ones
 have hyd:=Sl.one hyok.rd
 refine Wl 0 zv47 (fun _=>rfl) (fun _=>rfl) fun b8 hb8=>?_
 refine Wv 0 0 ?_
 refine Wd (Qc (Cs (Nz 1 ?_)))
 refine Wd (Qc (Ce ?_))
 refine CS.loopM (σ:=Int × Pos) [10,11,50,51,52,53,54,55,56,57,58,59,60,61,62,63,64,65,66,67,68] (fun s=>[(9,.int .i64 s.1)]) (fun s=>[blk b8 [s.2.st.ths.v,s.2.st.prs.v,s.2.st.pls.v,s.2.rd.v] 47,roS fun u=>PosOk u s.2,blk b6 [x.st.ths.v,x.st.prs.v,x.st.pls.v,x.rd.v] 47,roS fun u=>PosOk u x,blk b5 [c.rm.pls.v,c.rm.ths.v,c.rm.prs.v,c.rm.wys.v,c.rm.acs.v,c.rm.aus.v,.int .i64 c.rm.ply,c.rm.gl.v,c.lks.v,c.cds.v,c.nts.v,.int .i64 c.tr] 36,roS fun u=>GameOk u c,blk b2 [G.rm.pls.v,G.rm.ths.v,G.rm.prs.v,G.rm.wys.v,G.rm.acs.v,G.rm.aus.v,.int .i64 G.rm.ply,G.rm.gl.v,G.lks.v,G.cds.v,G.nts.v,.int .i64 G.tr] 36]) (fun s=>0≤s.1∧s.1≤ms.l.length∧posG c.p s.2.x=0∧∃ u0,PosOk u0 s.2) (fun s=>(ms.l.length - s.1).toNat) (0,y) (fun _ _=>rfl) rfl rfl ⟨by simp,by simp,by show posG c.p y.x=0; rw [hyx]; exact hq0,⟨_,hyok⟩⟩ ?_
 intro i t hs
 obtain ⟨hi1,hi2,hi3,ui,hiok⟩:=hs
 obtain ⟨hia,hib,hic⟩:=hiok.st.ones
 have hid:=Sl.one hiok.rd
 refine Cs (Nz 2 ?_)
 refine Wk 1 Nc ?_
 refine Wd (Qc (CS.cond rfl ?_ ?_))<;>intro hc3<;>try simp only [bq] at hc3
 ·
  have hi7:i.1 < ms.l.length:=by omega
  refine Ck (Qc (Cs (Ce ?_)))
  refine CS.cut (σ:=Nat × Pos) [56,57,58,59,60,61,62,63,64,65] (fun s=>[(10,.pointer (some ⟨s.1,0,none⟩)),(11,.int .i64 (Jbh c.p i.2.x (nth ms.l i.1)).1)]) (fun s=>[blk s.1 [s.2.st.ths.v,s.2.st.prs.v,s.2.st.pls.v,s.2.rd.v] 47,roS fun u=>PosOk u s.2,blk b8 [i.2.st.ths.v,i.2.st.prs.v,i.2.st.pls.v,i.2.rd.v] 47,roS fun u=>PosOk u i.2,blk b6 [x.st.ths.v,x.st.prs.v,x.st.pls.v,x.rd.v] 47,roS fun u=>PosOk u x,blk b5 [c.rm.pls.v,c.rm.ths.v,c.rm.prs.v,c.rm.wys.v,c.rm.acs.v,c.rm.aus.v,.int .i64 c.rm.ply,c.rm.gl.v,c.lks.v,c.cds.v,c.nts.v,.int .i64 c.tr] 36,roS fun u=>GameOk u c,blk b2 [G.rm.pls.v,G.rm.ths.v,G.rm.prs.v,G.rm.wys.v,G.rm.acs.v,G.rm.aus.v,.int .i64 G.rm.ply,G.rm.gl.v,G.lks.v,G.cds.v,G.nts.v,.int .i64 G.tr] 36]) (fun s=>s.2.x=(Jbh c.p i.2.x (nth ms.l i.1)).2∧∃ u0,PosOk u0 s.2) (fun _ _=>rfl) ?_ ?_
  ·
   refine CS.drawnAll (k:=13) mixed rfl rfl ?_
   refine Ak 0 [] rfl (by first | exact Jac (j:=4) rfl rfl tk36 | exact Jab (j:=4) rfl rfl (by rfl) tk36 | exact Jai rfl (by assumption) (by rfl) tk36 | exact Jad (n:=12) (j:=4) rfl rfl rfl rfl tk36) ?_
   refine Ak 1 [2,3] rfl (by first | exact Jac (j:=0) rfl rfl tk47 | exact Jab (j:=0) rfl rfl (by rfl) tk47 | exact Jai rfl (by assumption) (by rfl) tk47 | exact Jad (n:=4) (j:=0) rfl rfl rfl rfl tk47) ?_
   refine Ak 4 [] rfl Xc ?_
   refine Ak 5 [] rfl (by first | exact Jjk rfl (by assumption) rfl ⟨(by omega),(by omega)⟩ rfl tk54 | exact Jdb (jj:=1) rfl rfl rfl ⟨(by omega),(by omega)⟩ rfl tk54 | exact Jdb (jj:=3) rfl rfl rfl ⟨(by omega),(by omega)⟩ rfl tk54 | exact Jdb (jj:=5) rfl rfl rfl ⟨(by omega),(by omega)⟩ rfl tk54) ?_
   refine AS.two (i:=6) (j:=10) (by kernel_rfl) rfl rfl (by first | exact fun _ h=>h | exact fun _ h=>h.sub (by repeat first | exact List.Sublist.refl _ | apply List.Sublist.cons_cons | apply List.Sublist.cons)) rfl rfl ?_ ?_
   ·
    refine Wc rfl rfl Jyp (fun u hu=>Jqv c u (hu.ro (j:=5) rfl) g (hW.st hu) hnc i.2 (hu.ro (j:=1) rfl) (nth ms.l i.1)) (fun _=>rfl) ?_; rintro x3 ⟨hx3x,ux3,hx3ok⟩
    obtain ⟨hx3a,hx3b,hx3c⟩:=hx3ok.st.ones
    have hx3d:=Sl.one hx3ok.rd
    refine Wd (Qa ?_)
    refine Ar [7,8,9] ?_
    refine Ao 10 rfl ?_
    refine Wl 0 zv47 (fun _=>rfl) (fun _=>rfl) fun b10 hb10=>?_
    refine Wd (Qa ?_)
    refine Ao 11 rfl ?_
    refine Wv 0 0 ?_
    refine Wd (Qa ?_)
    refine Ar [12] ?_
    refine Ae ?_
    exact QS.head ((b10,x3)) rfl rfl ⟨hx3x,ux3,hx3ok⟩
   refine Wl 0 zv47 (fun _=>rfl) (fun _=>rfl) fun b10 hb10=>?_
   refine Wd (Qa ?_)
   refine Ao 6 rfl ?_
   refine Wc rfl rfl Jyp (fun u hu=>Jqv c u (hu.ro (j:=6) rfl) g (hW.st hu) hnc i.2 (hu.ro (j:=2) rfl) (nth ms.l i.1)) (fun _=>rfl) ?_; rintro x3 ⟨hx3x,ux3,hx3ok⟩
   obtain ⟨hx3a,hx3b,hx3c⟩:=hx3ok.st.ones
   have hx3d:=Sl.one hx3ok.rd
   refine Wd (Qa ?_)
   refine Ar [7,8,9] ?_
   refine Ao 11 rfl ?_
   refine Wv 0 1 ?_
   refine Wd (Qa ?_)
   refine Ar [12] ?_
   refine Ae ?_
   refine QS.sel [1,0,0,0,0,0,0,0,0] rfl ?_
   exact QS.head ((b10,x3)) rfl rfl ⟨hx3x,ux3,hx3ok⟩
  intro s t hs
  obtain ⟨b10,x3⟩:=s
  obtain ⟨hx3x,ux3,hx3ok⟩:=hs
  obtain ⟨hx3a,hx3b,hx3c⟩:=hx3ok.st.ones
  have hx3d:=Sl.one hx3ok.rd
  refine Nz 2 ?_
  refine Wd (Qc (CS.cond rfl ?_ ?_))<;>intro hc4<;>try simp only [bq] at hc4
  ·
   have hS0:(Jbh c.p i.2.x (nth ms.l i.1)).1=0:=hc4
   refine Ny 0 ?_
   refine Wk 0 (by first | exact Jac (j:=0) rfl rfl tk47 | exact Jac (j:=1) rfl rfl tk47 | exact Jac (j:=2) rfl rfl tk47 | exact Jac (j:=3) rfl rfl tk47 | exact Jac (j:=4) rfl rfl tk47 | exact Jac (j:=5) rfl rfl tk47 | exact Jac (j:=6) rfl rfl tk47 | exact Jac (j:=7) rfl rfl tk47 | exact Jac (j:=8) rfl rfl tk47 | exact Jac (j:=9) rfl rfl tk47 | exact Jac (j:=10) rfl rfl tk47 | exact Jac (j:=11) rfl rfl tk47 | exact Jac (j:=12) rfl rfl tk47 | exact Jac (j:=13) rfl rfl tk47 | exact Jab (j:=0) rfl rfl (by rfl) tk47 | exact Jab (j:=1) rfl rfl (by rfl) tk47 | exact Jab (j:=2) rfl rfl (by rfl) tk47 | exact Jab (j:=3) rfl rfl (by rfl) tk47 | exact Jab (j:=4) rfl rfl (by rfl) tk47 | exact Jab (j:=5) rfl rfl (by rfl) tk47 | exact Jab (j:=6) rfl rfl (by rfl) tk47 | exact Jab (j:=7) rfl rfl (by rfl) tk47 | exact Jab (j:=8) rfl rfl (by rfl) tk47 | exact Jab (j:=9) rfl rfl (by rfl) tk47 | exact Jab (j:=10) rfl rfl (by rfl) tk47 | exact Jab (j:=11) rfl rfl (by rfl) tk47 | exact Jab (j:=12) rfl rfl (by rfl) tk47 | exact Jab (j:=13) rfl rfl (by rfl) tk47 | exact Jai rfl (by assumption) (by rfl) tk47 | exact Jad (n:=4) (j:=0) rfl rfl rfl rfl tk47 | exact Jad (n:=4) (j:=1) rfl rfl rfl rfl tk47 | exact Jad (n:=4) (j:=2) rfl rfl rfl rfl tk47 | exact Jad (n:=4) (j:=3) rfl rfl rfl rfl tk47 | exact Jad (n:=4) (j:=4) rfl rfl rfl rfl tk47 | exact Jad (n:=4) (j:=5) rfl rfl rfl rfl tk47 | exact Jad (n:=4) (j:=6) rfl rfl rfl rfl tk47 | exact Jad (n:=4) (j:=7) rfl rfl rfl rfl tk47 | exact Jad (n:=4) (j:=8) rfl rfl rfl rfl tk47 | exact Jad (n:=4) (j:=9) rfl rfl rfl rfl tk47 | exact Jad (n:=4) (j:=10) rfl rfl rfl rfl tk47 | exact Jad (n:=4) (j:=11) rfl rfl rfl rfl tk47 | exact Jad (n:=4) (j:=12) rfl rfl rfl rfl tk47 | exact Jad (n:=4) (j:=13) rfl rfl rfl rfl tk47) ?_
   refine Wv 0 2 ?_
   refine Wd (Qb (Qc (Ny 1 ?_)))
   refine Wk 1 Za ?_
   refine Wd ?_
   refine QS.sel [2,1,2,2,2,2,2] rfl ?_
   skip
   exact QS.head ((i.1+1,x3)) rfl rfl ⟨⟨by simp; omega,by simp; omega,by show posG c.p x3.x=0; rw [hx3x]; exact (Jjq hS0).2.2,⟨_,hx3ok⟩⟩,by simp; omega⟩
  refine Ck (Qb (Qc (Ny 1 ?_)))
  refine Wk 1 Za ?_
  refine Wd ?_
  refine QS.sel [2,2,2,2,2,2,2] rfl ?_
  exact QS.head ((i.1+1,i.2)) rfl rfl ⟨⟨by simp; omega,by simp; omega,hi3,⟨_,hiok⟩⟩,by simp; omega⟩
 have hPi:=Jfh (G:=c) hi3
 have hsmi:=hPi.small.1
 have hSi:stL c.rm i.2.st.x=0:=Jc4.2 ⟨hPi.ck,hPi.inn⟩
 have hli:=Len3.of_in hR hPi.inn
 refine Cv (Qe (Qe (Qx (Qc ?_))))
 refine CS.cut (σ:=Int × Sl Task) [69,70,71,72,73,74,75,76,77] (fun s=>[(12,s.2.v),(13,.int .i64 s.1)]) (fun s=>[roT cTask s.2,blk b8 [i.2.st.ths.v,i.2.st.prs.v,i.2.st.pls.v,i.2.rd.v] 47,roS fun u=>PosOk u i.2,blk b6 [x.st.ths.v,x.st.prs.v,x.st.pls.v,x.rd.v] 47,roS fun u=>PosOk u x,blk b5 [c.rm.pls.v,c.rm.ths.v,c.rm.prs.v,c.rm.wys.v,c.rm.acs.v,c.rm.aus.v,.int .i64 c.rm.ply,c.rm.gl.v,c.lks.v,c.cds.v,c.nts.v,.int .i64 c.tr] 36,roS fun u=>GameOk u c,blk b2 [G.rm.pls.v,G.rm.ths.v,G.rm.prs.v,G.rm.wys.v,G.rm.acs.v,G.rm.aus.v,.int .i64 G.rm.ply,G.rm.gl.v,G.lks.v,G.cds.v,G.nts.v,.int .i64 G.tr] 36]) (fun s=>(s.1=0→List9 c.rm (BeginV c.rm).2 i.2.st.x s.2.l)∧∃ u0,SlT cTask u0 s.2) (fun _ _=>rfl) ?_ ?_
 ·
  refine CS.drawnAll (k:=11) mixed rfl rfl ?_
  refine Ar [0] ?_
  refine Ak 1 [2] rfl (by first | exact Jac (j:=4) rfl rfl tk31 | exact Jab (j:=4) rfl rfl (by rfl) tk31 | exact Jai rfl (by assumption) (by rfl) tk31 | exact Jad (n:=8) (j:=4) rfl rfl rfl rfl tk31) ?_
  refine Ak 3 [] rfl (by first | exact Jac (j:=0) rfl rfl tk44 | exact Jab (j:=0) rfl rfl (by rfl) tk44 | exact Jai rfl (by assumption) (by rfl) tk44 | exact Jad (n:=3) (j:=0) rfl rfl rfl rfl tk44) ?_
  refine Ao 4 rfl ?_
  refine Wc rfl rfl Jlf (fun u hu=>Jbu i.2.st u (hu.ro (j:=1) rfl).st hsmi) (fun _=>rfl) ?_; rintro z ⟨hzx,uz,hzok⟩
  obtain ⟨hza,hzb,hzc⟩:=hzok.ones
  have hSz:stL c.rm z.x=0:=by rw [hzx]; exact hSi
  have hlz:Len3 c.rm z.x:=by rw [hzx]; exact hli
  have hmz:z.ths.l.length≤1000000∧z.prs.l.length≤1000000∧z.pls.l.length≤1000000:=by
   rw [show z.ths.l=z.x.1 from rfl,show z.prs.l=z.x.2.1 from rfl,show z.pls.l=z.x.2.2 from rfl,hzx]; exact hsmi
  refine Wd (Qa ?_)
  refine Ao 5 rfl ?_
  refine Wc rfl rfl J1m (fun u hu=>Js8 c.rm u (hu.ro (j:=6) rfl).rm g (hW.st hu) hnc.rm z (hu.ro (j:=0) rfl) hmz hBB hSz hR hlz hl2 (Jol ht hu)) (fun _=>rfl) ?_; rintro le ⟨hle,ul,hlok⟩
  refine Wd (Qa ?_)
  refine Ar [6,7,8,9,10] ?_
  refine Ae ?_
  refine QS.sel [0,1,1,1,1,1,1,1] rfl ?_
  exact QS.head (le) rfl rfl ⟨fun h=>by rw [← hzx]; exact hle h,ul,hlok⟩
 intro le t hs
 obtain ⟨hle,ul,hlok⟩:=hs
 refine Cs (Nz 3 ?_)
 refine Wf 0 rfl rfl (fun hg=>Fm) ?_
 refine Wf 0 rfl rfl (fun hg=>Jds (s:=le.2) sl55 (eg_ hg rfl) hlok) ?_
 refine Wf 0 rfl rfl (fun hg=>Fg) ?_
 refine Wk 0 Po ?_
 refine Wd (Qc (CS.cond rfl ?_ ?_))<;>intro hc5<;>try simp only [bq] at hc5
 ·
  refine Nz 0 ?_
  refine Wk 1 (Cb rfl rfl ent9 (fun u hu=>Jgp u)) ?_
  exact Wd (Qc (Cr (Qr (out1 rfl rfl retB))))
 have hle0:le.1=0:=by grind
 have hlm:le.2.l.length≤200:=by grind
 have hL9:=hle hle0
 refine Ck (Qc ?_)
 refine CS.cut (σ:=Nat × Stt) [86,87,88,89,90,91,92,93,94,95] (fun s=>[(14,.pointer (some ⟨s.1,0,none⟩)),(15,.int .i64 0)]) (fun s=>[blk s.1 [s.2.ths.v,s.2.prs.v,s.2.pls.v] 44,roS fun u=>SttOk u s.2,blk b6 [x.st.ths.v,x.st.prs.v,x.st.pls.v,x.rd.v] 47,roS fun u=>PosOk u x,blk b5 [c.rm.pls.v,c.rm.ths.v,c.rm.prs.v,c.rm.wys.v,c.rm.acs.v,c.rm.aus.v,.int .i64 c.rm.ply,c.rm.gl.v,c.lks.v,c.cds.v,c.nts.v,.int .i64 c.tr] 36,roS fun u=>GameOk u c,blk b2 [G.rm.pls.v,G.rm.ths.v,G.rm.prs.v,G.rm.wys.v,G.rm.acs.v,G.rm.aus.v,.int .i64 G.rm.ply,G.rm.gl.v,G.lks.v,G.cds.v,G.nts.v,.int .i64 G.tr] 36]) (fun s=>s.2.x=((BeginV c.rm).2.1,(BeginV c.rm).2.2.1,i.2.st.x.2.2)∧∃ u0,SttOk u0 s.2) (fun _ _=>rfl) ?_ ?_
 ·
  refine CS.drawnAll (k:=13) mixed rfl rfl ?_
  refine Ar [0] ?_
  refine Ak 1 [2] rfl (by first | exact Jac (j:=5) rfl rfl tk31 | exact Jab (j:=5) rfl rfl (by rfl) tk31 | exact Jai rfl (by assumption) (by rfl) tk31 | exact Jad (n:=8) (j:=5) rfl rfl rfl rfl tk31) ?_
  refine Ak 3 [5] rfl (by first | exact Jac (j:=1) rfl rfl tk44 | exact Jab (j:=1) rfl rfl (by rfl) tk44 | exact Jai rfl (by assumption) (by rfl) tk44 | exact Jad (n:=3) (j:=1) rfl rfl rfl rfl tk44) ?_
  refine AS.two (i:=4) (j:=10) (by kernel_rfl) rfl rfl (by first | exact fun _ h=>h | exact fun _ h=>h.sub (by repeat first | exact List.Sublist.refl _ | apply List.Sublist.cons_cons | apply List.Sublist.cons)) rfl rfl ?_ ?_
  ·
   refine Wc rfl rfl Jlf (fun u hu=>Jbu i.2.st u (hu.ro (j:=2) rfl).st hsmi) (fun _=>rfl) ?_; rintro z2 ⟨hz2x,uz2,hz2ok⟩
   obtain ⟨hz2a,hz2b,hz2c⟩:=hz2ok.ones
   have hSz2:stL c.rm z2.x=0:=by rw [hz2x]; exact hSi
   have hlz2:Len3 c.rm z2.x:=by rw [hz2x]; exact hli
   have hmz2:z2.ths.l.length≤1000000∧z2.prs.l.length≤1000000∧z2.pls.l.length≤1000000:=by
    rw [show z2.ths.l=z2.x.1 from rfl,show z2.prs.l=z2.x.2.1 from rfl,show z2.pls.l=z2.x.2.2 from rfl,hz2x]; exact hsmi
   have hL92:List9 c.rm (BeginV c.rm).2 z2.x le.2.l:=by rw [hz2x]; exact hL9
   refine Wd (Qa ?_)
   refine AS.two (i:=6) (j:=10) (by kernel_rfl) rfl rfl (by first | exact fun _ h=>h | exact fun _ h=>h.sub (by repeat first | exact List.Sublist.refl _ | apply List.Sublist.cons_cons | apply List.Sublist.cons)) rfl rfl ?_ ?_
   ·
    refine Wc rfl rfl Ju5 (fun u hu=>Jlm c.rm u (hu.ro (j:=7) rfl).rm g (hW.st hu) hnc.rm z2 (hu.ro (j:=0) rfl) hmz2 hBB hSz2 hR hlz2 hl2 le.2 (hu.ro (j:=1) rfl) hlm hL92) (fun _=>rfl) ?_; rintro sr ⟨hsrx,usr,hsrok⟩
    obtain ⟨hsra,hsrb,hsrc⟩:=hsrok.ones
    refine Wd (Qa ?_)
    refine Ar [7,8,9] ?_
    refine Ao 10 rfl ?_
    refine Wl 0 zv44 (fun _=>rfl) (fun _=>rfl) fun b14 hb14=>?_
    refine Wd (Qa ?_)
    refine Ao 11 rfl ?_
    refine Wv 0 0 ?_
    refine Wd (Qa ?_)
    refine Ar [12] ?_
    refine Ae ?_
    refine QS.sel [0,0,4,4,4,4,4] rfl ?_
    exact QS.head ((b14,sr)) rfl rfl ⟨hsrx.trans (by rw [hz2x]),usr,hsrok⟩
   refine Wl 0 zv44 (fun _=>rfl) (fun _=>rfl) fun b14 hb14=>?_
   refine Wd (Qa ?_)
   refine Ao 6 rfl ?_
   refine Wc rfl rfl Ju5 (fun u hu=>Jlm c.rm u (hu.ro (j:=8) rfl).rm g (hW.st hu) hnc.rm z2 (hu.ro (j:=1) rfl) hmz2 hBB hSz2 hR hlz2 hl2 le.2 (hu.ro (j:=2) rfl) hlm hL92) (fun _=>rfl) ?_; rintro sr ⟨hsrx,usr,hsrok⟩
   obtain ⟨hsra,hsrb,hsrc⟩:=hsrok.ones
   refine Wd (Qa ?_)
   refine Ar [7,8,9] ?_
   refine Ao 11 rfl ?_
   refine Wv 0 1 ?_
   refine Wd (Qa ?_)
   refine Ar [12] ?_
   refine Ae ?_
   refine QS.sel [1,0,4,4,4,4,4] rfl ?_
   exact QS.head ((b14,sr)) rfl rfl ⟨hsrx.trans (by rw [hz2x]),usr,hsrok⟩
  refine Wl 0 zv44 (fun _=>rfl) (fun _=>rfl) fun b14 hb14=>?_
  refine Wd (Qa ?_)
  refine Ao 4 rfl ?_
  refine Wc rfl rfl Jlf (fun u hu=>Jbu i.2.st u (hu.ro (j:=3) rfl).st hsmi) (fun _=>rfl) ?_; rintro z2 ⟨hz2x,uz2,hz2ok⟩
  obtain ⟨hz2a,hz2b,hz2c⟩:=hz2ok.ones
  have hSz2:stL c.rm z2.x=0:=by rw [hz2x]; exact hSi
  have hlz2:Len3 c.rm z2.x:=by rw [hz2x]; exact hli
  have hmz2:z2.ths.l.length≤1000000∧z2.prs.l.length≤1000000∧z2.pls.l.length≤1000000:=by
   rw [show z2.ths.l=z2.x.1 from rfl,show z2.prs.l=z2.x.2.1 from rfl,show z2.pls.l=z2.x.2.2 from rfl,hz2x]; exact hsmi
  have hL92:List9 c.rm (BeginV c.rm).2 z2.x le.2.l:=by rw [hz2x]; exact hL9
  refine Wd (Qa ?_)
  refine Ao 6 rfl ?_
  refine Wc rfl rfl Ju5 (fun u hu=>Jlm c.rm u (hu.ro (j:=8) rfl).rm g (hW.st hu) hnc.rm z2 (hu.ro (j:=0) rfl) hmz2 hBB hSz2 hR hlz2 hl2 le.2 (hu.ro (j:=2) rfl) hlm hL92) (fun _=>rfl) ?_; rintro sr ⟨hsrx,usr,hsrok⟩
  obtain ⟨hsra,hsrb,hsrc⟩:=hsrok.ones
  refine Wd (Qa ?_)
  refine Ar [7,8,9] ?_
  refine Ao 11 rfl ?_
  refine Wv 0 2 ?_
  refine Wd (Qa ?_)
  refine Ar [12] ?_
  refine Ae ?_
  refine QS.sel [2,0,4,4,4,4,4] rfl ?_
  exact QS.head ((b14,sr)) rfl rfl ⟨hsrx.trans (by rw [hz2x]),usr,hsrok⟩
 intro s t hs
 obtain ⟨b14,sr⟩:=s
 obtain ⟨hsrx,usr,hsrok⟩:=hs
 obtain ⟨hsra,hsrb,hsrc⟩:=hsrok.ones
 refine Cs (Nz 2 ?_)
 refine Wd (Qc (CS.cond rfl ?_ ?_))<;>intro hc6<;>try simp only [bq] at hc6
 ·
  exact absurd hc6 (by simp)
 have e1:sr.ths.l=(BeginV c.rm).2.1:=congrArg Prod.fst hsrx
 have e2:sr.prs.l=(BeginV c.rm).2.2.1:=congrArg (fun q=>q.2.1) hsrx
 have hSx:∀ v:Value,(⟨sr.ths,sr.prs,⟨v,List.replicate G.rm.ply.toNat 0⟩⟩:Stt).x=((BeginV c.rm).2.1,(BeginV c.rm).2.2.1,List.replicate c.rm.ply.toNat 0):=fun v=>by
  show (sr.ths.l,sr.prs.l,List.replicate G.rm.ply.toNat 0)=_
  rw [e1,e2,hply]
 have hm3:sr.ths.l.length≤1000000∧sr.prs.l.length≤1000000∧(List.replicate G.rm.ply.toNat (0:Int)).length≤1000000:=by
  have a1:=hl2.th
  have a2:=hl2.pr
  rw [e1,e2,List.length_replicate]
  omega
 have hset:=Jre hR hP0.ck hBB
 refine Ck (Qc (Nz 2 ?_))
 refine Wk 0 (by first | exact Jaa (j:=6) rfl rfl rfl tk3 | exact Jaf rfl (by assumption) rfl tk3) ?_
 refine WS.makeInts sl42 rfl rfl zv3 (by omega) (by omega) (by omega) (fun _=>rfl) ?_; intro v101; refine WS.oc (j:=0) rfl (fun hv101=>?_)
 refine Wz 1 ?_
 first | refine WS.store (j:=0) rfl rfl (by first | decide | omega | (simp; done) | (simp; omega) | exact Nat.le_of_ble_eq_true rfl) rfl (by first | rfl | assumption) tk42 rfl rfl ?_ | refine WS.store (j:=0) rfl rfl (by first | decide | omega | (simp; done) | (simp; omega) | exact Nat.le_of_ble_eq_true rfl) rfl (by first | rfl | assumption) tk42 (Jan _ _ _) rfl ?_ | refine WS.store (j:=1) rfl rfl (by first | decide | omega | (simp; done) | (simp; omega) | exact Nat.le_of_ble_eq_true rfl) rfl (by first | rfl | assumption) tk42 rfl rfl ?_ | refine WS.store (j:=1) rfl rfl (by first | decide | omega | (simp; done) | (simp; omega) | exact Nat.le_of_ble_eq_true rfl) rfl (by first | rfl | assumption) tk42 (Jan _ _ _) rfl ?_ | refine WS.store (j:=2) rfl rfl (by first | decide | omega | (simp; done) | (simp; omega) | exact Nat.le_of_ble_eq_true rfl) rfl (by first | rfl | assumption) tk42 rfl rfl ?_ | refine WS.store (j:=2) rfl rfl (by first | decide | omega | (simp; done) | (simp; omega) | exact Nat.le_of_ble_eq_true rfl) rfl (by first | rfl | assumption) tk42 (Jan _ _ _) rfl ?_ | refine WS.store (j:=3) rfl rfl (by first | decide | omega | (simp; done) | (simp; omega) | exact Nat.le_of_ble_eq_true rfl) rfl (by first | rfl | assumption) tk42 rfl rfl ?_ | refine WS.store (j:=3) rfl rfl (by first | decide | omega | (simp; done) | (simp; omega) | exact Nat.le_of_ble_eq_true rfl) rfl (by first | rfl | assumption) tk42 (Jan _ _ _) rfl ?_ | refine WS.store (j:=4) rfl rfl (by first | decide | omega | (simp; done) | (simp; omega) | exact Nat.le_of_ble_eq_true rfl) rfl (by first | rfl | assumption) tk42 rfl rfl ?_ | refine WS.store (j:=4) rfl rfl (by first | decide | omega | (simp; done) | (simp; omega) | exact Nat.le_of_ble_eq_true rfl) rfl (by first | rfl | assumption) tk42 (Jan _ _ _) rfl ?_ | refine WS.store (j:=5) rfl rfl (by first | decide | omega | (simp; done) | (simp; omega) | exact Nat.le_of_ble_eq_true rfl) rfl (by first | rfl | assumption) tk42 rfl rfl ?_ | refine WS.store (j:=5) rfl rfl (by first | decide | omega | (simp; done) | (simp; omega) | exact Nat.le_of_ble_eq_true rfl) rfl (by first | rfl | assumption) tk42 (Jan _ _ _) rfl ?_ | refine WS.store (j:=6) rfl rfl (by first | decide | omega | (simp; done) | (simp; omega) | exact Nat.le_of_ble_eq_true rfl) rfl (by first | rfl | assumption) tk42 rfl rfl ?_ | refine WS.store (j:=6) rfl rfl (by first | decide | omega | (simp; done) | (simp; omega) | exact Nat.le_of_ble_eq_true rfl) rfl (by first | rfl | assumption) tk42 (Jan _ _ _) rfl ?_ | refine WS.store (j:=7) rfl rfl (by first | decide | omega | (simp; done) | (simp; omega) | exact Nat.le_of_ble_eq_true rfl) rfl (by first | rfl | assumption) tk42 rfl rfl ?_ | refine WS.store (j:=7) rfl rfl (by first | decide | omega | (simp; done) | (simp; omega) | exact Nat.le_of_ble_eq_true rfl) rfl (by first | rfl | assumption) tk42 (Jan _ _ _) rfl ?_ | refine WS.store (j:=8) rfl rfl (by first | decide | omega | (simp; done) | (simp; omega) | exact Nat.le_of_ble_eq_true rfl) rfl (by first | rfl | assumption) tk42 rfl rfl ?_ | refine WS.store (j:=8) rfl rfl (by first | decide | omega | (simp; done) | (simp; omega) | exact Nat.le_of_ble_eq_true rfl) rfl (by first | rfl | assumption) tk42 (Jan _ _ _) rfl ?_ | refine WS.store (j:=9) rfl rfl (by first | decide | omega | (simp; done) | (simp; omega) | exact Nat.le_of_ble_eq_true rfl) rfl (by first | rfl | assumption) tk42 rfl rfl ?_ | refine WS.store (j:=9) rfl rfl (by first | decide | omega | (simp; done) | (simp; omega) | exact Nat.le_of_ble_eq_true rfl) rfl (by first | rfl | assumption) tk42 (Jan _ _ _) rfl ?_ | refine WS.store (j:=10) rfl rfl (by first | decide | omega | (simp; done) | (simp; omega) | exact Nat.le_of_ble_eq_true rfl) rfl (by first | rfl | assumption) tk42 rfl rfl ?_ | refine WS.store (j:=10) rfl rfl (by first | decide | omega | (simp; done) | (simp; omega) | exact Nat.le_of_ble_eq_true rfl) rfl (by first | rfl | assumption) tk42 (Jan _ _ _) rfl ?_ | refine WS.store (j:=11) rfl rfl (by first | decide | omega | (simp; done) | (simp; omega) | exact Nat.le_of_ble_eq_true rfl) rfl (by first | rfl | assumption) tk42 rfl rfl ?_ | refine WS.store (j:=11) rfl rfl (by first | decide | omega | (simp; done) | (simp; omega) | exact Nat.le_of_ble_eq_true rfl) rfl (by first | rfl | assumption) tk42 (Jan _ _ _) rfl ?_ | refine WS.store (j:=12) rfl rfl (by first | decide | omega | (simp; done) | (simp; omega) | exact Nat.le_of_ble_eq_true rfl) rfl (by first | rfl | assumption) tk42 rfl rfl ?_ | refine WS.store (j:=12) rfl rfl (by first | decide | omega | (simp; done) | (simp; omega) | exact Nat.le_of_ble_eq_true rfl) rfl (by first | rfl | assumption) tk42 (Jan _ _ _) rfl ?_ | refine WS.store (j:=13) rfl rfl (by first | decide | omega | (simp; done) | (simp; omega) | exact Nat.le_of_ble_eq_true rfl) rfl (by first | rfl | assumption) tk42 rfl rfl ?_ | refine WS.store (j:=13) rfl rfl (by first | decide | omega | (simp; done) | (simp; omega) | exact Nat.le_of_ble_eq_true rfl) rfl (by first | rfl | assumption) tk42 (Jan _ _ _) rfl ?_
 refine Wd (Qc ?_)
 refine CS.cut (σ:=Nat × Stt) [103,104,105,106,107,108,109,110] (fun s=>[(16,.pointer (some ⟨s.1,0,none⟩)),(17,.int .i64 0)]) (fun s=>[blk s.1 [s.2.ths.v,s.2.prs.v,s.2.pls.v] 44,roS fun u=>SttOk u s.2,blk b6 [x.st.ths.v,x.st.prs.v,x.st.pls.v,x.rd.v] 47,roS fun u=>PosOk u x,blk b5 [c.rm.pls.v,c.rm.ths.v,c.rm.prs.v,c.rm.wys.v,c.rm.acs.v,c.rm.aus.v,.int .i64 c.rm.ply,c.rm.gl.v,c.lks.v,c.cds.v,c.nts.v,.int .i64 c.tr] 36,roS fun u=>GameOk u c,blk b2 [G.rm.pls.v,G.rm.ths.v,G.rm.prs.v,G.rm.wys.v,G.rm.acs.v,G.rm.aus.v,.int .i64 G.rm.ply,G.rm.gl.v,G.lks.v,G.cds.v,G.nts.v,.int .i64 G.tr] 36]) (fun s=>s.2.x=(BeginV c.rm).2∧∃ u0,SttOk u0 s.2) (fun _ _=>rfl) ?_ ?_
 ·
  refine CS.drawnAll (k:=11) mixed rfl rfl ?_
  refine Ar [0] ?_
  refine Ak 1 [] rfl (by first | exact Jac (j:=5) rfl rfl tk31 | exact Jab (j:=5) rfl rfl (by rfl) tk31 | exact Jai rfl (by assumption) (by rfl) tk31 | exact Jad (n:=8) (j:=5) rfl rfl rfl rfl tk31) ?_
  refine Ak 2 [] rfl (by first | exact Jac (j:=0) rfl rfl tk44 | exact Jac (j:=1) rfl rfl tk44 | exact Jac (j:=2) rfl rfl tk44 | exact Jac (j:=3) rfl rfl tk44 | exact Jac (j:=4) rfl rfl tk44 | exact Jac (j:=5) rfl rfl tk44 | exact Jac (j:=6) rfl rfl tk44 | exact Jac (j:=7) rfl rfl tk44 | exact Jac (j:=8) rfl rfl tk44 | exact Jac (j:=9) rfl rfl tk44 | exact Jac (j:=10) rfl rfl tk44 | exact Jac (j:=11) rfl rfl tk44 | exact Jac (j:=12) rfl rfl tk44 | exact Jac (j:=13) rfl rfl tk44 | exact Jab (j:=0) rfl rfl (by rfl) tk44 | exact Jab (j:=1) rfl rfl (by rfl) tk44 | exact Jab (j:=2) rfl rfl (by rfl) tk44 | exact Jab (j:=3) rfl rfl (by rfl) tk44 | exact Jab (j:=4) rfl rfl (by rfl) tk44 | exact Jab (j:=5) rfl rfl (by rfl) tk44 | exact Jab (j:=6) rfl rfl (by rfl) tk44 | exact Jab (j:=7) rfl rfl (by rfl) tk44 | exact Jab (j:=8) rfl rfl (by rfl) tk44 | exact Jab (j:=9) rfl rfl (by rfl) tk44 | exact Jab (j:=10) rfl rfl (by rfl) tk44 | exact Jab (j:=11) rfl rfl (by rfl) tk44 | exact Jab (j:=12) rfl rfl (by rfl) tk44 | exact Jab (j:=13) rfl rfl (by rfl) tk44 | exact Jai rfl (by assumption) (by rfl) tk44 | exact Jad (n:=3) (j:=0) rfl rfl rfl rfl tk44 | exact Jad (n:=3) (j:=1) rfl rfl rfl rfl tk44 | exact Jad (n:=3) (j:=2) rfl rfl rfl rfl tk44 | exact Jad (n:=3) (j:=3) rfl rfl rfl rfl tk44 | exact Jad (n:=3) (j:=4) rfl rfl rfl rfl tk44 | exact Jad (n:=3) (j:=5) rfl rfl rfl rfl tk44 | exact Jad (n:=3) (j:=6) rfl rfl rfl rfl tk44 | exact Jad (n:=3) (j:=7) rfl rfl rfl rfl tk44 | exact Jad (n:=3) (j:=8) rfl rfl rfl rfl tk44 | exact Jad (n:=3) (j:=9) rfl rfl rfl rfl tk44 | exact Jad (n:=3) (j:=10) rfl rfl rfl rfl tk44 | exact Jad (n:=3) (j:=11) rfl rfl rfl rfl tk44 | exact Jad (n:=3) (j:=12) rfl rfl rfl rfl tk44 | exact Jad (n:=3) (j:=13) rfl rfl rfl rfl tk44) ?_
  refine AS.two (i:=3) (j:=8) (by kernel_rfl) rfl rfl (by first | exact fun _ h=>h | exact fun _ h=>h.sub (by repeat first | exact List.Sublist.refl _ | apply List.Sublist.cons_cons | apply List.Sublist.cons)) rfl rfl ?_ ?_
  ·
   refine Wc rfl rfl Jlf (fun u hu=>Jbu (⟨sr.ths,sr.prs,⟨v101,List.replicate G.rm.ply.toNat 0⟩⟩:Stt) u ⟨(hu.ro (j:=2) rfl).ths,(hu.ro (j:=2) rfl).prs,(Jal hu (j:=0) rfl).tree⟩ hm3) (fun _=>rfl) ?_; rintro z3 ⟨hz3x,uz3,hz3ok⟩
   obtain ⟨hz3a,hz3b,hz3c⟩:=hz3ok.ones
   have hst3:SettleV c.rm z3.x=(0,(BeginV c.rm).2):=by rw [hz3x]; exact (congrArg (SettleV c.rm) (hSx _)).trans hset
   refine Wd (Qa ?_)
   refine AS.two (i:=4) (j:=8) (by kernel_rfl) rfl rfl (by first | exact fun _ h=>h | exact fun _ h=>h.sub (by repeat first | exact List.Sublist.refl _ | apply List.Sublist.cons_cons | apply List.Sublist.cons)) rfl rfl ?_ ?_
   ·
    refine Wc rfl rfl Jv1 (fun u hu=>(by have q:=Jg0 c.rm u (hu.ro (j:=7) rfl).rm g (hW.st hu) hnc.rm z3 (hu.ro (j:=0) rfl); rw [hst3] at q; exact q)) (fun _=>rfl) ?_; rintro y2 ⟨hy2x,uy2,hy2ok⟩
    obtain ⟨hy2a,hy2b,hy2c⟩:=hy2ok.ones
    refine Wd (Qa ?_)
    refine Ar [5,6,7] ?_
    refine Ao 8 rfl ?_
    refine Wl 0 zv44 (fun _=>rfl) (fun _=>rfl) fun b16 hb16=>?_
    refine Wd (Qa ?_)
    refine Ao 9 rfl ?_
    refine Wv 0 0 ?_
    refine Wd (Qa ?_)
    refine Ar [10] ?_
    refine Ae ?_
    refine QS.sel [0,0,4,4,4,4,4] rfl ?_
    exact QS.head ((b16,y2)) rfl rfl ⟨hy2x,uy2,hy2ok⟩
   refine Wl 0 zv44 (fun _=>rfl) (fun _=>rfl) fun b16 hb16=>?_
   refine Wd (Qa ?_)
   refine Ao 4 rfl ?_
   refine Wc rfl rfl Jv1 (fun u hu=>(by have q:=Jg0 c.rm u (hu.ro (j:=8) rfl).rm g (hW.st hu) hnc.rm z3 (hu.ro (j:=1) rfl); rw [hst3] at q; exact q)) (fun _=>rfl) ?_; rintro y2 ⟨hy2x,uy2,hy2ok⟩
   obtain ⟨hy2a,hy2b,hy2c⟩:=hy2ok.ones
   refine Wd (Qa ?_)
   refine Ar [5,6,7] ?_
   refine Ao 9 rfl ?_
   refine Wv 0 1 ?_
   refine Wd (Qa ?_)
   refine Ar [10] ?_
   refine Ae ?_
   refine QS.sel [1,0,4,4,4,4,4] rfl ?_
   exact QS.head ((b16,y2)) rfl rfl ⟨hy2x,uy2,hy2ok⟩
  refine Wl 0 zv44 (fun _=>rfl) (fun _=>rfl) fun b16 hb16=>?_
  refine Wd (Qa ?_)
  refine Ao 3 rfl ?_
  refine Wc rfl rfl Jlf (fun u hu=>Jbu (⟨sr.ths,sr.prs,⟨v101,List.replicate G.rm.ply.toNat 0⟩⟩:Stt) u ⟨(hu.ro (j:=3) rfl).ths,(hu.ro (j:=3) rfl).prs,(Jal hu (j:=1) rfl).tree⟩ hm3) (fun _=>rfl) ?_; rintro z3 ⟨hz3x,uz3,hz3ok⟩
  obtain ⟨hz3a,hz3b,hz3c⟩:=hz3ok.ones
  have hst3:SettleV c.rm z3.x=(0,(BeginV c.rm).2):=by rw [hz3x]; exact (congrArg (SettleV c.rm) (hSx _)).trans hset
  refine Wd (Qa ?_)
  refine Ao 4 rfl ?_
  refine Wc rfl rfl Jv1 (fun u hu=>(by have q:=Jg0 c.rm u (hu.ro (j:=8) rfl).rm g (hW.st hu) hnc.rm z3 (hu.ro (j:=0) rfl); rw [hst3] at q; exact q)) (fun _=>rfl) ?_; rintro y2 ⟨hy2x,uy2,hy2ok⟩
  obtain ⟨hy2a,hy2b,hy2c⟩:=hy2ok.ones
  refine Wd (Qa ?_)
  refine Ar [5,6,7] ?_
  refine Ao 9 rfl ?_
  refine Wv 0 2 ?_
  refine Wd (Qa ?_)
  refine Ar [10] ?_
  refine Ae ?_
  refine QS.sel [2,0,4,4,4,4,4] rfl ?_
  exact QS.head ((b16,y2)) rfl rfl ⟨hy2x,uy2,hy2ok⟩
 intro s t hs
 obtain ⟨b16,y2⟩:=s
 obtain ⟨hy2x,uy2,hy2ok⟩:=hs
 obtain ⟨hy2a,hy2b,hy2c⟩:=hy2ok.ones
 have hlg1:LegalV c.rm y2.x=(0,(Jc0 c.rm (BeginV c.rm).2)):=by rw [hy2x]; exact hlg
 refine Nz 0 ?_
 refine Wk 0 (by first | exact Jac (j:=4) rfl rfl tk36 | exact Jab (j:=4) rfl rfl (by rfl) tk36 | exact Jai rfl (by assumption) (by rfl) tk36 | exact Jad (n:=12) (j:=4) rfl rfl rfl rfl tk36) ?_
 refine Wc rfl rfl J0g (fun u hu=>Jmd c u (hu.ro (j:=5) rfl) g (hW.st hu) hnc) (fun _=>rfl) ?_; rintro x4 ⟨hx4x,ux4,hx4ok⟩
 obtain ⟨hx4a,hx4b,hx4c⟩:=hx4ok.st.ones
 have hx4d:=Sl.one hx4ok.rd
 refine Wz 3 ?_
 refine Wl 0 zv47 (fun _=>rfl) (fun _=>rfl) fun b18 hb18=>?_
 refine Wv 1 0 ?_
 refine Wd (Qc (Cs (Nz 3 ?_)))
 refine Wf 0 rfl rfl (fun hg=>Fm) ?_
 refine Wf 0 rfl rfl (fun hg=>Fr) ?_
 refine Wk 1 Po ?_
 refine Wf 0 rfl rfl (fun hg=>by first | exact Jac (j:=0) rfl rfl tk44 | exact Jac (j:=1) rfl rfl tk44 | exact Jac (j:=2) rfl rfl tk44 | exact Jac (j:=3) rfl rfl tk44 | exact Jac (j:=4) rfl rfl tk44 | exact Jac (j:=5) rfl rfl tk44 | exact Jac (j:=6) rfl rfl tk44 | exact Jac (j:=7) rfl rfl tk44 | exact Jac (j:=8) rfl rfl tk44 | exact Jac (j:=9) rfl rfl tk44 | exact Jac (j:=10) rfl rfl tk44 | exact Jac (j:=11) rfl rfl tk44 | exact Jac (j:=12) rfl rfl tk44 | exact Jac (j:=13) rfl rfl tk44 | exact Jab (j:=0) rfl rfl (by rfl) tk44 | exact Jab (j:=1) rfl rfl (by rfl) tk44 | exact Jab (j:=2) rfl rfl (by rfl) tk44 | exact Jab (j:=3) rfl rfl (by rfl) tk44 | exact Jab (j:=4) rfl rfl (by rfl) tk44 | exact Jab (j:=5) rfl rfl (by rfl) tk44 | exact Jab (j:=6) rfl rfl (by rfl) tk44 | exact Jab (j:=7) rfl rfl (by rfl) tk44 | exact Jab (j:=8) rfl rfl (by rfl) tk44 | exact Jab (j:=9) rfl rfl (by rfl) tk44 | exact Jab (j:=10) rfl rfl (by rfl) tk44 | exact Jab (j:=11) rfl rfl (by rfl) tk44 | exact Jab (j:=12) rfl rfl (by rfl) tk44 | exact Jab (j:=13) rfl rfl (by rfl) tk44 | exact Jai rfl (by assumption) (by rfl) tk44 | exact Jad (n:=3) (j:=0) rfl rfl rfl rfl tk44 | exact Jad (n:=3) (j:=1) rfl rfl rfl rfl tk44 | exact Jad (n:=3) (j:=2) rfl rfl rfl rfl tk44 | exact Jad (n:=3) (j:=3) rfl rfl rfl rfl tk44 | exact Jad (n:=3) (j:=4) rfl rfl rfl rfl tk44 | exact Jad (n:=3) (j:=5) rfl rfl rfl rfl tk44 | exact Jad (n:=3) (j:=6) rfl rfl rfl rfl tk44 | exact Jad (n:=3) (j:=7) rfl rfl rfl rfl tk44 | exact Jad (n:=3) (j:=8) rfl rfl rfl rfl tk44 | exact Jad (n:=3) (j:=9) rfl rfl rfl rfl tk44 | exact Jad (n:=3) (j:=10) rfl rfl rfl rfl tk44 | exact Jad (n:=3) (j:=11) rfl rfl rfl rfl tk44 | exact Jad (n:=3) (j:=12) rfl rfl rfl rfl tk44 | exact Jad (n:=3) (j:=13) rfl rfl rfl rfl tk44) ?_
 refine Wf 0 rfl rfl (fun hg=>Ff) ?_
 refine Wf 0 rfl rfl (fun hg=>by first | exact Jac (j:=4) (eg_ hg rfl) rfl tk44 | exact Jab (j:=4) (eg_ hg rfl) rfl (by rfl) tk44 | exact Jai (eg_ hg rfl) (by assumption) (by rfl) tk44 | exact Jad (n:=3) (j:=4) (eg_ hg rfl) rfl rfl rfl tk44) ?_
 refine Wf 0 rfl rfl (fun hg=>Cb rfl (ec_ (eg_ hg rfl) (ec_ (eg_ hg rfl) en_)) Jya (fun u hu=>Jha y2 x.st u (hu.ro (j:=3) rfl) (hu.ro (j:=5) rfl).st)) ?_
 refine Wf 0 rfl rfl (fun hg=>Fn) ?_
 refine Wk 1 Po ?_
 refine Wf 0 rfl rfl (fun hg=>by first | exact Jac (j:=0) rfl rfl tk47 | exact Jab (j:=0) rfl rfl (by rfl) tk47 | exact Jai rfl (by assumption) (by rfl) tk47 | exact Jad (n:=4) (j:=0) rfl rfl rfl rfl tk47) ?_
 refine Wf 0 rfl rfl (fun hg=>by first | exact Jac (j:=4) rfl rfl tk47 | exact Jab (j:=4) rfl rfl (by rfl) tk47 | exact Jai rfl (by assumption) (by rfl) tk47 | exact Jad (n:=4) (j:=4) rfl rfl rfl rfl tk47) ?_
 refine Wf 0 rfl rfl (fun hg=>Cb rfl (ec_ (eg_ hg rfl) (ec_ (eg_ hg rfl) en_)) J1f (fun u hu=>Jss x4 x u (hu.ro (j:=1) rfl) (hu.ro (j:=5) rfl) (hx4x.trans hxx.symm))) ?_
 refine Wf 0 rfl rfl (fun hg=>Fn) ?_
 refine Wk 0 Po ?_
 refine Wd (Qc (CS.cond rfl ?_ ?_))<;>intro hc7<;>try simp only [bq] at hc7
 ·
  exfalso
  have hyx2:y2.x=x.st.x:=hy2x.trans hxs.symm
  have d1:y2.ths.l=x.st.ths.l:=congrArg Prod.fst hyx2
  have d2:y2.prs.l=x.st.prs.l:=congrArg (fun q=>q.2.1) hyx2
  have d3:y2.pls.l=x.st.pls.l:=congrArg (fun q=>q.2.2) hyx2
  simp [hb0,d1,d2,d3] at hc7
 refine Ck (Qc (Nz 1 ?_))
 refine Wk 0 (by first | exact Jac (j:=6) rfl rfl tk31 | exact Jab (j:=6) rfl rfl (by rfl) tk31 | exact Jai rfl (by assumption) (by rfl) tk31 | exact Jad (n:=8) (j:=6) rfl rfl rfl rfl tk31) ?_
 refine Wk 0 (by first | exact Jac (j:=0) rfl rfl tk44 | exact Jac (j:=1) rfl rfl tk44 | exact Jac (j:=2) rfl rfl tk44 | exact Jac (j:=3) rfl rfl tk44 | exact Jac (j:=4) rfl rfl tk44 | exact Jac (j:=5) rfl rfl tk44 | exact Jac (j:=6) rfl rfl tk44 | exact Jac (j:=7) rfl rfl tk44 | exact Jac (j:=8) rfl rfl tk44 | exact Jac (j:=9) rfl rfl tk44 | exact Jac (j:=10) rfl rfl tk44 | exact Jac (j:=11) rfl rfl tk44 | exact Jac (j:=12) rfl rfl tk44 | exact Jac (j:=13) rfl rfl tk44 | exact Jab (j:=0) rfl rfl (by rfl) tk44 | exact Jab (j:=1) rfl rfl (by rfl) tk44 | exact Jab (j:=2) rfl rfl (by rfl) tk44 | exact Jab (j:=3) rfl rfl (by rfl) tk44 | exact Jab (j:=4) rfl rfl (by rfl) tk44 | exact Jab (j:=5) rfl rfl (by rfl) tk44 | exact Jab (j:=6) rfl rfl (by rfl) tk44 | exact Jab (j:=7) rfl rfl (by rfl) tk44 | exact Jab (j:=8) rfl rfl (by rfl) tk44 | exact Jab (j:=9) rfl rfl (by rfl) tk44 | exact Jab (j:=10) rfl rfl (by rfl) tk44 | exact Jab (j:=11) rfl rfl (by rfl) tk44 | exact Jab (j:=12) rfl rfl (by rfl) tk44 | exact Jab (j:=13) rfl rfl (by rfl) tk44 | exact Jai rfl (by assumption) (by rfl) tk44 | exact Jad (n:=3) (j:=0) rfl rfl rfl rfl tk44 | exact Jad (n:=3) (j:=1) rfl rfl rfl rfl tk44 | exact Jad (n:=3) (j:=2) rfl rfl rfl rfl tk44 | exact Jad (n:=3) (j:=3) rfl rfl rfl rfl tk44 | exact Jad (n:=3) (j:=4) rfl rfl rfl rfl tk44 | exact Jad (n:=3) (j:=5) rfl rfl rfl rfl tk44 | exact Jad (n:=3) (j:=6) rfl rfl rfl rfl tk44 | exact Jad (n:=3) (j:=7) rfl rfl rfl rfl tk44 | exact Jad (n:=3) (j:=8) rfl rfl rfl rfl tk44 | exact Jad (n:=3) (j:=9) rfl rfl rfl rfl tk44 | exact Jad (n:=3) (j:=10) rfl rfl rfl rfl tk44 | exact Jad (n:=3) (j:=11) rfl rfl rfl rfl tk44 | exact Jad (n:=3) (j:=12) rfl rfl rfl rfl tk44 | exact Jad (n:=3) (j:=13) rfl rfl rfl rfl tk44) ?_
 refine Wc rfl rfl J0e (fun u hu=>(by have q:=Jl0 c.rm u (hu.ro (j:=7) rfl).rm g (hW.st hu) hnc.rm y2 (hu.ro (j:=3) rfl); rw [hlg1] at q; exact q)) (fun _=>rfl) ?_; rintro l ⟨ul,hl⟩
 have hlle:=hl.le
 dsimp only at hlle
 refine Wz 5 ?_
 refine Wd (Qc (Nz 1 ?_))
 refine Wk 1 (by first | exact Jac (j:=7) rfl rfl tk31 | exact Jab (j:=7) rfl rfl (by rfl) tk31 | exact Jai rfl (by assumption) (by rfl) tk31 | exact Jad (n:=8) (j:=7) rfl rfl rfl rfl tk31) ?_
 refine Wk 0 (by first | exact Jac (j:=5) rfl rfl tk44 | exact Jab (j:=5) rfl rfl (by rfl) tk44 | exact Jai rfl (by assumption) (by rfl) tk44 | exact Jad (n:=3) (j:=5) rfl rfl rfl rfl tk44) ?_
 refine Wc rfl rfl J0e (fun u hu=>(by have q:=Jl0 c.rm u (hu.ro (j:=8) rfl).rm g (hW.st hu) hnc.rm x.st (hu.ro (j:=6) rfl).st; rw [hlg2] at q; exact q)) (fun _=>rfl) ?_; rintro l2 ⟨ul2,hlk2⟩
 refine Wz 5 ?_
 refine Wd (Qc (Cs (Nz 3 ?_)))
 refine Wf 0 rfl rfl (fun hg=>Fm) ?_
 refine Wf 0 rfl rfl (fun hg=>Fr) ?_
 refine Wk 1 Po ?_
 refine Wf 0 rfl rfl (fun hg=>Fm) ?_
 refine Wf 0 rfl rfl (fun hg=>Jds (s:=⟨l,(Jc0 c.rm (BeginV c.rm).2)⟩) sl37 (eg_ hg rfl) hl) ?_
 refine Wf 0 rfl rfl (fun hg=>Fm) ?_
 refine Wf 0 rfl rfl (fun hg=>Jds (s:=⟨l2,(Jc0 c.rm (BeginV c.rm).2)⟩) sl37 (eg_ hg rfl) hlk2) ?_
 refine Wf 0 rfl rfl (fun hg=>Fr) ?_
 refine Wk 0 Po ?_
 refine Wd (Qc (CS.cond rfl ?_ ?_))<;>intro hc8<;>try simp only [bq] at hc8
 ·
  exfalso
  simp at hc8
 refine Ck (Qc (Cs (Nz 1 ?_)))
 refine Wd (Qc (Ce ?_))
 refine CS.loopM (σ:=Int) [4,163,164,165,166,167,168,169,170,171,172,173,174,175,176,177] (fun s=>[(24,.int .i64 s)]) (fun _=>_) (fun s=>0≤s∧s≤((Jc0 c.rm (BeginV c.rm).2)).length) (fun s=>(((Jc0 c.rm (BeginV c.rm).2)).length - s).toNat) 0 (fun _ _=>rfl) rfl rfl ⟨by omega,by omega⟩ ?_
 intro q t hs
 obtain ⟨hq1,hq2⟩:=hs
 refine Cs (Nz 2 ?_)
 refine Wk 1 (Jds (s:=⟨l2,(Jc0 c.rm (BeginV c.rm).2)⟩) sl37 rfl hlk2) ?_
 refine Wd (Qc (CS.cond rfl ?_ ?_))<;>intro hc9<;>try simp only [bq] at hc9
 ·
  refine Ck (Qc (Cs (Ce (Cs (Dr mixed 2 ?_)))))
  refine Dk 0 (Xc (s:=⟨l,(Jc0 c.rm (BeginV c.rm).2)⟩)) ?_
  refine Dk 2 (Jdb (jj:=1) (s:=⟨l,(Jc0 c.rm (BeginV c.rm).2)⟩) rfl rfl rfl ⟨(by omega),(by omega)⟩ rfl tk54) ?_
  refine Dk 0 (Xc (s:=⟨l2,(Jc0 c.rm (BeginV c.rm).2)⟩)) ?_
  refine Dk 0 (Jdb (jj:=0) (s:=⟨l2,(Jc0 c.rm (BeginV c.rm).2)⟩) rfl rfl rfl ⟨(by omega),(by omega)⟩ rfl tk54) ?_
  refine Dk 0 (Joy Jy3 rfl rfl (Jty (nth (Jc0 c.rm (BeginV c.rm).2) q) (nth (Jc0 c.rm (BeginV c.rm).2) q))) ?_
  refine Dd (Qc (CS.cond rfl ?_ ?_))<;>intro hc10<;>try simp only [bq] at hc10
  ·
   exfalso
   simp at hc10
  refine Ck (Qb (Qc (Ny 1 ?_)))
  refine Wk 1 Za ?_
  exact Wd (QS.head (q+1) rfl rfl ⟨⟨by omega,by omega⟩,by omega⟩)
 refine Cv (Qe (Qe (Qx (Qc (Nz 0 ?_)))))
 refine Wk 1 (Cb rfl rfl ent9 (fun u hu=>Jgp u)) ?_
 exact Wd (Qc (Cr (out1 rfl rfl retB)))
end Go.Proofs.YtbboikncaihafaaGreatDoor
