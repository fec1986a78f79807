/- Merged texts of this proof (walks and plain laws), printed by a program of the prover. -/
import Derived.Test.YtbboikncaihafaaGreatDoorZn
import Derived.Test.YtbboikncaihafaaGreatDoorZk
import Derived.Test.YtbboikncaihafaaGreatDoorZb
import Derived.Test.YtbboikncaihafaaGreatDoorZe
import Derived.Test.YtbboikncaihafaaGreatDoorZl
set_option maxHeartbeats 8000000
namespace Go.Proofs.YtbboikncaihafaaGreatDoor
open Go.RowKit Go.Proofs
set_option maxRecDepth 100000
set_option linter.unusedVariables false
set_option linter.unusedSimpArgs false
theorem Jrj (G:Game) (w:World) (hG:GameOk w G) (g:Sl ByteArray) (hW:GOk w g) (hn:NearG G) (p:Pos) (hp:PosOk w p) :
  Calls Tryz.prog 110 #[.agg #[G.rm.pls.v,G.rm.ths.v,G.rm.prs.v,G.rm.wys.v,G.rm.acs.v,G.rm.aus.v,.int .i64 G.rm.ply,G.rm.gl.v,G.lks.v,G.cds.v,G.nts.v,.int .i64 G.tr],.agg #[p.st.ths.v,p.st.prs.v,p.st.pls.v,p.rd.v]] w (RetB w (.int .i64 (posG G.p p.x))):=by
 have knt:=hG.nts
 have krd:=hp.rd
 refine enter Tryz.func110 rfl rfl (Nat.le_of_ble_eq_true rfl) ?_
 refine Nz 0 ?_
 refine Wb 0 rfl rfl (fun _=>rfl) (fun _=>rfl) fun b2 hb2=>?_
 refine Wb 1 rfl rfl (fun _=>rfl) (fun _=>rfl) fun b3 hb3=>?_
 refine Wd (Qc (Cs (Nz 0 ?_)))
 refine Wk 0 (Bb 1) ?_
 refine Wk 1 (Cb rfl rfl Ka6 (fun u hu=>Jon G u (hG.st hu) g (hW.st hu) hn)) ?_
 refine Wd (Qc (Nz 2 ?_))
 refine Wd (Qc (CS.cond rfl ?_ ?_))<;>intro hc1<;>try simp only [bq] at hc1
 ·
  refine Nz 2 ?_
  exact Wd (Qc (Cr (Qr (out1 rfl rfl (Jab (by rw [Jg0,Jbz rfl hc1]))))))
 refine Ck (Qc (Cs (Nz 1 ?_)))
 refine Wk 1 (Bc 1) ?_
 refine Wk 0 (Bc 0) ?_
 refine Wk 1 (Cb rfl rfl J2l (fun u hu=>Jd4 G.rm u (hG.rm.st hu) g (hW.st hu) hn.rm p.st (hp.st.st hu))) ?_
 refine Wd (Qc (Nz 2 ?_))
 refine Wd (Qc (CS.cond rfl ?_ ?_))<;>intro hc2<;>try simp only [bq] at hc2
 ·
  refine Nz 2 ?_
  exact Wd (Qc (Cr (Qr (out1 rfl rfl (Jab (by rw [Jg0,Jbv hc1,Jbz rfl hc2]))))))
 refine Ck (Qc (Cs (Nz 1 ?_)))
 refine Wk 0 (Ba 0) ?_
 refine Wk 1 Nc ?_
 refine Wk 0 (Ba 1) ?_
 refine Wk 1 Nc ?_
 refine Wd (Qc (CS.cond rfl ?_ ?_))<;>intro hc3<;>try simp only [bq] at hc3
 ·
  refine Nz 1 ?_
  exact Wd (Qc (Cr (Qr (out1 rfl rfl (Jab (by rw [Jg0,Jbv hc1,Jbv hc2,if_neg (by omega)]))))))
 refine Ck (Qc (Nz 1 ?_))
 exact Wd (Qc (Cr (out1 rfl rfl (Jab (by rw [Jg0,Jbv hc1,Jbv hc2,if_pos (by omega)])))))
theorem Kbb (G:Game) (w:World) (hG:GameOk w G) (hn:NearG G) (p:Pos) (hp:PosOk w p) :
  Calls Tryz.prog 258 #[.agg #[G.rm.pls.v,G.rm.ths.v,G.rm.prs.v,G.rm.wys.v,G.rm.acs.v,G.rm.aus.v,.int .i64 G.rm.ply,G.rm.gl.v,G.lks.v,G.cds.v,G.nts.v,.int .i64 G.tr],.agg #[p.st.ths.v,p.st.prs.v,p.st.pls.v,p.rd.v]] w (RetB w (.int .i64 (posG G.p p.x))):=by
 have knt:=hG.nts
 have krd:=hp.rd
 refine enter Tryz.func258 rfl rfl (Nat.le_of_ble_eq_true rfl) ?_
 refine Nz 0 ?_
 refine Wb 0 rfl rfl (fun _=>rfl) (fun _=>rfl) fun b2 hb2=>?_
 refine Wb 1 rfl rfl (fun _=>rfl) (fun _=>rfl) fun b3 hb3=>?_
 refine Wd (Qc (Nz 0 ?_))
 refine Wk 0 (Bb 1) ?_
 refine Wk 1 (Cb rfl rfl J3f (fun u hu=>Jny G u (hG.st hu) hn)) ?_
 refine Wd (Qc (Cs (Nz 2 ?_)))
 refine Wd (Qc (CS.cond rfl ?_ ?_))<;>intro hc1<;>try simp only [bq] at hc1
 ·
  refine Nz 2 ?_
  exact Wd (Qc (Cr (Qr (out1 rfl rfl (Jab (by rw [Jg0,Jbz rfl hc1]))))))
 refine Ck (Qc (Nz 1 ?_))
 refine Wk 1 (Bc 1) ?_
 refine Wk 0 (Bc 0) ?_
 refine Wk 1 (Cb rfl rfl J4f (fun u hu=>Jib G.rm u (hG.rm.st hu) hn.rm p.st (hp.st.st hu))) ?_
 refine Wd (Qc (Cs (Nz 2 ?_)))
 refine Wd (Qc (CS.cond rfl ?_ ?_))<;>intro hc2<;>try simp only [bq] at hc2
 ·
  refine Nz 2 ?_
  exact Wd (Qc (Cr (Qr (out1 rfl rfl (Jab (by rw [Jg0,Jbv hc1,Jbz rfl hc2]))))))
 refine Ck (Qc (Cs (Nz 1 ?_)))
 refine Wk 0 (Ba 0) ?_
 refine Wk 1 Nc ?_
 refine Wk 0 (Ba 1) ?_
 refine Wk 1 Nc ?_
 refine Wd (Qc (CS.cond rfl ?_ ?_))<;>intro hc3<;>try simp only [bq] at hc3
 ·
  refine Nz 1 ?_
  exact Wd (Qc (Cr (Qr (out1 rfl rfl (Jab (by rw [Jg0,Jbv hc1,Jbv hc2,if_neg (by omega)]))))))
 refine Ck (Qc (Nz 1 ?_))
 exact Wd (Qc (Cr (out1 rfl rfl (Jab (by rw [Jg0,Jbv hc1,Jbv hc2,if_pos (by omega)])))))
theorem Jup (p:Pos) (w:World) (hp:PosOk w p) (hm:(p.st.ths.l.length≤1000000∧p.st.prs.l.length≤1000000∧p.st.pls.l.length≤1000000)∧p.rd.l.length≤1000000) :
  Calls Tryz.prog 12 #[.agg #[p.st.ths.v,p.st.prs.v,p.st.pls.v,p.rd.v]] w (fun e w'=>∃ x:Stt × Value,((x.1.x=p.st.x∧∃ u0,SttOk u0 x.1)∧x.2.oneCell'=true)∧RetF w (.agg #[x.1.ths.v,x.1.prs.v,x.1.pls.v,x.2]) (star [roS fun u=>SttOk u x.1,oT cBool 4 x.2 p.rd.l]) e w'):=by
 have krd:=hp.rd
 have lrd:=hm.2
 refine enter Tryz.func12 rfl rfl (Nat.le_of_ble_eq_true rfl) ?_
 refine Nz 0 ?_
 refine Wb 0 rfl rfl (fun _=>rfl) (fun _=>rfl) fun b1 hb1=>?_
 refine Wl 0 zv47 (fun _=>rfl) (fun _=>rfl) fun b2 hb2=>?_
 refine Wd (Qc (Cs ?_))
 refine CS.drawnTill 6 (k:=9) Jah rfl rfl ?_
 refine Tr 9 [0] ?_
 refine Tk 9 1 [4] rfl (Bc 1) ?_
 refine Tk 9 5 [] rfl (Ba 1) ?_
 refine AT.two (i:=2) (j:=3) (by kernel_rfl) rfl rfl (by first | (intro h; exact absurd h (by decide)) | exact fun _ _ h=>h | exact fun _ _ h=>h.sub (by repeat first | exact List.Sublist.refl _ | apply List.Sublist.cons_cons | apply List.Sublist.cons)) rfl rfl ?_ ?_
 ·
  refine Wc rfl rfl J0g (fun u hu=>Ji6 p.st u (hp.st.st hu) hm.1) (fun _=>rfl) ?_; rintro y ⟨hyx,uy,hyok⟩
  obtain ⟨hya,hyb,hyc⟩:=hyok.ones
  refine Wd (Qt ?_)
  refine To 3 rfl ?_
  refine WS.build0 sl45 zv4 (fun _=>rfl) ?_; intro v6
  refine Wd (Qt ?_)
  refine To 6 rfl ?_
  refine WS.append0 (j:=0) (news:=Jau cBool p.rd.l) (m:=p.rd.l.length) sl45 zv4 rfl (by decide) rfl rfl rfl (fun u hu=>(krd.st hu).sp) krd.one (by omega) (by omega) (fun _=>rfl) (fun _=>rfl) ?_; intro v9; refine WS.oc (j:=0) rfl (fun hv9=>?_)
  refine Wd (Qt ?_)
  refine To 7 rfl ?_
  refine Wk 0 (Jav Jen zv47 rfl (.agg (.one hv9 .nil)) rfl) ?_
  refine Wd (Qt ?_)
  refine To 8 rfl ?_
  refine Wv 0 2 ?_
  refine Wd (Qt ?_)
  refine Te ?_
  exact Qc (Cr (outR (resc rfl (Jak (j:=2) rfl rfl tk47)) (fun u hu=>⟨(y,v9),⟨⟨hyx,uy,hyok⟩,hv9⟩,Jj7 (hu.sel [1,0] rfl) (List.Perm.refl _)⟩)))
 refine WS.build0 sl45 zv4 (fun _=>rfl) ?_; intro v6
 refine Wd (Qt ?_)
 refine To 2 rfl ?_
 refine Wc rfl rfl J0g (fun u hu=>Ji6 p.st u (hp.st.st hu) hm.1) (fun _=>rfl) ?_; rintro y ⟨hyx,uy,hyok⟩
 obtain ⟨hya,hyb,hyc⟩:=hyok.ones
 refine Wd (Qt ?_)
 refine To 6 rfl ?_
 refine WS.append0 (j:=1) (news:=Jau cBool p.rd.l) (m:=p.rd.l.length) sl45 zv4 rfl (by decide) rfl rfl rfl (fun u hu=>(krd.st hu).sp) krd.one (by omega) (by omega) (fun _=>rfl) (fun _=>rfl) ?_; intro v9; refine WS.oc (j:=1) rfl (fun hv9=>?_)
 refine Wd (Qt ?_)
 refine To 7 rfl ?_
 refine Wk 0 (Jav Jen zv47 rfl (.agg (.one hv9 .nil)) rfl) ?_
 refine Wd (Qt ?_)
 refine To 8 rfl ?_
 refine Wv 0 2 ?_
 refine Wd (Qt ?_)
 refine Te ?_
 exact Qc (Cr (outR (resc rfl (Jak (j:=2) rfl rfl tk47)) (fun u hu=>⟨(y,v9),⟨⟨hyx,uy,hyok⟩,hv9⟩,Jj7 (hu.sel [0,0] rfl) (List.Perm.refl _)⟩)))
theorem Jgm (s0:Sl Bool) (w:World) (hk:SlT cBool w s0) (hm:s0.l.length≤1000000) :
  Calls Tryz.prog 109 #[s0.v] w (fun e w'=>∃ v':Value,v'.oneCell'=true∧RetF w v' (oT cBool 4 v' s0.l) e w'):=by
 obtain ⟨v,l⟩:=s0
 obtain ⟨⟨hl,p,cap,hv,hcap,hq⟩,he⟩:=hk
 simp only at hv hl hcap hq hm ⊢
 subst hv
 have hk:SlT cBool w ⟨.slice p l.length cap,l⟩:=⟨⟨hl,p,cap,rfl,hcap,hq⟩,he⟩
 clear hl hcap hq he
 refine enter Tryz.func109 rfl rfl (Nat.le_of_ble_eq_true rfl) ?_
 refine Nz 1 ?_
 refine Wd (Qc (Cs (Nz 1 ?_)))
 refine Wk 0 (Jkm sl45 rfl rfl) ?_
 refine Wd (Qc (CS.cond rfl ?_ ?_))<;>intro hc1<;>try simp only [bq] at hc1
 ·
  have hx0:l=[]:=by
   have:p=none:=by simpa using hc1
   subst this
   exact List.eq_nil_of_length_eq_zero (SlC.nil hk.sp)
  subst hx0
  refine Nz 1 ?_
  exact Wd (Qc (Cr (Qr (out1 rfl rfl (fun u hu=>⟨_,rfl,retF (j:=0) rfl u hu.osl0⟩)))))
 refine Ck (Qc (Nz 0 ?_))
 refine WS.build0 sl45 zv4 (fun _=>rfl) ?_; intro v5
 refine Wz 1 ?_
 refine WS.append0 (j:=0) (news:=Jau cBool l) (m:=l.length) sl45 zv4 rfl (by decide) rfl rfl rfl (fun u hu=>(hk.st hu).sp) hk.one (by omega) (by omega) (fun _=>rfl) (fun _=>rfl) ?_; intro v7; refine WS.oc (j:=0) rfl (fun hv7=>?_)
 refine Wz 1 ?_
 exact Wd (Qc (Cr (out1 rfl rfl (fun u hu=>⟨v7,hv7,retF (j:=0) rfl u hu⟩))))
theorem J7e (G:Game) (w:World) (hG:GameOk w G) (p:Pos) (hp:PosOk w p) (hl:p.rd.l.length=G.nts.l.length) (hnn:G.nts.l.length≤1000) (lk:Int) :
  Calls Tryz.prog 278 #[.agg #[G.rm.pls.v,G.rm.ths.v,G.rm.prs.v,G.rm.wys.v,G.rm.acs.v,G.rm.aus.v,.int .i64 G.rm.ply,G.rm.gl.v,G.lks.v,G.cds.v,G.nts.v,.int .i64 G.tr],.agg #[p.st.ths.v,p.st.prs.v,p.st.pls.v,p.rd.v],.int .i64 lk] w (fun e w'=>∃ x:Value,(∃ u0,SlI u0 x (cluN G.p p.rd.l lk))∧RetF w x (roI x (cluN G.p p.rd.l lk)) e w'):=by
 have knt:=hG.nts
 have krd:=hp.rd
 refine enter Tryz.func278 rfl rfl (Nat.le_of_ble_eq_true rfl) ?_
 refine Nz 0 ?_
 refine Wb 0 rfl rfl (fun _=>rfl) (fun _=>rfl) fun b3 hb3=>?_
 refine Wb 1 rfl rfl (fun _=>rfl) (fun _=>rfl) fun b4 hb4=>?_
 refine Wd (Qc (Nz 1 ?_))
 refine Wd (Qc (Cs (Nz 1 ?_)))
 refine Wd (Qc (Ce ?_))
 refine CS.weak (fun _ hu=>hu.osl0 (e:=3) (size:=1)) ?_
 refine CS.loopM (σ:=Int × Value) [9,10,11,12,13,14,15,16,17,18,19,20,21,22,23,24,25,26,27,28,29,30,31,32,33,34] (fun s=>[(8,.int .i64 s.1),(7,s.2)]) (fun s=>[oints 3 s.2 (filI s.1 (fun i=>nth p.rd.l i && decide ((nth G.nts.l i).lk=lk))),blk b4 [p.st.ths.v,p.st.prs.v,p.st.pls.v,p.rd.v] 47,blk b3 [G.rm.pls.v,G.rm.ths.v,G.rm.prs.v,G.rm.wys.v,G.rm.acs.v,G.rm.aus.v,.int .i64 G.rm.ply,G.rm.gl.v,G.lks.v,G.cds.v,G.nts.v,.int .i64 G.tr] 36]) (fun s=>0≤s.1∧s.1≤G.nts.l.length) (fun s=>(G.nts.l.length - s.1).toNat) (0,.slice none 0 0) (fun _ _=>rfl) rfl rfl ⟨by simp,by first | (simp; done) | (simp; omega)⟩ ?_
 intro a t hs
 obtain ⟨ha1,ha2⟩:=hs
 have hfl:=fun p=>Jjf (n:=a.1) (p:=p) ha1
 refine Cs (Nz 2 ?_)
 refine Wk 0 (Ba 2) ?_
 refine Wk 1 Nc ?_
 refine Wd (Qc (CS.cond rfl ?_ ?_))<;>intro hc1<;>try simp only [bq] at hc1
 ·
  have hfa:=hfl (fun i=>nth p.rd.l i && decide ((nth G.nts.l i).lk=lk))
  refine Ck (Qc (Cs (Ce (Nz 1 ?_))))
  refine Wk 1 (Ba 1) ?_
  refine Wk 0 Xc ?_
  refine Wk 1 Ub ?_
  refine Wt 0 rfl rfl (fun hg=>Ff) ?_
  refine Wt 0 rfl rfl (fun hg=>Ba 2) ?_
  refine Wt 0 rfl rfl (fun hg=>Fm) ?_
  refine Wt 0 rfl rfl (fun hg=>Xc (eg_ hg rfl)) ?_
  refine Wt 0 rfl rfl (fun hg=>Ff) ?_
  refine Wt 0 rfl rfl (fun hg=>Uc 11 2) ?_
  refine Wt 0 rfl rfl (fun hg=>Fm) ?_
  refine Wt 0 rfl rfl (fun hg=>Fq) ?_
  refine Wk 0 Pa ?_
  refine Wd (Qc (CS.cond rfl ?_ ?_))<;>intro hc2<;>try simp only [bq] at hc2
  ·
   refine Ny 2 ?_
   refine WS.buildI1 sl42 zv3 rfl (fun _=>rfl) ?_; intro v33
   refine WS.appendI (j:=1) sl42 zv3 rfl rfl rfl (fun u hu=>Jad hu (j:=0) rfl) (by first | omega | (simp; omega) | (simp only [List.length_append,List.length_singleton,List.length_map,List.length_cons,List.length_nil] at *; omega)) (by first | omega | (simp; omega) | (simp only [List.length_append,List.length_singleton,List.length_map,List.length_cons,List.length_nil] at *; omega)) (fun _=>rfl) (fun _=>rfl) ?_; intro v34; refine WS.oc (j:=1) rfl (fun hv34=>?_)
   refine Wz 1 ?_
   refine Wd (Qb (Qc (Ny 1 ?_)))
   refine Wk 1 Za ?_
   refine Wd ?_
   refine QS.sel [1,1,1] rfl ?_
   exact QS.head ((a.1+1,v34)) rfl (by first | simp only [Jjk (p:=(fun i=>nth p.rd.l i && decide ((nth G.nts.l i).lk=lk))) ha1 (by simp only [Bool.and_eq_true,decide_eq_true_eq]; exact hc2)] | simp only [← Jne (p:=(fun i=>nth p.rd.l i && decide ((nth G.nts.l i).lk=lk))) ha1 (by simp only [Bool.and_eq_false_iff,decide_eq_false_iff_not]; exact hc2)]) ⟨⟨by simp; omega,by simp; omega⟩,by simp; omega⟩
  refine Ck (Qb (Qc (Ny 1 ?_)))
  refine Wk 1 Za ?_
  exact Wd (QS.head ((a.1+1,a.2)) rfl (by first | simp only [Jjk (p:=(fun i=>nth p.rd.l i && decide ((nth G.nts.l i).lk=lk))) ha1 (by simp only [Bool.and_eq_true,decide_eq_true_eq]; exact hc2)] | simp only [← Jne (p:=(fun i=>nth p.rd.l i && decide ((nth G.nts.l i).lk=lk))) ha1 (by simp only [Bool.and_eq_false_iff,decide_eq_false_iff_not]; exact hc2)]) ⟨⟨by simp; omega,by simp; omega⟩,by simp; omega⟩)
 have hae:a.1=G.nts.l.length:=by omega
 refine Cv (Qe (Qe (Qx (Qc (Nz 2 ?_)))))
 exact Wd (Qc (Cr (out1 rfl rfl (Kc3 (j:=0) rfl (by rw [Jyf, ← hae]) rfl))))
theorem J64 (G:Game) (w:World) (hG:GameOk w G) (ns:List Int) (nv:Value) (h2:SlI w nv ns) (hn:∀ k∈ns,0≤k∧k < G.nts.l.length) (hm:ns.length≤1000) :
  Calls Tryz.prog 280 #[.agg #[G.rm.pls.v,G.rm.ths.v,G.rm.prs.v,G.rm.wys.v,G.rm.acs.v,G.rm.aus.v,.int .i64 G.rm.ply,G.rm.gl.v,G.lks.v,G.cds.v,G.nts.v,.int .i64 G.tr],nv] w (fun e w'=>∃ v':Value,v'.oneCell'=true∧RetF w v' (osl 92 7 v' (clsG G ns).length (Jcm (clsG G ns) (gvsG G ns))) e w'):=by
 have knt:=hG.nts
 refine enter Tryz.func280 rfl rfl (Nat.le_of_ble_eq_true rfl) ?_
 refine Nz 0 ?_
 refine Wb 1 rfl rfl (fun _=>rfl) (fun _=>rfl) fun b2 hb2=>?_
 refine Wd (Qc (Nz 1 ?_))
 refine Wd (Qc (Cs (Nz 1 ?_)))
 refine Wd (Qc (Ce ?_))
 refine CS.weak (fun _ hu=>hu.osl0 (e:=92) (size:=7)) ?_
 refine CS.loopM (σ:=Int × Value) [7,8,9,10,11,12,13,14,15,16,17,18,19,20,21,22,23,24] (fun s=>[(5,s.2),(6,.int .i64 s.1)]) (fun s=>[osl 92 7 s.2 (clsG G (ns.take s.1.toNat)).length (Jcm (clsG G (ns.take s.1.toNat)) (gvsG G (ns.take s.1.toNat))),blk b2 [G.rm.pls.v,G.rm.ths.v,G.rm.prs.v,G.rm.wys.v,G.rm.acs.v,G.rm.aus.v,.int .i64 G.rm.ply,G.rm.gl.v,G.lks.v,G.cds.v,G.nts.v,.int .i64 G.tr] 36]) (fun s=>0≤s.1∧s.1≤ns.length) (fun s=>(ns.length - s.1).toNat) (0,.slice none 0 0) (fun _ _=>rfl) rfl rfl ⟨by simp,by simp⟩ ?_
 intro s t hs
 obtain ⟨hs1,hs2⟩:=hs
 have htl:=List.length_take_le s.1.toNat ns
 have hcl:(clsG G (ns.take s.1.toNat)).length=(ns.take s.1.toNat).length:=by simp [clsG]
 refine Cs (Nz 2 ?_)
 refine Wk 1 Na ?_
 refine Wd (Qc (CS.cond rfl ?_ ?_))<;>intro hc1<;>try simp only [bq] at hc1
 ·
  have hs3:s.1 < ns.length:=by omega
  have hat:=hn _ (Jai hs1 hs3)
  have hnt:cNote.ok w (nth G.nts.l (nth ns s.1)):=knt.at hat.1 hat.2
  have hg1:=hnt.2.one1
  refine Ck (Qc (Cs (Ce ?_)))
  refine CS.drawnTill 11 (k:=13) Jah rfl rfl ?_
  refine Tr 13 [0,1] ?_
  refine Tk 13 2 [3,4] rfl (Ba 1) ?_
  refine Tk 13 5 [] rfl Xa ?_
  refine Tk 13 6 [] rfl Ia ?_
  refine Tk 13 7 [8] rfl Xc ?_
  refine Tk 13 9 [] rfl (J0w 11 4 7 rfl knt rfl ⟨by omega,by omega⟩ rfl rfl tk92) ?_
  refine To 10 rfl ?_
  refine WS.buildC1 sl99 zv92 (c:=(nth G.nts.l (nth ns s.1)).cl) (gv:=(nth G.nts.l (nth ns s.1)).gv) rfl (fun _=>rfl) ?_; intro v23
  refine Wd (Qt ?_)
  refine To 11 rfl ?_
  refine WS.appendCl (j:=1) (jz:=0) sl99 zv92 rfl rfl rfl (by simp [clsG,gvsG]) rfl rfl hg1 (by omega) (by omega) (fun _=>rfl) (fun _=>rfl) ?_; intro v24 hv24
  refine Wd (Qt ?_)
  refine To 12 rfl ?_
  refine Wz 1 ?_
  refine Wd (Qt ?_)
  refine Te ?_
  refine Qb (Qc (Ny 1 ?_))
  refine Wk 1 Za ?_
  refine Wd ?_
  refine QS.sel [1,1] rfl ?_
  exact QS.head ((s.1+1,v24)) rfl (by simp only [clsG,gvsG,Jfj (fun i=>(nth G.nts.l i).cl) hs1 hs3,Jfj (fun i=>(nth G.nts.l i).gv) hs1 hs3]) ⟨⟨by simp; omega,by simp; omega⟩,by simp; omega⟩
 refine Cv (Qe (Qe (Qx (Qc (Nz 2 ?_)))))
 refine Wd (Qc (Cr ?_))
 refine QS.oc (j:=0) rfl (fun hv5=>?_)
 have hta:ns.take s.1.toNat=ns:=List.take_of_length_le (by omega)
 rw [hta]
 exact out1 rfl rfl (fun u hu=>⟨_,hv5,retF (j:=0) rfl u hu⟩)
theorem Jqi (G:Game) (w:World) (hG:GameOk w G) (hV:GoodG G) (lk:Int) (h0:0≤lk) (h1:lk < G.lks.l.length) (ns:List Int) (nv:Value) (h2:SlI w nv ns) (hns:Jj2 G lk ns) (hl:ns.length≤20) :
  Calls Tryz.prog 277 #[.agg #[G.rm.pls.v,G.rm.ths.v,G.rm.prs.v,G.rm.wys.v,G.rm.acs.v,G.rm.aus.v,.int .i64 G.rm.ply,G.rm.gl.v,G.lks.v,G.cds.v,G.nts.v,.int .i64 G.tr],.int .i64 lk,nv] w (RetB w (.int .i64 (Jwx G.p lk ns))):=by
 have klk:=hG.lks
 have hE:=Joc hV h0 h1 hns hl
 refine enter Tryz.func277 rfl rfl (Nat.le_of_ble_eq_true rfl) ?_
 refine Nz 0 ?_
 refine Wb 1 rfl rfl (fun _=>rfl) (fun _=>rfl) fun b3 hb3=>?_
 refine Wd (Qc (Cs ?_))
 refine CS.drawnAll (k:=14) Jah rfl rfl ?_
 refine Ar [0] ?_
 refine Ak 1 [2] rfl (Ba 0) ?_
 refine Ak 3 [] rfl Xc ?_
 refine Ak 4 [] rfl Ua ?_
 refine Ak 5 [6] rfl (Bb 0) ?_
 refine Ao 7 rfl ?_
 refine Wc rfl rfl J71 (fun u hu=>J64 G u (hG.st hu) ns nv (h2.st hu) (fun k hk ↦ (hns k hk).1) (by omega)) (fun _=>rfl) ?_; rintro v17 hv17
 refine Wd (Qa ?_)
 refine Ao 8 rfl ?_
 refine Wk 0 (Cb rfl rfl J8t (fun u hu=>J2z _ _ _ _ _ u (J24 (hG.st hu) hns (Jbx hu (j:=0) rfl)))) ?_
 refine Wd (Qa ?_)
 refine Ar [9,10,11,12,13] ?_
 refine Ae ?_
 refine Qc (Nz 2 ?_)
 exact Wd (Qc (Cr (out1 rfl rfl (Jab (by rw [Jvl,hE]; rfl)))))
theorem J52 (G:Game) (w:World) (hG:GameOk w G) (hV:GoodG G) (p:Pos) (hp:PosOk w p) (hl:p.rd.l.length=G.nts.l.length) (lk:Int) (h0:0≤lk) (h1:lk < G.lks.l.length) :
  Calls Tryz.prog 274 #[.agg #[G.rm.pls.v,G.rm.ths.v,G.rm.prs.v,G.rm.wys.v,G.rm.acs.v,G.rm.aus.v,.int .i64 G.rm.ply,G.rm.gl.v,G.lks.v,G.cds.v,G.nts.v,.int .i64 G.tr],.agg #[p.st.ths.v,p.st.prs.v,p.st.pls.v,p.rd.v],.int .i64 lk] w (RetB w (.bool (Je9 G.p p.rd.l lk))):=by
 have hnn:=hV.nn
 refine enter Tryz.func274 rfl rfl (Nat.le_of_ble_eq_true rfl) ?_
 refine Nz 0 ?_
 refine Wb 0 rfl rfl (fun _=>rfl) (fun _=>rfl) fun b3 hb3=>?_
 refine Wb 1 rfl rfl (fun _=>rfl) (fun _=>rfl) fun b4 hb4=>?_
 refine Wd (Qc (Cs ?_))
 refine CS.drawnAll (k:=11) Jah rfl rfl ?_
 refine Ak 0 [1] rfl (Bb 1) ?_
 refine Ak 2 [] rfl (Bb 1) ?_
 refine Ak 3 [4,7] rfl (Bb 0) ?_
 refine Ak 8 [] rfl (Ba 1) ?_
 refine Ao 5 rfl ?_
 refine Wc rfl rfl Kau (fun u hu=>J7e G u (hG.st hu) p (hp.toSt hu) hl (by omega) _) (fun _=>rfl) ?_; rintro vc ⟨uc,hvc⟩
 refine Wd (Qa ?_)
 refine Ao 6 rfl ?_
 refine Wk 0 (Cb rfl rfl J97 (fun u hu=>Jqi G u (hG.st hu) hV _ h0 h1 _ _ (hu.ro (j:=0) rfl) J8u (Nat.le_trans (J7a hV _ _) (by decide)))) ?_
 refine Wd (Qa ?_)
 refine Ar [9,10] ?_
 refine Ae ?_
 exact Qc (Cr (out1 rfl rfl (Jab rfl)))
end Go.Proofs.YtbboikncaihafaaGreatDoor
