/- Merged texts of this proof (walks and plain laws), printed by a program of the prover. -/
import Derived.Test.YtbboikncaihafaaGreatDoorZn
import Derived.Test.YtbboikncaihafaaGreatDoorZk
import Derived.Test.YtbboikncaihafaaGreatDoorZb
import Derived.Test.YtbboikncaihafaaGreatDoorZe
import Derived.Test.YtbboikncaihafaaGreatDoorZl
set_option maxHeartbeats 8000000
namespace Go.Proofs.YtbboikncaihafaaGreatDoor
open Go.RowKit Go.Proofs
set_option maxRecDepth 100000
set_option linter.unusedVariables false
set_option linter.unusedSimpArgs false
theorem Jl7 (G:Game) (w:World) (hG:GameOk w G) (g:Sl ByteArray) (hW:GOk w g) (hn:NearG G) (p:Pos) (hp:PosOk w p) :
  Calls Tryz.prog 110 #[.agg #[G.rm.pls.v,G.rm.ths.v,G.rm.prs.v,G.rm.wys.v,G.rm.acs.v,G.rm.aus.v,.int .i64 G.rm.ply,G.rm.gl.v,G.lks.v,G.cds.v,G.nts.v,.int .i64 G.tr],.agg #[p.st.ths.v,p.st.prs.v,p.st.pls.v,p.rd.v]] w (RetB w (.int .i64 (posG G.p p.x))):=by
 have knt:=hG.nts
 have krd:=hp.rd
 refine enter Tryz.func110 rfl rfl (Nat.le_of_ble_eq_true rfl) ?_
 refine Nz 0 ?_
 refine Wb 0 rfl rfl (fun _=>rfl) (fun _=>rfl) fun b2 hb2=>?_
 refine Wb 1 rfl rfl (fun _=>rfl) (fun _=>rfl) fun b3 hb3=>?_
 refine Wd (Qc (Cs (Nz 0 ?_)))
 refine Wk 0 (Bb 1) ?_
 refine Wk 1 (Cb rfl rfl Jye (fun u hu=>Jkj G u (hG.st hu) g (hW.st hu) hn)) ?_
 refine Wd (Qc (Nz 2 ?_))
 refine Wd (Qc (CS.cond rfl ?_ ?_))<;>intro hc1<;>try simp only [bq] at hc1
 ·
  refine Nz 2 ?_
  exact Wd (Qc (Cr (Qr (out1 rfl rfl (Jah (by rw [Jh6,Jb0 rfl hc1]))))))
 refine Ck (Qc (Cs (Nz 1 ?_)))
 refine Wk 1 (Bc 1) ?_
 refine Wk 0 (Bc 0) ?_
 refine Wk 1 (Cb rfl rfl Jns (fun u hu=>Jbx G.rm u (hG.rm.st hu) g (hW.st hu) hn.rm p.st (hp.st.st hu))) ?_
 refine Wd (Qc (Nz 2 ?_))
 refine Wd (Qc (CS.cond rfl ?_ ?_))<;>intro hc2<;>try simp only [bq] at hc2
 ·
  refine Nz 2 ?_
  exact Wd (Qc (Cr (Qr (out1 rfl rfl (Jah (by rw [Jh6,Jbq hc1,Jb0 rfl hc2]))))))
 refine Ck (Qc (Cs (Nz 1 ?_)))
 refine Wk 0 (Ba 0) ?_
 refine Wk 1 Nc ?_
 refine Wk 0 (Ba 1) ?_
 refine Wk 1 Nc ?_
 refine Wd (Qc (CS.cond rfl ?_ ?_))<;>intro hc3<;>try simp only [bq] at hc3
 ·
  refine Nz 1 ?_
  exact Wd (Qc (Cr (Qr (out1 rfl rfl (Jah (by rw [Jh6,Jbq hc1,Jbq hc2,if_neg (by omega)]))))))
 refine Ck (Qc (Nz 1 ?_))
 exact Wd (Qc (Cr (out1 rfl rfl (Jah (by rw [Jh6,Jbq hc1,Jbq hc2,if_pos (by omega)])))))
theorem Jof (p:Pos) (w:World) (hp:PosOk w p) (hm:(p.st.ths.l.length≤1000000∧p.st.prs.l.length≤1000000∧p.st.pls.l.length≤1000000)∧p.rd.l.length≤1000000) :
  Calls Tryz.prog 12 #[.agg #[p.st.ths.v,p.st.prs.v,p.st.pls.v,p.rd.v]] w (fun e w'=>∃ x:Stt × Value,((x.1.x=p.st.x∧∃ u0,SttOk u0 x.1)∧x.2.oneCell'=true)∧RetF w (.agg #[x.1.ths.v,x.1.prs.v,x.1.pls.v,x.2]) (star [roS fun u=>SttOk u x.1,oT cBool 4 x.2 p.rd.l]) e w'):=by
 have krd:=hp.rd
 have lrd:=hm.2
 refine enter Tryz.func12 rfl rfl (Nat.le_of_ble_eq_true rfl) ?_
 refine Nz 0 ?_
 refine Wb 0 rfl rfl (fun _=>rfl) (fun _=>rfl) fun b1 hb1=>?_
 refine Wl 0 zv47 (fun _=>rfl) (fun _=>rfl) fun b2 hb2=>?_
 refine Wd (Qc (Cs ?_))
 refine CS.drawnTill 6 (k:=9) mixed rfl rfl ?_
 refine Tr 9 [0] ?_
 refine Tk 9 1 [4] rfl (Bc 1) ?_
 refine Tk 9 5 [] rfl (Ba 1) ?_
 refine AT.two (i:=2) (j:=3) (by kernel_rfl) rfl rfl (by first | (intro h; exact absurd h (by decide)) | exact fun _ _ h=>h | exact fun _ _ h=>h.sub (by repeat first | exact List.Sublist.refl _ | apply List.Sublist.cons_cons | apply List.Sublist.cons)) rfl rfl ?_ ?_
 ·
  refine Wc rfl rfl Jlf (fun u hu=>Jbu p.st u (hp.st.st hu) hm.1) (fun _=>rfl) ?_; rintro y ⟨hyx,uy,hyok⟩
  obtain ⟨hya,hyb,hyc⟩:=hyok.ones
  refine Wd (Qt ?_)
  refine To 3 rfl ?_
  refine WS.build0 sl45 zv4 (fun _=>rfl) ?_; intro v6
  refine Wd (Qt ?_)
  refine To 6 rfl ?_
  refine WS.append0 (j:=0) (news:=Jas cBool p.rd.l) (m:=p.rd.l.length) sl45 zv4 rfl (by decide) rfl rfl rfl (fun u hu=>(krd.st hu).sp) krd.one (by omega) (by omega) (fun _=>rfl) (fun _=>rfl) ?_; intro v9; refine WS.oc (j:=0) rfl (fun hv9=>?_)
  refine Wd (Qt ?_)
  refine To 7 rfl ?_
  refine Wk 0 (Jay Je5 zv47 rfl (.agg (.one hv9 .nil)) rfl) ?_
  refine Wd (Qt ?_)
  refine To 8 rfl ?_
  refine Wv 0 2 ?_
  refine Wd (Qt ?_)
  refine Te ?_
  exact Qc (Cr (outR (resc rfl (Jau (j:=2) rfl rfl tk47)) (fun u hu=>⟨(y,v9),⟨⟨hyx,uy,hyok⟩,hv9⟩,Jhu (hu.sel [1,0] rfl) (List.Perm.refl _)⟩)))
 refine WS.build0 sl45 zv4 (fun _=>rfl) ?_; intro v6
 refine Wd (Qt ?_)
 refine To 2 rfl ?_
 refine Wc rfl rfl Jlf (fun u hu=>Jbu p.st u (hp.st.st hu) hm.1) (fun _=>rfl) ?_; rintro y ⟨hyx,uy,hyok⟩
 obtain ⟨hya,hyb,hyc⟩:=hyok.ones
 refine Wd (Qt ?_)
 refine To 6 rfl ?_
 refine WS.append0 (j:=1) (news:=Jas cBool p.rd.l) (m:=p.rd.l.length) sl45 zv4 rfl (by decide) rfl rfl rfl (fun u hu=>(krd.st hu).sp) krd.one (by omega) (by omega) (fun _=>rfl) (fun _=>rfl) ?_; intro v9; refine WS.oc (j:=1) rfl (fun hv9=>?_)
 refine Wd (Qt ?_)
 refine To 7 rfl ?_
 refine Wk 0 (Jay Je5 zv47 rfl (.agg (.one hv9 .nil)) rfl) ?_
 refine Wd (Qt ?_)
 refine To 8 rfl ?_
 refine Wv 0 2 ?_
 refine Wd (Qt ?_)
 refine Te ?_
 exact Qc (Cr (outR (resc rfl (Jau (j:=2) rfl rfl tk47)) (fun u hu=>⟨(y,v9),⟨⟨hyx,uy,hyok⟩,hv9⟩,Jhu (hu.sel [0,0] rfl) (List.Perm.refl _)⟩)))
theorem Jqo (p:Pos) (w:World) (hp:PosOk w p) (hm:(p.st.ths.l.length≤1000000∧p.st.prs.l.length≤1000000∧p.st.pls.l.length≤1000000)∧p.rd.l.length≤1000000) :
  Calls Tryz.prog 12 #[.agg #[p.st.ths.v,p.st.prs.v,p.st.pls.v,p.rd.v]] w (RetP w p.x fun v=>v):=by
 refine Calls.mono (Jof p w hp hm) ?_
 rintro e u ⟨⟨y,v⟩,⟨⟨hyx,uy,hyok⟩,hv⟩,h⟩
 have h2:RetF w (.agg #[y.ths.v,y.prs.v,y.pls.v,v]) (roS fun u=>PosOk u ⟨y,⟨v,p.rd.l⟩⟩) e u:=h.toRo fun S u h=>⟨Star.ro (L:=[roS fun u=>SttOk u y,oT cBool 4 v p.rd.l]) (j:=0) rfl h.1,Jxy (Star.osl (L:=[roS fun u=>SttOk u y,oT cBool 4 v p.rd.l]) (j:=1) rfl h.1)⟩
 exact ⟨⟨y,⟨v,p.rd.l⟩⟩,⟨by simp [Pos.x,hyx],u,h2.now⟩,h2⟩
theorem Jpt (p y:Pos) (w:World) (hp:PosOk w p) (hy:PosOk w y) :
  Calls Tryz.prog 19 #[.agg #[p.st.ths.v,p.st.prs.v,p.st.pls.v,p.rd.v],.agg #[y.st.ths.v,y.st.prs.v,y.st.pls.v,y.rd.v]] w (RetB w (.bool (decide (p.x=y.x)))):=by
 have krd:=hp.rd
 have yrd:=hy.rd
 have lrd:=krd.le
 have lry:=yrd.le
 refine enter Tryz.func19 rfl rfl (Nat.le_of_ble_eq_true rfl) ?_
 refine Nz 0 ?_
 refine Wb 0 rfl rfl (fun _=>rfl) (fun _=>rfl) fun b2 hb2=>?_
 refine Wb 1 rfl rfl (fun _=>rfl) (fun _=>rfl) fun b3 hb3=>?_
 refine Wd (Qc (Cs (Nz 1 ?_)))
 refine Wk 1 (Bc 1) ?_
 refine Wk 0 (Bc 0) ?_
 refine Wk 2 (Cb rfl rfl Jya (fun u hu=>Jha p.st y.st u (hp.st.st hu) (hy.st.st hu))) ?_
 refine Wf 0 rfl rfl (fun hg=>Ff) ?_
 refine Wf 0 rfl rfl (fun hg=>Ba 1) ?_
 refine Wf 0 rfl rfl (fun hg=>Nc (eg_ hg rfl)) ?_
 refine Wf 0 rfl rfl (fun hg=>Ff) ?_
 refine Wf 0 rfl rfl (fun hg=>Ba 0) ?_
 refine Wf 0 rfl rfl (fun hg=>Nc (eg_ hg rfl)) ?_
 refine Wf 0 rfl rfl (fun hg=>Fr) ?_
 refine Wk 0 Po ?_
 refine Wd (Qc (CS.cond rfl ?_ ?_))<;>intro hc1<;>try simp only [bq] at hc1
 ·
  refine Nz 1 ?_
  refine Wd (Qc (Cr (Qr ?_)))
  exact out1 rfl rfl (Jah (Jh3 fun h=>by
     have h1:=congrArg (fun q:PX=>q.1) h
     have h2:=congrArg (fun q:PX=>q.2) h
     simp only [Pos.x,Stt.x,Prod.mk.injEq] at h1 h2
     rw [h1.1,h1.2.1,h1.2.2,h2] at hc1
     simp at hc1))
 have hsx:p.st.x=y.st.x:=by simp only [Stt.x,Prod.mk.injEq]; simp_all
 have hln:p.rd.l.length=y.rd.l.length:=by omega
 refine Ck (Qc (Cs (Nz 1 ?_)))
 refine Wd (Qc (Ce ?_))
 refine CS.loopM (σ:=Int) [4,21,22,23,24,25,26,27,28,29,30,31,32,33,34,35,36,37,38] (fun s=>[(5,.int .i64 s)]) (fun _=>_) (fun s=>0≤s∧s≤p.rd.l.length∧∀ j:Int,0≤j→j < s→nth p.rd.l j=nth y.rd.l j) (fun s=>(p.rd.l.length - s).toNat) 0 (fun _ _=>rfl) rfl rfl ⟨by omega,by omega,fun j _ _=>by omega⟩ ?_
 intro a t hs
 obtain ⟨ha1,ha2,ha3⟩:=hs
 refine Cs (Nz 2 ?_)
 refine Wk 0 (Ba 1) ?_
 refine Wk 1 Nc ?_
 refine Wd (Qc (CS.cond rfl ?_ ?_))<;>intro hc2<;>try simp only [bq] at hc2
 ·
  refine Ck (Qc (Cs (Ce (Cs (Dr mixed 1 ?_)))))
  refine Dk 1 (Ba 1) ?_
  refine Dk 0 Xc ?_
  refine Dk 1 Ub ?_
  refine Dk 1 (Ba 0) ?_
  refine Dk 0 Xc ?_
  refine Dk 0 Ub ?_
  refine Dk 0 (Joz rfl rfl Tryz.underlying4) ?_
  refine Dd (Qc (CS.cond rfl ?_ ?_))<;>intro hc3<;>try simp only [bq] at hc3
  ·
   refine Nz 1 ?_
   exact Wd (Qc (Cr (Qs (Qr (Qr (Qs (Qr (out1 rfl rfl (Jah (Jh3 fun h=>hc3 (by have h2:=congrArg (fun q:PX=>q.2) h; simp only [Pos.x] at h2; rw [h2])))))))))))
  refine Ck (Qb (Qc (Ny 1 ?_)))
  refine Wk 1 Za ?_
  refine Wd ?_
  exact QS.head (a+1) rfl rfl ⟨⟨by omega,by omega,fun j h0 h1=>by
     rcases (show j < a∨j=a by omega) with h | h
     ·
      exact ha3 j h0 h
     rw [h]; exact hc3⟩,by omega⟩
 refine Cv (Qe (Qe (Qx (Qc (Nz 1 ?_)))))
 exact Wd (Qc (Cr (out1 rfl rfl (Jah (Jrf (by unfold Pos.x; rw [hsx,Jjl hln fun i h0 h1=>ha3 i h0 (by omega)]))))))
theorem Jeg (s0:Sl Bool) (w:World) (hk:SlT cBool w s0) (hm:s0.l.length≤1000000) :
  Calls Tryz.prog 109 #[s0.v] w (fun e w'=>∃ v':Value,v'.oneCell'=true∧RetF w v' (oT cBool 4 v' s0.l) e w'):=by
 obtain ⟨v,l⟩:=s0
 obtain ⟨⟨hl,p,cap,hv,hcap,hq⟩,he⟩:=hk
 simp only at hv hl hcap hq hm ⊢
 subst hv
 have hk:SlT cBool w ⟨.slice p l.length cap,l⟩:=⟨⟨hl,p,cap,rfl,hcap,hq⟩,he⟩
 clear hl hcap hq he
 refine enter Tryz.func109 rfl rfl (Nat.le_of_ble_eq_true rfl) ?_
 refine Nz 1 ?_
 refine Wd (Qc (Cs (Nz 1 ?_)))
 refine Wk 0 (Jjn sl45 rfl rfl) ?_
 refine Wd (Qc (CS.cond rfl ?_ ?_))<;>intro hc1<;>try simp only [bq] at hc1
 ·
  have hx0:l=[]:=by
   have:p=none:=by simpa using hc1
   subst this
   exact List.eq_nil_of_length_eq_zero (SlC.nil hk.sp)
  subst hx0
  refine Nz 1 ?_
  exact Wd (Qc (Cr (Qr (out1 rfl rfl (fun u hu=>⟨_,rfl,retF (j:=0) rfl u hu.osl0⟩)))))
 refine Ck (Qc (Nz 0 ?_))
 refine WS.build0 sl45 zv4 (fun _=>rfl) ?_; intro v5
 refine Wz 1 ?_
 refine WS.append0 (j:=0) (news:=Jas cBool l) (m:=l.length) sl45 zv4 rfl (by decide) rfl rfl rfl (fun u hu=>(hk.st hu).sp) hk.one (by omega) (by omega) (fun _=>rfl) (fun _=>rfl) ?_; intro v7; refine WS.oc (j:=0) rfl (fun hv7=>?_)
 refine Wz 1 ?_
 exact Wd (Qc (Cr (out1 rfl rfl (fun u hu=>⟨v7,hv7,retF (j:=0) rfl u hu⟩))))
end Go.Proofs.YtbboikncaihafaaGreatDoor
