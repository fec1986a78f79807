/- Merged texts of this proof (walks and plain laws), printed by a program of the prover. -/
import Derived.Test.YtfbfdnoodccgiaaGreatDoorZn
import Derived.Test.YtfbfdnoodccgiaaGreatDoorZk
import Derived.Test.YtfbfdnoodccgiaaGreatDoorZb
import Derived.Test.YtfbfdnoodccgiaaGreatDoorZe
import Derived.Test.YtfbfdnoodccgiaaGreatDoorZl
set_option maxHeartbeats 8000000
namespace Go.Proofs.YtfbfdnoodccgiaaGreatDoor
open Go.RowKit Go.Proofs
set_option maxRecDepth 100000
set_option linter.unusedVariables false
set_option linter.unusedSimpArgs false
theorem Joy (G:Game) (w:World) (hG:GameOk w G) (g:Sl ByteArray) (hW:GOk w g) (hn:NearG G) (p:Pos) (hp:PosOk w p) :
  Calls Tryz.prog 93 #[.agg #[G.rm.pls.v,G.rm.ths.v,G.rm.prs.v,G.rm.wys.v,G.rm.acs.v,G.rm.aus.v,.int .i64 G.rm.ply,G.rm.gl.v,G.lks.v,G.cds.v,G.nts.v,.int .i64 G.tr],.agg #[p.st.ths.v,p.st.prs.v,p.st.pls.v,p.rd.v]] w (RetB w (.int .i64 (posG G.p p.x))):=by
 have knt:=hG.nts
 have krd:=hp.rd
 refine enter Tryz.func93 rfl rfl (Nat.le_of_ble_eq_true rfl) ?_
 refine Nz 0 ?_
 refine Wb 0 rfl rfl (fun _=>rfl) (fun _=>rfl) fun b2 hb2=>?_
 refine Wb 1 rfl rfl (fun _=>rfl) (fun _=>rfl) fun b3 hb3=>?_
 refine Wd (Qc (Cs (Nz 0 ?_)))
 refine Wk 0 (Bb 1) ?_
 refine Wk 1 (Cb rfl rfl J3d (fun u hu=>Jlb G u (hG.st hu) g (hW.st hu) hn)) ?_
 refine Wd (Qc (Nz 2 ?_))
 refine Wd (Qc (CS.cond rfl ?_ ?_))<;>intro hc1<;>try simp only [bq] at hc1
 ·
  refine Nz 2 ?_
  exact Wd (Qc (Cr (Qr (out1 rfl rfl (Jac (by rw [Jh4,Jcr rfl hc1]))))))
 refine Ck (Qc (Cs (Nz 1 ?_)))
 refine Wk 1 (Bc 1) ?_
 refine Wk 0 (Bc 0) ?_
 refine Wk 1 (Cb rfl rfl Jw9 (fun u hu=>Jco G.rm u (hG.rm.st hu) g (hW.st hu) hn.rm p.st (hp.st.st hu))) ?_
 refine Wd (Qc (Nz 2 ?_))
 refine Wd (Qc (CS.cond rfl ?_ ?_))<;>intro hc2<;>try simp only [bq] at hc2
 ·
  refine Nz 2 ?_
  exact Wd (Qc (Cr (Qr (out1 rfl rfl (Jac (by rw [Jh4,Jb4 hc1,Jcr rfl hc2]))))))
 refine Ck (Qc (Cs (Nz 1 ?_)))
 refine Wk 0 (Ba 0) ?_
 refine Wk 1 Nc ?_
 refine Wk 0 (Ba 1) ?_
 refine Wk 1 Nc ?_
 refine Wd (Qc (CS.cond rfl ?_ ?_))<;>intro hc3<;>try simp only [bq] at hc3
 ·
  refine Nz 1 ?_
  exact Wd (Qc (Cr (Qr (out1 rfl rfl (Jac (by rw [Jh4,Jb4 hc1,Jb4 hc2,if_neg (by omega)]))))))
 refine Ck (Qc (Nz 1 ?_))
 exact Wd (Qc (Cr (out1 rfl rfl (Jac (by rw [Jh4,Jb4 hc1,Jb4 hc2,if_pos (by omega)])))))
theorem Jd2 (s0:Sl Bool) (w:World) (hk:SlT Jb2 w s0) (hm:s0.l.length≤1000000) :
  Calls Tryz.prog 90 #[s0.v] w (fun e w'=>∃ v':Value,v'.oneCell'=true∧RetF w v' (oT Jb2 4 v' s0.l) e w'):=by
 obtain ⟨v,l⟩:=s0
 obtain ⟨⟨hl,p,cap,hv,hcap,hq⟩,he⟩:=hk
 simp only at hv hl hcap hq hm ⊢
 subst hv
 have hk:SlT Jb2 w ⟨.slice p l.length cap,l⟩:=⟨⟨hl,p,cap,rfl,hcap,hq⟩,he⟩
 clear hl hcap hq he
 refine enter Tryz.func90 rfl rfl (Nat.le_of_ble_eq_true rfl) ?_
 refine Nz 1 ?_
 refine Wd (Qc (Cs (Nz 1 ?_)))
 refine Wk 0 (Jkb sl95 rfl rfl) ?_
 refine Wd (Qc (CS.cond rfl ?_ ?_))<;>intro hc1<;>try simp only [bq] at hc1
 ·
  have hx0:l=[]:=by
   have:p=none:=by simpa using hc1
   subst this
   exact List.eq_nil_of_length_eq_zero (SlC.nil hk.sp)
  subst hx0
  refine Nz 1 ?_
  exact Wd (Qc (Cr (Qr (out1 rfl rfl (fun u hu=>⟨_,rfl,retF (j:=0) rfl u hu.osl0⟩)))))
 refine Ck (Qc (Nz 0 ?_))
 refine WS.build0 sl95 zv4 (fun _=>rfl) ?_; intro v5
 refine Wz 1 ?_
 refine WS.append0 (j:=0) (news:=Ja5 Jb2 l) (m:=l.length) sl95 zv4 rfl (by decide) rfl rfl rfl (fun u hu=>(hk.st hu).sp) hk.one (by omega) (by omega) (fun _=>rfl) (fun _=>rfl) ?_; intro v7; refine WS.oc (j:=0) rfl (fun hv7=>?_)
 refine Wz 1 ?_
 exact Wd (Qc (Cr (out1 rfl rfl (fun u hu=>⟨v7,hv7,retF (j:=0) rfl u hu⟩))))
end Go.Proofs.YtfbfdnoodccgiaaGreatDoor
