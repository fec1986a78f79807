/- Merged texts of this proof (walks and plain laws), printed by a program of the prover. -/
import Derived.Test.YtbboikncaihafaaGreatDoorZt
import Derived.Test.YtbboikncaihafaaGreatDoorZb
set_option maxHeartbeats 8000000
namespace Go.Proofs.YtbboikncaihafaaGreatDoor
open Go.RowKit Go.Proofs
set_option maxRecDepth 100000
set_option linter.unusedVariables false
set_option linter.unusedSimpArgs false
theorem J0o (G:Game) (w:World) (hG:GameOk w G) :
  Calls Tryz.prog 7 #[.agg #[G.rm.pls.v,G.rm.ths.v,G.rm.prs.v,G.rm.wys.v,G.rm.acs.v,G.rm.aus.v,.int .i64 G.rm.ply,G.rm.gl.v,G.lks.v,G.cds.v,G.nts.v,.int .i64 G.tr]] w (RetB w (.bool (!clB (NearG G)))):=by
 have klk:=hG.lks
 have llk:=hG.lks.le
 have kcd:=hG.cds
 have lcd:=hG.cds.le
 have knt:=hG.nts
 have lnt:=hG.nts.le
 have kpl:=hG.rm.pls
 have lpl:=hG.rm.pls.le
 have kth:=hG.rm.ths
 have lth:=hG.rm.ths.le
 have kac:=hG.rm.acs
 have lac:=hG.rm.acs.le
 refine enter Tryz.func7 rfl rfl (Nat.le_of_ble_eq_true rfl) ?_
 refine Nz 0 ?_
 refine Wb 1 rfl rfl (fun _=>rfl) (fun _=>rfl) fun b1 hb1=>?_
 refine Wd (Qc (Cs (Nz 1 ?_)))
 refine Wk 0 (by first | exact Jac (j:=0) rfl rfl tk31 | exact Jab (j:=0) rfl rfl (by rfl) tk31 | exact Jai rfl (by assumption) (by rfl) tk31 | exact Jad (n:=8) (j:=0) rfl rfl rfl rfl tk31) ?_
 refine Wk 1 (Cb rfl rfl Jws (fun u hu=>Jvc G.rm u (hG.rm.st hu))) ?_
 refine Wf 0 rfl rfl (fun hg=>Ff) ?_
 refine Wf 0 rfl rfl (fun hg=>by first | exact Jaa (j:=0) (eg_ hg rfl) rfl rfl tk32 | exact Jaf (eg_ hg rfl) (by assumption) rfl tk32) ?_
 refine Wf 0 rfl rfl (fun hg=>Nc (eg_ hg rfl)) ?_
 refine Wf 0 rfl rfl (fun hg=>Fg) ?_
 refine Wk 1 Po ?_
 refine Wf 0 rfl rfl (fun hg=>Ff) ?_
 refine Wf 0 rfl rfl (fun hg=>by first | exact Jaa (j:=0) (eg_ hg rfl) rfl rfl tk33 | exact Jaf (eg_ hg rfl) (by assumption) rfl tk33) ?_
 refine Wf 0 rfl rfl (fun hg=>Nc (eg_ hg rfl)) ?_
 refine Wf 0 rfl rfl (fun hg=>Fg) ?_
 refine Wk 1 Po ?_
 refine Wf 0 rfl rfl (fun hg=>Ff) ?_
 refine Wf 0 rfl rfl (fun hg=>by first | exact Jaa (j:=0) (eg_ hg rfl) rfl rfl tk34 | exact Jaf (eg_ hg rfl) (by assumption) rfl tk34) ?_
 refine Wf 0 rfl rfl (fun hg=>Nc (eg_ hg rfl)) ?_
 refine Wf 0 rfl rfl (fun hg=>Fg) ?_
 refine Wk 0 Po ?_
 refine Wd (Qc (CS.cond rfl ?_ ?_))<;>intro hc1<;>try simp only [bq] at hc1
 ·
  refine Nz 1 ?_
  exact Wd (Qc (Cr (Qr (out1 rfl rfl (Jah (by rw [Jhi (fun h=>by have h1:=Jve h.rm; have:=h.lks; have:=h.cds; have:=h.nts; rw [h1] at hc1; simp at hc1; omega)]; rfl))))))
 refine Ck (Qc (Cs (Nz 1 ?_)))
 refine Wd (Qc (Ce ?_))
 refine CS.loopM (σ:=Int) [2,28,29,30,31,32,33,34,35,36,37,38,39,40,41,42,43,44,45,46,47,48,49,50] (fun s=>[(3,.int .i64 s)]) (fun _=>_) (fun s=>0≤s∧s≤G.lks.l.length∧∀ j:Int,0≤j→j < s→¬ (3 < (nth G.lks.l j).w∧5 < (nth G.lks.l j).s)) (fun s=>(G.lks.l.length - s).toNat) 0 (fun _ _=>rfl) rfl rfl ⟨by omega,by omega,fun j _ _=>by omega⟩ ?_
 intro a t hs
 obtain ⟨ha1,ha2,ha3⟩:=hs
 refine Cs (Nz 2 ?_)
 refine Wk 0 (by first | exact Jaa (j:=0) rfl rfl rfl tk32 | exact Jaf rfl (by assumption) rfl tk32) ?_
 refine Wk 1 Nc ?_
 refine Wd (Qc (CS.cond rfl ?_ ?_))<;>intro hc2<;>try simp only [bq] at hc2
 ·
  refine Ck (Qc (Cs (Ce (Nz 1 ?_))))
  refine Wk 1 (by first | exact Jaa (j:=0) rfl rfl rfl tk32 | exact Jaf rfl (by assumption) rfl tk32) ?_
  refine Wk 1 Xc ?_
  refine Wk 2 (Uc 2 0) ?_
  refine Wt 0 rfl rfl (fun hg=>Ff) ?_
  refine Wt 0 rfl rfl (fun hg=>by first | exact Jaa (j:=0) (eg_ hg rfl) rfl rfl tk32 | exact Jaf (eg_ hg rfl) (by assumption) rfl tk32) ?_
  refine Wt 0 rfl rfl (fun hg=>Fm) ?_
  refine Wt 0 rfl rfl (fun hg=>Xc (eg_ hg rfl)) ?_
  refine Wt 0 rfl rfl (fun hg=>Ff) ?_
  refine Wt 0 rfl rfl (fun hg=>Uc 2 1) ?_
  refine Wt 0 rfl rfl (fun hg=>Fg) ?_
  refine Wk 0 Pa ?_
  refine Wd (Qc (CS.cond rfl ?_ ?_))<;>intro hc3<;>try simp only [bq] at hc3
  ·
   refine Nz 1 ?_
   exact Wd (Qc (Cr (Qs (Qr (Qr (Qs (Qr (out1 rfl rfl (Jah (by rw [Jhi (fun h=>by have:=h.lk _ (Jak ha1 (by omega)); omega)]; rfl))))))))))
  refine Ck (Qb (Qc (Ny 1 ?_)))
  refine Wk 1 Za ?_
  refine Wd ?_
  exact QS.head (a+1) rfl rfl ⟨⟨by omega,by omega,fun j h0 h1=>by
     rcases (show j < a∨j=a by omega) with h | h
     ·
      exact ha3 j h0 h
     rw [h]; omega⟩,by omega⟩
 refine Cv (Qe (Qe (Qx (Qc (Cs (Nz 1 ?_))))))
 refine Wd (Qc (Ce ?_))
 refine CS.loopM (σ:=Int) [2,51,52,53,54,55,56,57,58,59,60,61,62,63,64] (fun s=>[(4,.int .i64 s)]) (fun _=>_) (fun s=>0≤s∧s≤G.cds.l.length∧∀ j:Int,0≤j→j < s→(nth G.cds.l j).l.length≤10) (fun s=>(G.cds.l.length - s).toNat) 0 (fun _ _=>rfl) rfl rfl ⟨by omega,by omega,fun j _ _=>by omega⟩ ?_
 intro b t hs
 obtain ⟨hb1,hb2,hb3⟩:=hs
 refine Cs (Nz 2 ?_)
 refine Wk 0 (by first | exact Jaa (j:=0) rfl rfl rfl tk33 | exact Jaf rfl (by assumption) rfl tk33) ?_
 refine Wk 1 Nc ?_
 refine Wd (Qc (CS.cond rfl ?_ ?_))<;>intro hc4<;>try simp only [bq] at hc4
 ·
  have hcd:SlT cInt w (nth G.cds.l b):=kcd.at hb1 (by omega)
  have hci:=hcd.ints
  refine Ck (Qc (Cs (Ce (Nz 1 ?_))))
  refine Wk 1 (by first | exact Jaa (j:=0) rfl rfl rfl tk33 | exact Jaf rfl (by assumption) rfl tk33) ?_
  refine Wk 0 Xc ?_
  refine Wk 0 Ub ?_
  refine Wk 1 (by first | exact Jbd sl42 rfl (by assumption) | exact Jbd sl42 rfl (by first | exact SlL.sp (by assumption) | exact ClS.sp (by assumption)) | exact Jdv sl42 rfl | exact Jdc sl42 rfl ⟨_,_,rfl⟩) ?_
  refine Wd (Qc (CS.cond rfl ?_ ?_))<;>intro hc5<;>try simp only [bq] at hc5
  ·
   refine Nz 1 ?_
   exact Wd (Qc (Cr (Qs (Qr (Qr (Qs (Qr (out1 rfl rfl (Jah (by rw [Jhi (fun h=>by have:=h.cd _ (Jak hb1 (by omega)); omega)]; rfl))))))))))
  refine Ck (Qb (Qc (Ny 1 ?_)))
  refine Wk 1 Za ?_
  refine Wd ?_
  exact QS.head (b+1) rfl rfl ⟨⟨by omega,by omega,fun j h0 h1=>by
     rcases (show j < b∨j=b by omega) with h | h
     ·
      exact hb3 j h0 h
     rw [h]; omega⟩,by omega⟩
 refine Cv (Qe (Qe (Qx (Qc (Cs (Nz 1 ?_))))))
 refine Wd (Qc (Ce ?_))
 refine CS.loopM (σ:=Int) [2,6,65,66,67,68,69,70,71,72,73,74,75,76,77,78,79,80,81,82,83,84,85,86,87,88,89,90,91,92,93] (fun s=>[(5,.int .i64 s)]) (fun _=>_) (fun s=>0≤s∧s≤G.nts.l.length∧∀ j:Int,0≤j→j < s→((nth G.nts.l j).nm.size≤100∧(nth G.nts.l j).wh.l.length≤20∧(nth G.nts.l j).cl.g.length≤10)) (fun s=>(G.nts.l.length - s).toNat) 0 (fun _ _=>rfl) rfl rfl ⟨by omega,by omega,fun j _ _=>by omega⟩ ?_
 intro d t hs
 obtain ⟨hd1,hd2,hd3⟩:=hs
 refine Cs (Nz 2 ?_)
 refine Wk 0 (by first | exact Jaa (j:=0) rfl rfl rfl tk34 | exact Jaf rfl (by assumption) rfl tk34) ?_
 refine Wk 1 Nc ?_
 refine Wd (Qc (CS.cond rfl ?_ ?_))<;>intro hc6<;>try simp only [bq] at hc6
 ·
  have hnt:cNote.ok w (nth G.nts.l d):=knt.at hd1 (by omega)
  have hwh:=hnt.1
  have hgv:=hnt.2
  refine Ck (Qc (Cs (Ce (Nz 1 ?_))))
  refine Wk 1 (by first | exact Jaa (j:=0) rfl rfl rfl tk34 | exact Jaf rfl (by assumption) rfl tk34) ?_
  refine Wk 0 Xc ?_
  refine Wk 0 Ua ?_
  refine Wl 0 zv94 (fun _=>rfl) (fun _=>rfl) fun b6 hb6=>?_
  refine Wv 0 0 ?_
  refine Wd (Qc (Nz 1 ?_))
  refine Wk 0 (by first | exact Jaa (j:=0) rfl rfl rfl tk9 | exact Jaf rfl (by assumption) rfl tk9) ?_
  refine Wk 2 (Ja4 Tryz.underlying9 rfl) ?_
  refine Wf 0 rfl rfl (fun hg=>Ff) ?_
  refine Wf 0 rfl rfl (fun hg=>by first | exact Jaa (j:=0) (eg_ hg rfl) rfl rfl tk29 | exact Jaf (eg_ hg rfl) (by assumption) rfl tk29) ?_
  refine Wf 0 rfl rfl (fun hg=>Nc (eg_ hg rfl)) ?_
  refine Wf 0 rfl rfl (fun hg=>Fg) ?_
  refine Wk 1 Po ?_
  refine Wf 0 rfl rfl (fun hg=>Ff) ?_
  refine Wf 0 rfl rfl (fun hg=>Ff) ?_
  refine Wf 0 rfl rfl (fun hg=>by first | exact Jaa (j:=0) (eg_ hg rfl) rfl rfl tk42 | exact Jaf (eg_ hg rfl) (by assumption) rfl tk42) ?_
  refine Wf 0 rfl rfl (fun hg=>by first | exact Jbd sl42 (eg_ hg rfl) (by assumption) | exact Jbd sl42 (eg_ hg rfl) (by first | exact SlL.sp (by assumption) | exact ClS.sp (by assumption)) | exact Jdv sl42 (eg_ hg rfl) | exact Jdc sl42 (eg_ hg rfl) ⟨_,_,rfl⟩) ?_
  refine Wf 0 rfl rfl (fun hg=>Fg) ?_
  refine Wk 0 Po ?_
  refine Wd (Qc (CS.cond rfl ?_ ?_))<;>intro hc7<;>try simp only [bq] at hc7
  ·
   refine Nz 1 ?_
   exact Wd (Qc (Cr (Qs (Qr (Qr (Qs (Qr (out1 rfl rfl (Jah (by rw [Jhi (fun h=>by have:=h.nt _ (Jak hd1 (by omega)); omega)]; rfl))))))))))
  refine Ck (Qb (Qc (Ny 1 ?_)))
  refine Wk 1 Za ?_
  refine Wd ?_
  refine QS.sel [1] rfl ?_
  exact QS.head (d+1) rfl rfl ⟨⟨by omega,by omega,fun j h0 h1=>by
     rcases (show j < d∨j=d by omega) with h | h
     ·
      exact hd3 j h0 h
     rw [h]; omega⟩,by omega⟩
 refine Cv (Qe (Qe (Qx (Qc (Nz 1 ?_)))))
 exact Wd (Qc (Cr (out1 rfl rfl (Jah (by rw [Jve ⟨Jhq.1 (by grind),by omega,by omega,by omega,Jd1 hc2 ha3,Jd1 hc4 hb3,Jd1 hc6 hd3⟩]; rfl)))))
def Jy7 (w:World) (G:Game):Ending→World→Prop:=fun e w'=>∃ c:Game,(c.p=G.p∧∃ u0,GameOk u0 c)∧RetF w (.agg #[c.rm.pls.v,c.rm.ths.v,c.rm.prs.v,c.rm.wys.v,c.rm.acs.v,c.rm.aus.v,.int .i64 c.rm.ply,c.rm.gl.v,c.lks.v,c.cds.v,c.nts.v,.int .i64 c.tr]) (roS fun u=>GameOk u c) e w'
theorem Jzh {c G:Game} (h:c.p=G.p) (hn:NearG G):NearG c:=by
 have e1:c.rm.e=G.rm.e:=congrArg GP.rm h
 have e2:c.lks.l=G.lks.l:=congrArg GP.lks h
 have e3:c.cds.l.map Sl.l=G.cds.l.map Sl.l:=congrArg GP.cds h
 have e4:c.nts.l.map NoteD.p=G.nts.l.map NoteD.p:=congrArg GP.nts h
 have l3:c.cds.l.length=G.cds.l.length:=by simpa using congrArg List.length e3
 have l4:c.nts.l.length=G.nts.l.length:=by simpa using congrArg List.length e4
 refine ⟨Jzg e1 hn.rm,by rw [e2]; exact hn.lks,by rw [l3]; exact hn.cds,by rw [l4]; exact hn.nts,by rw [e2]; exact hn.lk,fun x hx=>?_,fun x hx=>?_⟩
 ·
  have h1:x.l∈c.cds.l.map Sl.l:=List.mem_map.2 ⟨x,hx,rfl⟩
  rw [e3] at h1
  obtain ⟨y,hy,he⟩:=List.mem_map.1 h1
  rw [← he]; exact hn.cd y hy
 have h1:x.p∈c.nts.l.map NoteD.p:=List.mem_map.2 ⟨x,hx,rfl⟩
 rw [e4] at h1
 obtain ⟨y,hy,he⟩:=List.mem_map.1 h1
 have:=hn.nt y hy
 have q1:y.nm=x.nm:=congrArg NoteP.nm he
 have q2:y.wh.l=x.wh.l:=congrArg NoteP.wh he
 have q3:y.cl=x.cl:=congrArg NoteP.cl he
 rw [q1,q2,q3] at this
 exact this
theorem Joi (c:Clue) (gv:Value) (w:World) (h1:SlI w gv c.g) (hm:c.g.length≤1000) :
  Calls Tryz.prog 42 #[.agg #[.int .i64 c.k,.int .i64 c.a,.int .i64 c.b,.int .i64 c.n,.int .i64 c.m,gv,.bool c.nt]] w (fun e w'=>∃ v:Value,(v.oneCell'=true∧∃ u0,SlI u0 v c.g)∧RetF w (.agg #[.int .i64 c.k,.int .i64 c.a,.int .i64 c.b,.int .i64 c.n,.int .i64 c.m,v,.bool c.nt]) (Go.Proofs.YtbboikncaihafaaGreatDoor.roI v c.g) e w'):=by
 have hg1:=h1.one1
 refine enter Tryz.func42 rfl rfl (Nat.le_of_ble_eq_true rfl) ?_
 refine Nz 0 ?_
 refine Wb 0 rfl rfl (fun _=>rfl) (fun _=>rfl) fun b1 hb1=>?_
 refine Wl 0 zv92 (fun _=>rfl) (fun _=>rfl) fun b2 hb2=>?_
 refine Wd (Qc (Nz 0 ?_))
 refine WS.build0 sl42 zv3 (fun _=>rfl) ?_; intro v3
 refine Wz 1 ?_
 refine Wk 0 (by first | exact Jaa (j:=2) rfl rfl rfl tk42 | exact Jaf rfl (by assumption) rfl tk42) ?_
 refine WS.append0 (j:=0) (news:=ints c.g) (m:=c.g.length) sl42 zv3 rfl (by decide) rfl rfl rfl (fun u hu=>h1.st hu) (by simp [ints,Value.oneCell']) (by omega) (by omega) (fun _=>rfl) (fun _=>rfl) ?_; intro v6; refine WS.oc (j:=0) rfl (fun hv6=>?_)
 refine Wz 1 ?_
 refine Ws 0 2 ?_
 refine Wd (Qc (Nz 0 ?_))
 refine Wk 0 (by first | exact Jl6 rfl (by assumption) (by omega) tk92 | exact Jac (j:=2) rfl rfl tk92 | exact Jab (j:=2) rfl rfl (by rfl) tk92 | exact Jai rfl (by assumption) (by rfl) tk92 | exact Jad (n:=7) (j:=2) rfl rfl rfl rfl tk92) ?_
 refine Wv 0 1 ?_
 exact Wd (Qc (Cr (outR (resc rfl (Jau (j:=1) rfl rfl tk92)) (fun u hu=>⟨v6,⟨hv6,u,Jal hu (j:=0) rfl⟩,retR (fun S u h=>Star.oints (j:=0) rfl h) u hu⟩))))
end Go.Proofs.YtbboikncaihafaaGreatDoor
