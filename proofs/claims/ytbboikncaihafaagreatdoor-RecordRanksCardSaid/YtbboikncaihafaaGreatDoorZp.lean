/- Merged texts of this proof (walks and plain laws), printed by a program of the prover. -/
import Derived.Test.YtbboikncaihafaaGreatDoorZo
import Derived.Test.YtbboikncaihafaaGreatDoorZm
import Derived.Test.YtbboikncaihafaaGreatDoorZb
import Derived.Test.YtbboikncaihafaaGreatDoorZg
set_option maxHeartbeats 8000000
namespace Go.Proofs.YtbboikncaihafaaGreatDoor
open Go.RowKit Go.Proofs
set_option maxRecDepth 100000
set_option linter.unusedVariables false
set_option linter.unusedSimpArgs false
theorem Jz1 (G:Game) (w:World) (hG:GameOk w G) (hV:GoodG G) (p:Pos) (hp:PosOk w p) (hI:StIn G.rm p.st.x) (hl:p.rd.l.length=G.nts.l.length) :
  Calls Tryz.prog 182 #[.agg #[G.rm.pls.v,G.rm.ths.v,G.rm.prs.v,G.rm.wys.v,G.rm.acs.v,G.rm.aus.v,.int .i64 G.rm.ply,G.rm.gl.v,G.lks.v,G.cds.v,G.nts.v,.int .i64 G.tr],.agg #[p.st.ths.v,p.st.prs.v,p.st.pls.v,p.rd.v]] w (RetP w (p.st.x,Jc4 G.p p.st.x p.rd.l) fun v=>v):=by
 have knt:=hG.nts
 have hnn:=hV.nn
 have hsm:=hI.small hV.ready
 have hpl:=hI.ll
 refine enter Tryz.func182 rfl rfl (Nat.le_of_ble_eq_true rfl) ?_
 refine Nz 0 ?_
 refine Wb 0 rfl rfl (fun _=>rfl) (fun _=>rfl) fun b2 hb2=>?_
 refine Wb 0 rfl rfl (fun _=>rfl) (fun _=>rfl) fun b3 hb3=>?_
 refine Wl 0 zv47 (fun _=>rfl) (fun _=>rfl) fun b4 hb4=>?_
 refine Wd (Qc (Nz 0 ?_))
 refine Wk 0 (Bb 1) ?_
 refine Wc rfl rfl Kc2 (fun u hu=>Jup p u (hp.toSt hu) ⟨hsm,by omega⟩) (fun _=>rfl) ?_; rintro ⟨y,rv⟩ ⟨⟨hyx,uy,hyok⟩,hrv⟩
 obtain ⟨hya,hyb,hyc⟩:=hyok.ones
 have hyl:y.pls.l=p.st.pls.l:=congrArg (fun q:P3=>q.2.2) hyx
 have hyt:y.ths.l=p.st.ths.l:=congrArg (fun q:P3=>q.1) hyx
 have ypl:=hyok.pls.ints
 have hyn:y.pls.l.length≤1000000:=by rw [hyl]; exact hsm.2.2
 refine WS.unpack ?_
 refine Wl 0 zv47 (fun _=>rfl) (fun _=>rfl) fun b5 hb5=>?_
 refine Wv 0 0 ?_
 refine Wd (Qc (Cs (Nz 1 ?_)))
 refine Wd (Qc (Ce ?_))
 refine CS.sel [0,1,0,0,0,0] rfl ?_
 refine CS.loopM (σ:=Int × List Bool) [7,8,11,12,13,14,15,16,17,18,19,20,21,22,23,24,25,26,27,28,29,30,31,32,33,34,35,36,37,38,39,40,41,42,43,44,45,46,47,48,49,50] (fun s=>[(6,.int .i64 s.1)]) (fun s=>[blk b5 [y.ths.v,y.prs.v,y.pls.v,rv] 47,oT cBool 4 rv s.2,roS fun u=>SttOk u y,blk b4 [.slice none 0 0,.slice none 0 0,.slice none 0 0,.slice none 0 0] 47,blk b3 [p.st.ths.v,p.st.prs.v,p.st.pls.v,p.rd.v] 47,blk b2 [G.rm.pls.v,G.rm.ths.v,G.rm.prs.v,G.rm.wys.v,G.rm.acs.v,G.rm.aus.v,.int .i64 G.rm.ply,G.rm.gl.v,G.lks.v,G.cds.v,G.nts.v,.int .i64 G.tr] 36]) (fun s=>0≤s.1∧s.1≤G.nts.l.length∧ReadTo G.p p.st.x p.rd.l s.1 s.2) (fun s=>(G.nts.l.length - s.1).toNat) (0,p.rd.l) (fun _ _=>rfl) rfl rfl ⟨by simp,by simp,ReadTo.zero⟩ ?_
 intro a t hs
 obtain ⟨ha1,ha2,ha3⟩:=hs
 have hln:=ha3.len
 refine Cs (Nz 2 ?_)
 refine Wk 0 (Ba 5) ?_
 refine Wk 1 Nc ?_
 refine Wd (Qc (CS.cond rfl ?_ ?_))<;>intro hc1<;>try simp only [bq] at hc1
 ·
  have hnt:cNote.ok w (nth G.nts.l a.1):=knt.at ha1 (by omega)
  have hwh:SlT cLit w (nth G.nts.l a.1).wh:=hnt.1
  have hco:Jfu p.st.ths.l.length (nth G.nts.l a.1).wh.l:=by rw [show p.st.ths.l.length=G.rm.ths.l.length from hI.lt]; exact hV.cond ha1 (by omega)
  refine Ck (Qc (Cs (Ce (Nz 1 ?_))))
  refine Wk 1 (Ba 5) ?_
  refine Wk 0 Xc ?_
  refine Wk 0 Ua ?_
  refine Wl 0 zv94 (fun _=>rfl) (fun _=>rfl) fun b7 hb7=>?_
  refine Wv 0 0 ?_
  refine Wd (Qc (Nz 1 ?_))
  refine Wd (Qc (Ce ?_))
  refine CS.loopM (σ:=Int × List Bool) [23,24,25,26,27,28,29,30,31,32,33,34,35,36,37,38,39,40,41,42,43,44,45,46,47,48,49,50] (fun s=>[(8,.int .i64 s.1)]) (fun s=>blk b7 [.string (nth G.nts.l a.1).nm,.int .i64 (nth G.nts.l a.1).pl,.int .i64 (nth G.nts.l a.1).lk,(nth G.nts.l a.1).wh.v,.int .i64 (nth G.nts.l a.1).cl.k,.int .i64 (nth G.nts.l a.1).cl.a,.int .i64 (nth G.nts.l a.1).cl.b,.int .i64 (nth G.nts.l a.1).cl.n,.int .i64 (nth G.nts.l a.1).cl.m,(nth G.nts.l a.1).gv,.bool (nth G.nts.l a.1).cl.nt] 94::[blk b5 [y.ths.v,y.prs.v,y.pls.v,rv] 47,oT cBool 4 rv s.2,roS fun u=>SttOk u y,blk b4 [.slice none 0 0,.slice none 0 0,.slice none 0 0,.slice none 0 0] 47,blk b3 [p.st.ths.v,p.st.prs.v,p.st.pls.v,p.rd.v] 47,blk b2 [G.rm.pls.v,G.rm.ths.v,G.rm.prs.v,G.rm.wys.v,G.rm.acs.v,G.rm.aus.v,.int .i64 G.rm.ply,G.rm.gl.v,G.lks.v,G.cds.v,G.nts.v,.int .i64 G.tr] 36]) (fun s=>0≤s.1∧s.1≤y.pls.l.length∧s.2=if Ji8 p.st.x (nth G.nts.l a.1).p s.1=true then a.2.set a.1.toNat true else a.2) (fun s=>(y.pls.l.length - s.1).toNat) (0,a.2) (fun _ _=>rfl) rfl rfl ⟨by simp,by simp,by rw [Jp4]; rfl⟩ ?_
  intro d t hs
  obtain ⟨hd1,hd2,hd3⟩:=hs
  have hdl:d.2.length=a.2.length:=by rw [hd3]; split <;> simp
  have hsn:=fun h:d.1 < p.st.x.2.2.length=>Jp3 (x:=p.st.x) (n:=(nth G.nts.l a.1).p) hd1 h
  refine Cs (Nz 3 ?_)
  refine Wk 0 (Ba 1) ?_
  refine Wk 1 (Jb6 sl42 rfl ypl) ?_
  refine Wd (Qc (CS.cond rfl ?_ ?_))<;>intro hc2<;>try simp only [bq] at hc2
  ·
   refine Ck (Qc (Cs (Ce (Cs (Dr Jah 2 ?_)))))
   refine Dk 1 (Ba 1) ?_
   refine Dk 0 (Jnh sl42 rfl rfl ypl (by omega) (by omega)) ?_
   refine Dk 1 (J68 (j:=3) rfl (fun u (h:SttOk u y)=>h.pls.ints) rfl (by omega) tk3) ?_
   refine Dk 2 (Ba 0) ?_
   refine Dt 0 rfl rfl (fun hg=>Ff) ?_
   refine Dt 0 rfl rfl (fun hg=>Bc 1) ?_
   refine Dt 0 rfl rfl (fun hg=>Ff) ?_
   refine Dt 0 rfl rfl (fun hg=>Ba 0) ?_
   refine Dt 0 rfl rfl (fun hg=>Cb rfl (ec_ (eg_ hg rfl) (ec_ (eg_ hg rfl) en_)) Jl0 (fun u hu=>Je2 y u (hu.ro (j:=3) rfl) (nth G.nts.l a.1).wh (hwh.st hu) (by rw [hyt]; exact hco))) ?_
   refine Dk 0 Pa ?_
   refine Dd (Qc (CS.cond rfl ?_ ?_))<;>intro hc3<;>try simp only [bq] at hc3
   ·
    refine Ny 1 ?_
    refine Wk 1 (Ba 1) ?_
    refine Wk 0 (Jaf (j:=2) sl45 rfl rfl rfl rfl (by omega) (by omega)) ?_
    refine WS.storeTc (C:=cBool) 1 0 true (j:=2) rfl rfl rfl ⟨by omega,by omega⟩ (by decide) rfl rfl tk4 rfl rfl ?_
    refine Wd (Qb (Qc (Ny 1 ?_)))
    refine Wk 1 Za ?_
    refine Wd ?_
    exact QS.head ((d.1+1,d.2.set a.1.toNat true)) rfl rfl ⟨⟨by simp; omega,by simp; omega,by
        simp only
        rw [hsn (by show d.1 < (p.st.pls.l.length:Int); rw [← hyl]; omega),show (decide (nth p.st.x.2.2 d.1=(nth G.nts.l a.1).p.pl) && Jcd p.st.x.1 (nth G.nts.l a.1).p.wh)=true by (simp only [Bool.and_eq_true,decide_eq_true_eq,Stt.x, ← hyl, ← hyt]; exact hc3),Bool.or_true,if_pos rfl,hd3]
        split
        ·
         rw [List.set_set]
        rfl⟩,by simp; omega⟩
   refine Ck (Qb (Qc (Ny 1 ?_)))
   refine Wk 1 Za ?_
   refine Wd ?_
   exact QS.head ((d.1+1,d.2)) rfl rfl ⟨⟨by simp; omega,by simp; omega,by
       simp only
       rw [hsn (by show d.1 < (p.st.pls.l.length:Int); rw [← hyl]; omega),show (decide (nth p.st.x.2.2 d.1=(nth G.nts.l a.1).p.pl) && Jcd p.st.x.1 (nth G.nts.l a.1).p.wh)=false by (simp only [Bool.and_eq_false_iff,decide_eq_false_iff_not,Stt.x, ← hyl, ← hyt]; exact hc3),Bool.or_false,hd3]⟩,by simp; omega⟩
  refine Cv (Qe (Qe (Qx (Qb (Qc (Ny 1 ?_))))))
  refine Wk 1 Za ?_
  refine Wd ?_
  refine QS.sel [1,1,1,1,1,1] rfl ?_
  exact QS.head ((a.1+1,d.2)) rfl rfl ⟨⟨by simp; omega,by simp; omega,ha3.next ha1 (by omega) (by rw [hd3,Game.p_nts,Juz (by show p.st.pls.l.length≤d.1; rw [← hyl]; omega)])⟩,by simp; omega⟩
 refine Cv (Qe (Qe (Qx (Qc (Nz 0 ?_)))))
 refine Wk 0 (Bb 0) ?_
 refine Wv 0 3 ?_
 exact Wd (Qc (Cr (outR (resc rfl (Jak (j:=3) rfl rfl tk47)) (fun u hu=>J8z (f:=fun v=>v) (is:=[2,1]) rfl (by rw [hyx,ha3.done (by omega)]) hu))))
theorem Jqt (G:Game) (w:World) (hG:GameOk w G) (hn:NearG G) (p:Pos) (hp:PosOk w p) (hP:GoodP G p) (m:Move) (hL:legalB G.rm p.st.x m=true) :
  Calls Tryz.prog 271 #[.agg #[G.rm.pls.v,G.rm.ths.v,G.rm.prs.v,G.rm.wys.v,G.rm.acs.v,G.rm.aus.v,.int .i64 G.rm.ply,G.rm.gl.v,G.lks.v,G.cds.v,G.nts.v,.int .i64 G.tr],.agg #[p.st.ths.v,p.st.prs.v,p.st.pls.v,p.rd.v],.agg #[.int .i64 m.p,.int .i64 m.k,.int .i64 m.n]] w (RetB w (.bool (Ja6 G.p p.x m))):=by
 have hR:=hP.ready
 have hI:=hP.inn
 have hdo:=Jsa hR hI hL
 have kac:=hG.rm.acs
 have lac:=hG.rm.acs.le
 have hxx:p.x.1=p.st.x:=rfl
 refine enter Tryz.func271 rfl rfl (Nat.le_of_ble_eq_true rfl) ?_
 refine Nz 0 ?_
 refine Wb 0 rfl rfl (fun _=>rfl) (fun _=>rfl) fun b3 hb3=>?_
 refine Wb 0 rfl rfl (fun _=>rfl) (fun _=>rfl) fun b4 hb4=>?_
 refine Wb 1 rfl rfl (fun _=>rfl) (fun _=>rfl) fun b5 hb5=>?_
 refine Wd (Qc (Nz 1 ?_))
 refine Wk 1 (Bc 2) ?_
 refine Wk 0 (Bc 1) ?_
 refine Wk 0 (Bb 0) ?_
 refine Wc rfl rfl J4h (fun u hu=>Joy G.rm u (hG.rm.st hu) p.st (hp.st.st hu) hR hI m hL) (fun _=>rfl) ?_; rintro y ⟨hyx,uy,hyok⟩
 obtain ⟨hya,hyb,hyc⟩:=hyok.ones
 refine Wz 3 ?_
 refine Wl 0 zv44 (fun _=>rfl) (fun _=>rfl) fun b7 hb7=>?_
 refine Wv 1 0 ?_
 refine Wd (Qc (Cs (Nz 2 ?_)))
 refine Wd (Qc (CS.cond rfl ?_ ?_))<;>intro hc1<;>try simp only [bq] at hc1
 ·
  refine Nz 1 ?_
  exact Wd (Qc (Cr (Qr (out1 rfl rfl (Jab (by rw [Ja6,hxx,Jfc,if_pos hL,hc1]; rfl))))))
 refine Ck (Qc (Cs (Dr Jah 1 ?_)))
 refine Dk 2 (Ba 2) ?_
 refine Df 0 rfl rfl (fun hg=>Ff) ?_
 refine Df 0 rfl rfl (fun hg=>Ff) ?_
 refine Df 0 rfl rfl (fun hg=>Ba 4) ?_
 refine Df 0 rfl rfl (fun hg=>Ff) ?_
 refine Df 0 rfl rfl (fun hg=>Ba 2) ?_
 refine Df 0 rfl rfl (fun hg=>Xc (eg_ hg rfl)) ?_
 refine Df 0 rfl rfl (fun hg=>Ff) ?_
 refine Df 0 rfl rfl (fun hg=>Uc 8 2) ?_
 refine Df 0 rfl rfl (fun hg=>Fl) ?_
 refine Dk 1 Po ?_
 refine Df 0 rfl rfl (fun hg=>Bb 4) ?_
 refine Df 0 rfl rfl (fun hg=>Bb 3) ?_
 refine Df 0 rfl rfl (fun hg=>Ff) ?_
 refine Df 0 rfl rfl (fun hg=>Ff) ?_
 refine Df 0 rfl rfl (fun hg=>Ba 4) ?_
 refine Df 0 rfl rfl (fun hg=>Ff) ?_
 refine Df 0 rfl rfl (fun hg=>Ba 2) ?_
 refine Df 0 rfl rfl (fun hg=>Xc (eg_ hg rfl)) ?_
 refine Df 0 rfl rfl (fun hg=>Ff) ?_
 refine Df 0 rfl rfl (fun hg=>Uc 8 2) ?_
 refine Df 0 rfl rfl (fun hg=>Cb rfl (ec_ (eg_ hg rfl) (ec_ (eg_ hg rfl) (ec_ (eg_ hg rfl) en_))) J8j (fun u hu=>J52 G u (hG.st hu) hP.toGoodG p (hp.toSt hu) hP.ln (nth G.rm.acs.l m.n).lk (by (try simp only [bq] at hg); omega) (hP.alk (by (try simp only [bq] at hg); omega) (by (try simp only [bq] at hg); omega)))) ?_
 refine Dk 1 Po ?_
 exact Dd (Qc (Cr (out1 rfl rfl (Jab (by rw [Ja6,hxx,Jfc,if_pos hL,hc1,mayB,Game.p_alk, ← Bool.or_assoc]; simp [Pos.x])))))
theorem J2c (G:Game) (w:World) (hG:GameOk w G) (hn:NearG G) (p:Pos) (hp:PosOk w p) (hP:GoodP G p) :
  Calls Tryz.prog 259 #[.agg #[G.rm.pls.v,G.rm.ths.v,G.rm.prs.v,G.rm.wys.v,G.rm.acs.v,G.rm.aus.v,.int .i64 G.rm.ply,G.rm.gl.v,G.lks.v,G.cds.v,G.nts.v,.int .i64 G.tr],.agg #[p.st.ths.v,p.st.prs.v,p.st.pls.v,p.rd.v]] w (RetM w (Jdc G.p p.x) fun v=>v):=by
 have hR:=hP.ready
 have hI:=hP.inn
 have hll:=Jn3 hR p.st.x
 refine enter Tryz.func259 rfl rfl (Nat.le_of_ble_eq_true rfl) ?_
 refine Nz 0 ?_
 refine Wb 0 rfl rfl (fun _=>rfl) (fun _=>rfl) fun b2 hb2=>?_
 refine Wb 1 rfl rfl (fun _=>rfl) (fun _=>rfl) fun b3 hb3=>?_
 refine Wd (Qc (Nz 1 ?_))
 refine Wd (Qc (Nz 1 ?_))
 refine Wk 1 (Bc 1) ?_
 refine Wk 0 (Bc 0) ?_
 refine Wc rfl rfl J7o (fun u hu=>Jnb G.rm u (hG.rm.st hu) p.st (hp.st.st hu) hR hI) (fun _=>rfl) ?_; rintro ml ⟨uml,hml⟩
 refine Wz 1 ?_
 refine Wd (Qc (Cs (Nz 1 ?_)))
 refine Wd (Qc (Ce ?_))
 refine CS.weak (fun _ hu=>hu.osl0 (e:=54) (size:=3)) ?_
 refine CS.loopM (σ:=Int × Value) [13,14,15,16,17,18,19,20,21,22,23,24,25,26,27,28,29,30,31,32] (fun s=>[(7,.int .i64 s.1),(5,s.2)]) (fun s=>[oT cMove 54 s.2 (((Jbu G.rm p.st.x).take s.1.toNat).filter (Ja6 G.p p.x)),roT cMove ⟨ml,Jbu G.rm p.st.x⟩,blk b3 [p.st.ths.v,p.st.prs.v,p.st.pls.v,p.rd.v] 47,blk b2 [G.rm.pls.v,G.rm.ths.v,G.rm.prs.v,G.rm.wys.v,G.rm.acs.v,G.rm.aus.v,.int .i64 G.rm.ply,G.rm.gl.v,G.lks.v,G.cds.v,G.nts.v,.int .i64 G.tr] 36]) (fun s=>0≤s.1∧s.1≤(Jbu G.rm p.st.x).length) (fun s=>((Jbu G.rm p.st.x).length - s.1).toNat) (0,.slice none 0 0) (fun _ _=>rfl) rfl rfl ⟨by simp,by simp⟩ ?_
 intro a t hs
 obtain ⟨ha1,ha2⟩:=hs
 refine Cs (Nz 2 ?_)
 refine Wk 1 (Nc (s:=⟨ml,Jbu G.rm p.st.x⟩)) ?_
 refine Wd (Qc (CS.cond rfl ?_ ?_))<;>intro hc1<;>try simp only [bq] at hc1
 ·
  have hLm:=Jvs ha1 (show a.1 < (Jbu G.rm p.st.x).length by omega)
  have hfl:=J1n (p:=Ja6 G.p p.x) (l:=Jbu G.rm p.st.x) (n:=a.1.toNat)
  refine Ck (Qc (Cs (Ce (Cs (Dr Jah 0 ?_)))))
  refine Dk 0 (Bb 3) ?_
  refine Dk 2 (Bb 2) ?_
  refine Dk 0 (Xc (s:=⟨ml,Jbu G.rm p.st.x⟩)) ?_
  refine Dk 0 (Jjn (jj:=1) (s:=⟨ml,Jbu G.rm p.st.x⟩) rfl rfl rfl ⟨(by omega),(by omega)⟩ rfl tk54) ?_
  refine Dk 0 (Cb rfl rfl J7m (fun u hu=>Jqt G u (hG.st hu) hn p (hp.toSt hu) hP _ hLm)) ?_
  refine Dd (Qc (CS.cond rfl ?_ ?_))<;>intro hc2<;>try simp only [bq] at hc2
  ·
   refine Ny 3 ?_
   refine Wk 0 (Xc (s:=⟨ml,Jbu G.rm p.st.x⟩)) ?_
   refine Wk 0 (Jjn (jj:=1) (s:=⟨ml,Jbu G.rm p.st.x⟩) rfl rfl rfl ⟨(by omega),(by omega)⟩ rfl tk54) ?_
   refine WS.buildT1 cMove (a:=nth (Jbu G.rm p.st.x) a.1) sl37 zv54 rfl (by decide) (fun _=>rfl) ?_; intro v31
   refine WS.appendT1 (j:=1) (jz:=0) sl37 zv54 rfl (by decide) rfl rfl rfl rfl (w:=w) trivial (by omega) (by omega) (fun _=>rfl) (fun _=>rfl) ?_; intro v32 hv32
   refine Wz 1 ?_
   refine Wd (Qb (Qc (Ny 1 ?_)))
   refine Wk 1 Za ?_
   refine Wd ?_
   refine QS.sel [1,1,1,1] rfl ?_
   exact QS.head ((a.1+1,v32)) rfl (by first | simp only [Jtm ha1 (show a.1 < (Jbu G.rm p.st.x).length by omega) hc2] | simp only [← Jyt ha1 (show a.1 < (Jbu G.rm p.st.x).length by omega) hc2]) ⟨⟨by simp; omega,by simp; omega⟩,by simp; omega⟩
  refine Ck (Qb (Qc (Ny 1 ?_)))
  refine Wk 1 Za ?_
  exact Wd (QS.head ((a.1+1,a.2)) rfl (by first | simp only [Jtm ha1 (show a.1 < (Jbu G.rm p.st.x).length by omega) hc2] | simp only [← Jyt ha1 (show a.1 < (Jbu G.rm p.st.x).length by omega) hc2]) ⟨⟨by simp; omega,by simp; omega⟩,by simp; omega⟩)
 have hta:(Jbu G.rm p.st.x).take a.1.toNat=Jbu G.rm p.st.x:=List.take_of_length_le (by omega)
 refine Cv (Qe (Qe (Qx (Qc (Nz 2 ?_)))))
 refine Wd (Qc (Cr ?_))
 exact out1 rfl rfl (by
   rw [Jhx,show (Jbu G.rm p.x.1).filter (Ja6 G.p p.x)=((Jbu G.rm p.st.x).take a.1.toNat).filter (Ja6 G.p p.x) by rw [hta]; rfl]
   exact fun u hu=>retM (f:=fun v=>v) (j:=0) rfl hu)
theorem J72 (G:Game) (w:World) (hG:GameOk w G) (hn:NearG G) (p:Pos) (hp:PosOk w p) :
  Calls Tryz.prog 228 #[.agg #[G.rm.pls.v,G.rm.ths.v,G.rm.prs.v,G.rm.wys.v,G.rm.acs.v,G.rm.aus.v,.int .i64 G.rm.ply,G.rm.gl.v,G.lks.v,G.cds.v,G.nts.v,.int .i64 G.tr],.agg #[p.st.ths.v,p.st.prs.v,p.st.pls.v,p.rd.v]] w (RetM w (CanV G.p p.x).2 fun v=>.tuple #[v,.int .i64 (CanV G.p p.x).1]):=by
 refine enter Tryz.func228 rfl rfl (Nat.le_of_ble_eq_true rfl) ?_
 refine Nz 0 ?_
 refine Wb 0 rfl rfl (fun _=>rfl) (fun _=>rfl) fun b2 hb2=>?_
 refine Wb 2 rfl rfl (fun _=>rfl) (fun _=>rfl) fun b3 hb3=>?_
 refine Wd (Qc (Nz 0 ?_))
 refine Wk 0 (Bb 1) ?_
 refine Wk 0 (Bb 0) ?_
 refine Wk 1 (Cb rfl rfl J9l (fun u hu=>Kbb G u (hG.st hu) hn p (hp.toSt hu))) ?_
 refine Wd (Qc (Cs (Nz 2 ?_)))
 refine Wd (Qc (CS.cond rfl ?_ ?_))<;>intro hc1<;>try simp only [bq] at hc1
 ·
  have hv:CanV G.p p.x=(posG G.p p.x,[]):=if_neg hc1
  refine Nz 3 ?_
  refine Wd (Qc (Cr (Qr ?_)))
  exact out2 rfl rfl rfl (by
    rw [hv]
    exact fun u hu=>Kdh (f:=fun v=>.tuple #[v,.int .i64 (posG G.p p.x)]) hu)
 have hv:CanV G.p p.x=(0,Jdc G.p p.x):=if_pos hc1
 have hP:=Jei hc1
 refine Ck (Qc (Nz 0 ?_))
 refine Wk 0 (Bb 1) ?_
 refine Wk 0 (Bb 0) ?_
 refine Wc rfl rfl J8f (fun u hu=>J2c G u (hG.st hu) hn p (hp.toSt hu) hP) (fun _=>rfl) ?_; rintro y ⟨uy,hy⟩
 refine Wz 2 ?_
 refine Wd (Qc (Cr ?_))
 exact out2 rfl rfl rfl (by
   rw [hv]
   exact fun u hu=>Kb9 (f:=fun v=>.tuple #[v,.int .i64 0]) (j:=0) rfl hu)
theorem Je5 {G:Game} {p:Pos} {m:Move} (h:Ja6 G.p p.x m=true):legalB G.rm p.st.x m=true:=by
 unfold Ja6 at h
 rw [Jfc] at h
 by_cases hL:legalB G.rm p.x.1 m=true
 ·
  exact hL
 rw [if_neg hL] at h; simp at h
theorem Jzu {G:Game} {p:Pos} {m:Move} (h:Ja6 G.p p.x m=true):(settleV G.rm (moveX G.rm p.st.x m)).isSome=true:=by
 have hL:legalB G.rm p.x.1 m=true:=Je5 h
 unfold Ja6 at h
 rw [Jfc,if_pos hL,Bool.and_eq_true] at h
 exact h.1
theorem Jx1 {G:Game} {p:Pos} {m:Move} (hP:GoodP G p) (h:Ja6 G.p p.x m=true):StIn G.rm ((settleV G.rm (moveX G.rm p.st.x m)).getD no3):=by
 have h1:=Jzu h
 cases hs:settleV G.rm (moveX G.rm p.st.x m) with
 | none=>rw [hs] at h1; cases h1
 | some y=>exact Jga hP.ready (Jos hP.ready hP.inn (Je5 h)) hs
theorem Jzt {G:Game} {p:Pos} {m:Move} (h:Ja6 G.p p.x m=true):Jd3 G.p p.x m=((settleV G.rm (moveX G.rm p.st.x m)).getD no3,Jc4 G.p ((settleV G.rm (moveX G.rm p.st.x m)).getD no3) p.rd.l):=by
 have hL:legalB G.rm p.x.1 m=true:=Je5 h
 unfold Jd3
 rw [Jfc,if_pos hL]
 rfl
theorem Jx5 {G:Game} {p:Pos} {m:Move} (hP:GoodP G p) (h:Ja6 G.p p.x m=true):m∈Jdc G.p p.x:=by
 rw [Jhx,List.mem_filter]
 refine ⟨?_,h⟩
 have h1:=Jyz hP.ready hP.inn m
 rw [Je5 h,List.any_eq_true] at h1
 obtain ⟨y,hy,he⟩:=h1
 rw [← of_decide_eq_true he]
 exact hy
theorem Jul {G:Game} {p:Pos} {i:Int} (h0:0≤i) (h1:i < (Jdc G.p p.x).length):Ja6 G.p p.x (nth (Jdc G.p p.x) i)=true:=by
 have:=Jai h0 h1
 rw [Jhx] at this
 rw [Jhx]
 exact (List.mem_filter.1 this).2
theorem Jxo {G:Game} {p:Pos} {m:Move} (hP:GoodP G p) (h:∀ j:Int,0≤j→j < (Jdc G.p p.x).length→nth (Jdc G.p p.x) j≠m):¬ Ja6 G.p p.x m=true:=fun hc=>by
 obtain ⟨i,hi,he⟩:=List.mem_iff_getElem.1 (Jx5 hP hc)
 refine h (i:Int) (by omega) (by omega) ?_
 rw [← he]
 simp [nth,List.getD,hi]
theorem Jy9 {G:Game} {p:Pos} (hP:GoodP G p):(Jdc G.p p.x).length≤384:=by
 have:=Jn3 hP.ready p.st.x
 have h2:=List.length_filter_le (Ja6 G.p p.x) (Jbu G.rm p.st.x)
 rw [Jhx]
 exact Nat.le_trans h2 this
theorem J5k (G:Game) (w:World) (hG:GameOk w G) (p:Pos) (hp:PosOk w p) (hP:GoodP G p) (m:Move) (hq:Ja6 G.p p.x m=true) :
  Calls Tryz.prog 229 #[.agg #[G.rm.pls.v,G.rm.ths.v,G.rm.prs.v,G.rm.wys.v,G.rm.acs.v,G.rm.aus.v,.int .i64 G.rm.ply,G.rm.gl.v,G.lks.v,G.cds.v,G.nts.v,.int .i64 G.tr],.agg #[p.st.ths.v,p.st.prs.v,p.st.pls.v,p.rd.v],.agg #[.int .i64 m.p,.int .i64 m.k,.int .i64 m.n]] w (RetP w (Jd3 G.p p.x m) fun v=>v):=by
 have hR:=hP.ready
 have hI:=hP.inn
 have hL:=Je5 hq
 have hIy:=Jx1 hP hq
 refine enter Tryz.func229 rfl rfl (Nat.le_of_ble_eq_true rfl) ?_
 refine Nz 0 ?_
 refine Wb 0 rfl rfl (fun _=>rfl) (fun _=>rfl) fun b3 hb3=>?_
 refine Wb 0 rfl rfl (fun _=>rfl) (fun _=>rfl) fun b4 hb4=>?_
 refine Wb 0 rfl rfl (fun _=>rfl) (fun _=>rfl) fun b5 hb5=>?_
 refine Wl 0 zv47 (fun _=>rfl) (fun _=>rfl) fun b6 hb6=>?_
 refine Wd (Qc (Nz 1 ?_))
 refine Wk 1 (Bc 3) ?_
 refine Wk 0 (Bc 2) ?_
 refine Wk 0 (Bb 1) ?_
 refine Wc rfl rfl J4h (fun u hu=>Joy G.rm u (hG.rm.st hu) p.st (hp.st.st hu) hR hI m hL) (fun _=>rfl) ?_; rintro y ⟨hyx,uy,hyok⟩
 obtain ⟨hya,hyb,hyc⟩:=hyok.ones
 refine Wz 3 ?_
 refine Wl 0 zv44 (fun _=>rfl) (fun _=>rfl) fun b7 hb7=>?_
 refine Wv 1 0 ?_
 refine Wd (Qc (Nz 0 ?_))
 refine Wk 0 (Bb 5) ?_
 refine Wk 1 (Bb 0) ?_
 refine Wk 0 (Ba 4) ?_
 refine Wk 0 (Jav Jen zv47 (pcs:=[(0,[y.ths.v,y.prs.v,y.pls.v]),(1,[p.rd.v])]) rfl (CellsOf.agg (CellsOf.one (Sl.one hp.rd) CellsOf.nil)) rfl) ?_
 refine Wc rfl rfl J3v (fun u hu=>Jz1 G u (hG.st hu) hP.toGoodG ⟨y,p.rd⟩ ⟨hu.ro (j:=1) rfl,hp.rd.st hu⟩ (by rw [show y.x=((settleV G.rm (moveX G.rm p.st.x m)).getD no3) from hyx]; exact hIy) hP.ln) (fun _=>rfl) ?_; rintro z ⟨hzx,uz,hzok⟩
 obtain ⟨hza,hzb,hzc⟩:=hzok.st.ones
 have hzd:=Sl.one hzok.rd
 refine Wv 0 3 ?_
 exact Wd (Qc (Cr (outR (resc rfl (Jak (j:=3) rfl rfl tk47)) (fun u hu=>Jt6 (f:=fun v=>v) (j:=0) rfl (by rw [hzx,Jzt hq, ← hyx]) hu))))
theorem Jw4 (G:Game) (w:World) (hG:GameOk w G) (hn:NearG G) (p:Pos) (hp:PosOk w p) (m:Move) :
  Calls Tryz.prog 184 #[.agg #[G.rm.pls.v,G.rm.ths.v,G.rm.prs.v,G.rm.wys.v,G.rm.acs.v,G.rm.aus.v,.int .i64 G.rm.ply,G.rm.gl.v,G.lks.v,G.cds.v,G.nts.v,.int .i64 G.tr],.agg #[p.st.ths.v,p.st.prs.v,p.st.pls.v,p.rd.v],.agg #[.int .i64 m.p,.int .i64 m.k,.int .i64 m.n]] w (RetP w (Jan G.p p.x m).2 fun v=>.tuple #[v,.int .i64 (Jan G.p p.x m).1]):=by
 refine enter Tryz.func184 rfl rfl (Nat.le_of_ble_eq_true rfl) ?_
 refine Nz 0 ?_
 refine Wb 0 rfl rfl (fun _=>rfl) (fun _=>rfl) fun b3 hb3=>?_
 refine Wb 0 rfl rfl (fun _=>rfl) (fun _=>rfl) fun b4 hb4=>?_
 refine Wb 0 rfl rfl (fun _=>rfl) (fun _=>rfl) fun b5 hb5=>?_
 refine Wl 1 zv47 (fun _=>rfl) (fun _=>rfl) fun b6 hb6=>?_
 refine Wd (Qc (Nz 0 ?_))
 refine Wk 0 (Bb 3) ?_
 refine Wk 0 (Bb 2) ?_
 refine Wc rfl rfl J9k (fun u hu=>J72 G u (hG.st hu) hn p (hp.toSt hu)) (fun _=>rfl) ?_; rintro ml ⟨uml,hml⟩
 refine Wz 5 ?_
 refine Wd (Qc (Cs (Nz 2 ?_)))
 refine Wd (Qc (CS.cond rfl ?_ ?_))<;>intro hc1<;>try simp only [bq] at hc1
 ·
  have hq:¬ posG G.p p.x=0:=by rw [← J4y]; exact hc1
  refine Nz 0 ?_
  refine Wk 1 (Db Jen zv47) ?_
  refine Wv 1 1 ?_
  refine Wd (Qc (Cr (Qr ?_)))
  exact outR (Jcv rfl (Jak (j:=1) rfl rfl tk47) rfl) (by
    have hv:Jan G.p p.x m=((CanV G.p p.x).1,noP):=by rw [J4y]; exact if_neg hq
    rw [hv]
    exact fun u hu=>Jo4 (f:=fun v=>.tuple #[v,.int .i64 (CanV G.p p.x).1]) hu)
 have hq:posG G.p p.x=0:=by rw [← J4y]; exact hc1
 have hP:=Jei hq
 have hcv:(CanV G.p p.x).2=Jdc G.p p.x:=by rw [show CanV G.p p.x=(0,Jdc G.p p.x) from if_pos hq]
 rw [hcv] at hml ⊢
 have hmn:=Jy9 hP
 refine Ck (Qc (Cs (Nz 1 ?_)))
 refine Wd (Qc (Ce ?_))
 refine CS.loopM (σ:=Int) [7,21,22,23,24,25,26,27,28,29,30,31,32,33,34,35,36] (fun s=>[(10,.int .i64 s)]) (fun _=>_) (fun s=>0≤s∧s≤(Jdc G.p p.x).length∧∀ j:Int,0≤j→j < s→nth (Jdc G.p p.x) j≠m) (fun s=>((Jdc G.p p.x).length - s).toNat) 0 (fun _ _=>rfl) rfl rfl ⟨by omega,by omega,fun j a b ↦ by omega⟩ ?_
 intro i t hs
 obtain ⟨hi1,hi2,hi3⟩:=hs
 refine Cs (Nz 2 ?_)
 refine Wk 1 (Nc (s:=⟨ml,Jdc G.p p.x⟩)) ?_
 refine Wd (Qc (CS.cond rfl ?_ ?_))<;>intro hc2<;>try simp only [bq] at hc2
 ·
  refine Ck (Qc (Cs (Ce (Cs (Dr Jah 2 ?_)))))
  refine Dk 0 (Xc (s:=⟨ml,Jdc G.p p.x⟩)) ?_
  refine Dk 0 (Jjn (jj:=0) (s:=⟨ml,Jdc G.p p.x⟩) rfl rfl rfl ⟨(by omega),(by omega)⟩ rfl tk54) ?_
  refine Dk 0 (Bb 2) ?_
  refine Dk 0 (Jol J4j rfl rfl (Js7 _ _)) ?_
  refine Dd (Qc (CS.cond rfl ?_ ?_))<;>intro hc3<;>try simp only [bq] at hc3
  ·
   have hpb:Ja6 G.p p.x m=true:=by rw [← hc3]; exact Jul hi1 (by omega)
   refine Nz 0 ?_
   refine Wk 0 (Bb 4) ?_
   refine Wk 0 (Bb 3) ?_
   refine Wk 0 (Bb 2) ?_
   refine Wc rfl rfl Kav (fun u hu=>J5k G u (hG.st hu) p (hp.toSt hu) hP m hpb) (fun _=>rfl) ?_; rintro z ⟨hzx,uz,hzok⟩
   obtain ⟨hza,hzb,hzc⟩:=hzok.st.ones
   have hzd:=Sl.one hzok.rd
   refine Wv 1 2 ?_
   refine Wd (Qc (Cr (Qs (Qr (Qr (Qs (Qr ?_)))))))
   exact outR (Jcv rfl (Jak (j:=2) rfl rfl tk47) rfl) (by
     have hv:Jan G.p p.x m=(0,Jd3 G.p p.x m):=(if_pos hq).trans (if_pos hpb)
     rw [hv]
     exact fun u hu=>Jt6 (f:=fun v=>.tuple #[v,.int .i64 0]) (j:=0) rfl hzx hu)
  refine Ck (Qb (Qc (Ny 1 ?_)))
  refine Wk 1 Za ?_
  refine Wd ?_
  exact QS.head (i+1) rfl rfl ⟨⟨by omega,by omega,fun j a b ↦ by
      by_cases e:j=i
      ·
       rw [e]; exact hc3
      exact hi3 j a (by omega)⟩,by omega⟩
 have hnp:=Jxo (m:=m) hP fun j h0 h1=>hi3 j h0 (by omega)
 refine Cv (Qe (Qe (Qx (Qc (Nz 0 ?_)))))
 refine Wk 0 (Db Jen zv47) ?_
 refine Wv 1 1 ?_
 refine Wd (Qc (Cr ?_))
 exact outR (Jcv rfl (Jak (j:=1) rfl rfl tk47) rfl) (by
   have hv:Jan G.p p.x m=(29,noP):=(if_pos hq).trans (if_neg hnp)
   rw [hv]
   exact fun u hu=>Jo4 (f:=fun v=>.tuple #[v,.int .i64 29]) hu)
theorem GoodP.small {G:Game} {p:Pos} (h:GoodP G p):(p.st.ths.l.length≤1000000∧p.st.prs.l.length≤1000000∧p.st.pls.l.length≤1000000)∧p.rd.l.length≤1000000:=by
 have h1:=h.ln
 have h2:=h.nn
 exact ⟨h.inn.small h.ready,by omega⟩
theorem J1m {G:GP} {x:PX} {m:Move} (h:(Jan G x m).1=0):posG G x=0:=by
 unfold Jan at h
 split at h
 ·
  assumption
 exact h
theorem J0u {n:Nat}:(Jeo n).length=n:=by simp [Jeo]
end Go.Proofs.YtbboikncaihafaaGreatDoor
