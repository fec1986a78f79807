/- Merged texts of this proof (walks and plain laws), printed by a program of the prover. -/
import Derived.Test.YtfbfdnoodccgiaaGreatDoorXd
import Derived.Test.YtfbfdnoodccgiaaGreatDoorZw
set_option maxHeartbeats 8000000
namespace Go.Proofs.YtfbfdnoodccgiaaGreatDoor
open Go.RowKit Go.Proofs
set_option maxRecDepth 100000
set_option linter.unusedVariables false
set_option linter.unusedSimpArgs false
theorem Jsv (G:Game) (w:World) (hG:GameOk w G) (hn:NearG G) (g:Sl ByteArray) (hW:GOk w g) (hB:(Jal G.p).1=0) :
  Calls Tryz.prog 30 #[.agg #[G.rm.pls.v,G.rm.ths.v,G.rm.prs.v,G.rm.wys.v,G.rm.acs.v,G.rm.aus.v,.int .i64 G.rm.ply,G.rm.gl.v,G.lks.v,G.cds.v,G.nts.v,.int .i64 G.tr]] w (fun e w'=>∃ x:Nat × Pos,(x.2.x=(Jal G.p).2∧∃ u0,PosOk u0 x.2)∧RetF w (.tuple #[.pointer (some ⟨x.1,0,none⟩),.int .i64 0]) (star [blk x.1 [G.rm.pls.v,G.rm.ths.v,G.rm.prs.v,G.rm.wys.v,G.rm.acs.v,G.rm.aus.v,.int .i64 G.rm.ply,G.rm.gl.v,G.lks.v,G.cds.v,G.nts.v,.int .i64 G.tr,x.2.st.ths.v,x.2.st.prs.v,x.2.st.pls.v,x.2.rd.v,.bool (Jc9 G.p).st,.int .i64 (Jc9 G.p).si,.int .i64 (Jc9 G.p).pa,.int .i64 (Jc9 G.p).en,.int .i64 (Jc9 G.p).hi] 99,roS fun u=>PosOk u x.2]) e w'):=by
 have o1:=Sl.one hG.rm.pls
 have o2:=Sl.one hG.rm.ths
 have o3:=Sl.one hG.rm.prs
 have o4:=Sl.one hG.rm.wys
 have o5:=Sl.one hG.rm.acs
 have o6:=Sl.one hG.rm.aus
 have o7:=Sl.one hG.rm.gl
 have o8:=Sl.one hG.lks
 have o9:=Sl.one hG.cds
 have o10:=Sl.one hG.nts
 refine enter Tryz.func30 rfl rfl (Nat.le_of_ble_eq_true rfl) ?_
 refine Nz 0 ?_
 refine Wb 2 rfl rfl (fun _=>rfl) (fun _=>rfl) fun b1 hb1=>?_
 refine Wd (Qc (Nz 0 ?_))
 refine Wk 0 (Bb 0) ?_
 refine Wc rfl rfl J1u (fun u hu=>Jn1 G u (hG.st hu) g (hW.st hu) hn) (fun _=>rfl) ?_; rintro y ⟨hyx,uy,hyok⟩
 obtain ⟨hya,hyb,hyc⟩:=hyok.st.ones
 have hyd:=Sl.one hyok.rd
 refine Wz 3 ?_
 refine Wl 0 zv97 (fun _=>rfl) (fun _=>rfl) fun b4 hb4=>?_
 refine Wv 1 0 ?_
 refine Wd (Qc (Cs (Nz 2 ?_)))
 refine Wd (Qc (CS.cond rfl ?_ ?_))<;>intro hc1<;>try simp only [bq] at hc1
 ·
  exact absurd hB hc1
 refine Ck (Qc (Nz 0 ?_))
 refine Wk 0 (Bb 2) ?_
 refine Wk 0 (Bb 0) ?_
 refine Wk 0 (Jas J6e zv99 (pcs:=[(0,[G.rm.pls.v,G.rm.ths.v,G.rm.prs.v,G.rm.wys.v,G.rm.acs.v,G.rm.aus.v,.int .i64 G.rm.ply,G.rm.gl.v,G.lks.v,G.cds.v,G.nts.v,.int .i64 G.tr]),(1,[y.st.ths.v,y.st.prs.v,y.st.pls.v,y.rd.v]),(5,[.int .i64 (-1)])]) rfl (CellsOf.agg (CellsOf.agg (CellsOf.one rfl CellsOf.nil))) rfl) ?_
 refine Wb 1 rfl rfl (fun _=>rfl) (fun _=>rfl) fun b18 hb18=>?_
 refine Wd (Qc (Cs (Nz 1 ?_)))
 refine Wk 0 (Cb rfl rfl J6p (fun u hu=>J16 G u (hG.st hu) hn g (hW.st hu) y (hu.ro (j:=2) rfl) { (Jc9 G.p) with en := -1 } hyx (Jk9 hB) b18 _ (Jap hu (j:=0) rfl))) ?_
 refine Wd (Qc (CS.cond rfl ?_ ?_))<;>intro hc2<;>try simp only [bq] at hc2
 ·
  have he:(Jc9 G.p).en=0:=if_pos hc2
  refine Ny 3 ?_
  refine Ws 0 0 ?_
  refine Wd (Qc (Nz 3 ?_))
  exact Wd (Qc (Cr (out2 rfl rfl rfl (fun u hu=>⟨(b18,y),⟨hyx,uy,hyok⟩,by rw [he]; exact Jms (hu.sel [0,1] rfl) (List.Perm.refl _)⟩))))
 have he:(Jc9 G.p).en = -1:=if_neg (fun h=>by have h9:Jke G.p (Jc9 G.p).x=true:=h; rw [hc2] at h9; cases h9)
 refine Ck (Qc (Nz 3 ?_))
 exact Wd (Qc (Cr (out2 rfl rfl rfl (fun u hu=>⟨(b18,y),⟨hyx,uy,hyok⟩,by rw [he]; exact Jms (hu.sel [0,1] rfl) (List.Perm.refl _)⟩))))
theorem Jt5 (G:Game) (w:World) (hG:GameOk w G) (hn:NearG G) (g:Sl ByteArray) (hW:GOk w g) (hB:¬ (Jal G.p).1=0) :
  Calls Tryz.prog 30 #[.agg #[G.rm.pls.v,G.rm.ths.v,G.rm.prs.v,G.rm.wys.v,G.rm.acs.v,G.rm.aus.v,.int .i64 G.rm.ply,G.rm.gl.v,G.lks.v,G.cds.v,G.nts.v,.int .i64 G.tr]] w (RetB w (.tuple #[.pointer none,.int .i64 (Jal G.p).1])):=by
 have o1:=Sl.one hG.rm.pls
 have o2:=Sl.one hG.rm.ths
 have o3:=Sl.one hG.rm.prs
 have o4:=Sl.one hG.rm.wys
 have o5:=Sl.one hG.rm.acs
 have o6:=Sl.one hG.rm.aus
 have o7:=Sl.one hG.rm.gl
 have o8:=Sl.one hG.lks
 have o9:=Sl.one hG.cds
 have o10:=Sl.one hG.nts
 refine enter Tryz.func30 rfl rfl (Nat.le_of_ble_eq_true rfl) ?_
 refine Nz 0 ?_
 refine Wb 2 rfl rfl (fun _=>rfl) (fun _=>rfl) fun b1 hb1=>?_
 refine Wd (Qc (Nz 0 ?_))
 refine Wk 0 (Bb 0) ?_
 refine Wc rfl rfl J1u (fun u hu=>Jn1 G u (hG.st hu) g (hW.st hu) hn) (fun _=>rfl) ?_; rintro y ⟨hyx,uy,hyok⟩
 obtain ⟨hya,hyb,hyc⟩:=hyok.st.ones
 have hyd:=Sl.one hyok.rd
 refine Wz 3 ?_
 refine Wl 0 zv97 (fun _=>rfl) (fun _=>rfl) fun b4 hb4=>?_
 refine Wv 1 0 ?_
 refine Wd (Qc (Cs (Nz 2 ?_)))
 refine Wd (Qc (CS.cond rfl ?_ ?_))<;>intro hc1<;>try simp only [bq] at hc1
 ·
  refine Nz 3 ?_
  exact Wd (Qc (Cr (Qr (out2 rfl rfl rfl (Jac rfl)))))
 exact absurd hc1 hB
section
variable {P:Program} {ro:Option Nat} {n0:Nat} {w0:World} {ds:List Deferred} {ops:Array Oper} {Q:Exit→Act→World→Prop} {L:List SA} {rest:List Oper} {l:List Value}
theorem WS.ex {β:Type} {f:β→SA} (k:∀ b,WS P ro n0 w0 ds ops Q (f b::L) rest l):WS P ro n0 w0 ds ops Q (exS f::L) rest l:=fun u hu=>let ⟨b,hb⟩:=hu.ex; k b u hb
theorem WS.factE {p:Prop} {j:Nat} (hj:L[j]? = some (fact p)) (kk:p→WS P ro n0 w0 ds ops Q L rest l):WS P ro n0 w0 ds ops Q L rest l:=fun u hu=>kk (hu.factE hj) u hu
end
theorem Jqb (G:Game) (w:World) (hG:GameOk w G) (hn:NearG G) (g:Sl ByteArray) (hW:GOk w g) (ms:Sl Timed) (hk:SlT cTimed w ms) (hml:ms.l.length≤1000) (hB:(Jal G.p).1=0) :
  Calls Tryz.prog 12 #[.agg #[G.rm.pls.v,G.rm.ths.v,G.rm.prs.v,G.rm.wys.v,G.rm.acs.v,G.rm.aus.v,.int .i64 G.rm.ply,G.rm.gl.v,G.lks.v,G.cds.v,G.nts.v,.int .i64 G.tr],ms.v] w (RetT cEntry w (Jay G.p ms.l).2.2 fun v=>.tuple #[v,.int .i64 (Jay G.p ms.l).2.1,.int .i64 (Jay G.p ms.l).1]):=by
 have lls:=hk.le
 refine enter Tryz.func12 rfl rfl (Nat.le_of_ble_eq_true rfl) ?_
 refine Nz 0 ?_
 refine Wb 3 rfl rfl (fun _=>rfl) (fun _=>rfl) fun b2 hb2=>?_
 refine Wd (Qc (Nz 0 ?_))
 refine Wk 0 (Bb 0) ?_
 refine Wc rfl rfl J3b (fun u hu=>Jsv G u (hG.st hu) hn g (hW.st hu) hB) (fun _=>rfl) ?_; rintro ⟨fb,y⟩ ⟨hyx,uy,hyok⟩
 refine WS.unpack ?_
 refine Wz 5 ?_
 refine Wd (Qc (Cs (Nz 2 ?_)))
 refine Wd (Qc (CS.cond rfl ?_ ?_))<;>intro hc1<;>try simp only [bq] at hc1
 ·
  exact absurd trivial hc1
 refine Ck (Qc (Nz 1 ?_))
 refine Wd (Qc (Cs (Nz 1 ?_)))
 refine Wk 1 Nc ?_
 refine Wd (Qc (Ce ?_))
 refine CS.weak (fun _ hu=>hu.osl0 (e:=56) (size:=7)) ?_
 refine CS.loopM (σ:=Int × Int × Pos × Value × List Entr) [5,6,9,10,11,12,13,25,26,27,28,29,30,31,32,33,34,35,36,37,38,39,40,41,42,43,44,45,46,47,48,49,50,51,52,53,54,55,56,57,58,59,60,61,62,63,64,65,66,67,68,69,70,71,72,73,74,75,76,77,78,79,80,81,82,83,84,85] (fun s=>[(24,.int .i64 s.1),(8,.int .i64 s.2.1),(4,s.2.2.2.1)]) (fun s=>[oT cEntry 56 s.2.2.2.1 s.2.2.2.2,blk fb [G.rm.pls.v,G.rm.ths.v,G.rm.prs.v,G.rm.wys.v,G.rm.acs.v,G.rm.aus.v,.int .i64 G.rm.ply,G.rm.gl.v,G.lks.v,G.cds.v,G.nts.v,.int .i64 G.tr,s.2.2.1.st.ths.v,s.2.2.1.st.prs.v,s.2.2.1.st.pls.v,s.2.2.1.rd.v,.bool ({ Jc9 G.p with x:=s.2.2.1.x }:Film).st,.int .i64 ({ Jc9 G.p with x:=s.2.2.1.x }:Film).si,.int .i64 ({ Jc9 G.p with x:=s.2.2.1.x }:Film).pa,.int .i64 ({ Jc9 G.p with x:=s.2.2.1.x }:Film).en,.int .i64 ({ Jc9 G.p with x:=s.2.2.1.x }:Film).hi] 99,roS fun u=>PosOk u s.2.2.1,blk b2 [G.rm.pls.v,G.rm.ths.v,G.rm.prs.v,G.rm.wys.v,G.rm.acs.v,G.rm.aus.v,.int .i64 G.rm.ply,G.rm.gl.v,G.lks.v,G.cds.v,G.nts.v,.int .i64 G.tr] 48]) (fun s=>0≤s.1∧s.1≤ms.l.length∧(∃ u0,PosOk u0 s.2.2.1)∧posG G.p s.2.2.1.x=0∧(s.2.2.2.2.length:Int)≤16 * s.1∧True∧recF G.p ms.l 0 0 (Jal G.p).2 []=recF G.p (ms.l.drop s.1.toNat) s.1 s.2.1 s.2.2.1.x s.2.2.2.2) (fun s=>(ms.l.length - s.1).toNat) (0,0,y,.slice none 0 0,[]) (fun _ _=>rfl) rfl rfl ⟨by simp,by simp,⟨_,hyok⟩,by rw [hyx]; exact Jk9 hB,by simp,trivial,by rw [hyx]; simp⟩ ?_
 intro a t hs
 obtain ⟨ha1,ha2,⟨ua,haok⟩,ha4,ha5,ha6,ha7⟩:=hs
 obtain ⟨haa,hab,hac⟩:=haok.st.ones
 have had:=Sl.one haok.rd
 have hnth:=hn.rm.ths
 have hahn:a.2.2.1.st.ths.l.length=G.rm.ths.l.length:=Jil ha4
 refine Nz 1 ?_
 refine Wd (Qc (Cs (CS.cond rfl ?_ ?_)))<;>intro hc2<;>try simp only [bq] at hc2
 ·
  refine Ck (Qc (Cs (Ce (Nz 1 ?_))))
  refine Wk 0 Xc ?_
  refine Wk 0 Ua ?_
  refine Wl 1 zv53 (fun _=>rfl) (fun _=>rfl) fun b10 hb10=>?_
  refine Wv 0 0 ?_
  refine Wd (Qc (Cs (Nz 1 ?_)))
  refine Wk 1 (Ba 0) ?_
  refine Wk 1 (Cb rfl rfl Jxu (fun u hu=>Jff _ _ _ u)) ?_
  refine Wd (Qc (CS.cond rfl ?_ ?_))<;>intro hc3<;>try simp only [bq] at hc3
  ·
   have hTn:¬ (a.2.1≤(nth ms.l a.1).t∧(nth ms.l a.1).t≤1000000):=by have h9:=hc3; first | omega | (simp at h9; omega)
   refine Nz 4 ?_
   refine Wd (Qc (Cr (Qr (Qs (Qr (Qr (Qs (Qr ?_))))))))
   exact out3 rfl rfl rfl rfl (by
     have hv:(Jay G.p ms.l)=(1,a.1,[]):=Joo hB (by decide) (by rw [ha7,Jbd ha1 (by omega),Juy hTn])
     rw [hv]
     exact fun u hu=>Jqj (C:=cEntry) (f:=fun v=>.tuple #[v,.int .i64 a.1,.int .i64 1]) hu)
  have hTy:a.2.1≤(nth ms.l a.1).t∧(nth ms.l a.1).t≤1000000:=by have h9:=hc3; first | omega | (simp at h9; omega)
  refine Ck (Qc (Nz 1 ?_))
  refine Wk 1 (Ba 0) ?_
  refine Wd (Qc (Nz 5 ?_))
  refine Wk 0 (Ba 2) ?_
  refine Wc rfl rfl Jfj (fun u hu=>Jbp _ _ u ((hu.ro (j:=3) rfl).st.ths.ints) (by show a.2.2.1.st.ths.l.length≤1000000; omega)) (fun _=>rfl) ?_; intro v43 hv43
  refine Wz 1 ?_
  refine Wd (Qc (Cs (Nz 2 ?_)))
  refine Wk 0 (Bc 1) ?_
  refine WS.callS rfl rfl J57 (fun u hu=>Jwo [_,_,_] [_] G hG hn g hW fb a.2.2.1 ({ Jc9 G.p with x:=a.2.2.1.x }) rfl ha4 (nth ms.l a.1).m hu) (fun _=>rfl) ?_; rintro z ⟨hzx,uz,hzok⟩
  obtain ⟨hza,hzb,hzc⟩:=hzok.st.ones
  have hzd:=Sl.one hzok.rd
  dsimp only at hzx
  refine Wz 1 ?_
  refine Wd (Qc (CS.cond rfl ?_ ?_))<;>intro hc4<;>try simp only [bq] at hc4
  ·
   have hSn:¬ (Jam G.p a.2.2.1.x (nth ms.l a.1).m).1=0:=by first | exact hc4 | simpa using hc4
   refine Nz 4 ?_
   refine Wd (Qc (Cr (Qr (Qs (Qr (Qr (Qs (Qr ?_))))))))
   exact out3 rfl rfl rfl rfl (by
     have hv:(Jay G.p ms.l)=(29,a.1,[]):=Joo hB (by decide) (by rw [ha7,Jbd ha1 (by omega),Jsc hTy hSn])
     rw [hv]
     exact fun u hu=>Jqj (C:=cEntry) (f:=fun v=>.tuple #[v,.int .i64 a.1,.int .i64 29]) hu)
  have hS:(Jam G.p a.2.2.1.x (nth ms.l a.1).m).1=0:=by first | exact hc4 | simpa using hc4
  rw [if_pos hS] at hzx
  have hgd:=Jj6 (p:=Jry a.2.2.1.x) hS
  have hzq:posG G.p z.x=0:=by rw [hzx]; exact hgd.2.2
  have hzn:z.st.ths.l.length=G.rm.ths.l.length:=Jil hzq
  have hzl:z.st.ths.l=(Jam G.p a.2.2.1.x (nth ms.l a.1).m).2.1.1:=by rw [← hzx]; rfl
  refine Ck (Qc (Nz 2 ?_))
  refine Wk 1 (Ba 1) ?_
  refine Wk 0 (Bc 1) ?_
  refine Wk 0 (Jas Jvh zv56 (pcs:=[(0,[.int .i64 (nth ms.l a.1).t]),(1,[.int .i64 1]),(2,[.int .i64 (nth ms.l a.1).m.p,.int .i64 (nth ms.l a.1).m.k,.int .i64 (nth ms.l a.1).m.n])]) rfl (CellsOf.one rfl (CellsOf.one rfl (CellsOf.agg CellsOf.nil))) rfl) ?_
  refine WS.buildT1 cEntry (a:=(⟨(nth ms.l a.1).t,1,(nth ms.l a.1).m,0,0⟩:Entr)) sl23 zv56 rfl (by decide) (fun _=>rfl) ?_; intro v56
  refine WS.appendT1 (C:=cEntry) (a:=(⟨(nth ms.l a.1).t,1,(nth ms.l a.1).m,0,0⟩:Entr)) (j:=3) (jz:=0) sl23 zv56 rfl (by decide) rfl rfl rfl rfl (w:=w) trivial (by omega) (by omega) (fun _=>rfl) (fun _=>rfl) ?_; intro v57 hv57
  refine Wz 1 ?_
  refine Wd (Qc (Nz 5 ?_))
  refine Wk 0 (Ba 4) ?_
  refine Wk 1 (Jnx (s:=z.st.ths) sl86 rfl hzok.st.ths) ?_
  refine Wd (Qc (Ce ?_))
  refine CS.sel [3,1,1,1,1,1] rfl ?_
  refine CS.loopM (σ:=Int × Value) [12,13,66,67,68,69,70,71,72,73,74,75,76,77,78,79,80,81,82,83,84] (fun s=>[(65,.int .i64 s.1),(4,s.2)]) (fun s=>[oT cEntry 56 s.2 (a.2.2.2.2++⟨(nth ms.l a.1).t,1,(nth ms.l a.1).m,0,0⟩::Jdc (nth ms.l a.1).t a.2.2.1.x.1.1 (Jam G.p a.2.2.1.x (nth ms.l a.1).m).2.1.1 s.1),oints 3 v43 a.2.2.1.st.ths.l,blk b10 (cTimed.cells (nth ms.l a.1)) 53,blk fb [G.rm.pls.v,G.rm.ths.v,G.rm.prs.v,G.rm.wys.v,G.rm.acs.v,G.rm.aus.v,.int .i64 G.rm.ply,G.rm.gl.v,G.lks.v,G.cds.v,G.nts.v,.int .i64 G.tr,z.st.ths.v,z.st.prs.v,z.st.pls.v,z.rd.v,.bool ({ Jc9 G.p with x:=z.x }:Film).st,.int .i64 ({ Jc9 G.p with x:=z.x }:Film).si,.int .i64 ({ Jc9 G.p with x:=z.x }:Film).pa,.int .i64 ({ Jc9 G.p with x:=z.x }:Film).en,.int .i64 ({ Jc9 G.p with x:=z.x }:Film).hi] 99,roS fun u=>PosOk u z,blk b2 [G.rm.pls.v,G.rm.ths.v,G.rm.prs.v,G.rm.wys.v,G.rm.acs.v,G.rm.aus.v,.int .i64 G.rm.ply,G.rm.gl.v,G.lks.v,G.cds.v,G.nts.v,.int .i64 G.tr] 48]) (fun s=>0≤s.1∧s.1≤z.st.ths.l.length) (fun s=>(z.st.ths.l.length - s.1).toNat) (0,v57) (fun _ _=>rfl) rfl rfl ⟨by simp,by simp⟩ ?_
  intro q t hs
  obtain ⟨hq1,hq2⟩:=hs
  refine Nz 1 ?_
  refine Wd (Qc (Cs (CS.cond rfl ?_ ?_)))<;>intro hc5<;>try simp only [bq] at hc5
  ·
   have hql:q.1 < (z.st.ths.l.length:Int):=by first | exact hc5 | simpa using hc5
   have hsl:=Jio (t:=(nth ms.l a.1).t) (old:=a.2.2.1.x.1.1) (new:=(Jam G.p a.2.2.1.x (nth ms.l a.1).m).2.1.1) (k:=q.1)
   have hcl:(a.2.2.2.2++⟨(nth ms.l a.1).t,1,(nth ms.l a.1).m,0,0⟩::Jdc (nth ms.l a.1).t a.2.2.1.x.1.1 (Jam G.p a.2.2.1.x (nth ms.l a.1).m).2.1.1 q.1).length=a.2.2.2.2.length+1+(Jdc (nth ms.l a.1).t a.2.2.1.x.1.1 (Jam G.p a.2.2.1.x (nth ms.l a.1).m).2.1.1 q.1).length:=by simp; omega
   refine Ck (Qc (Cs (Ce (Nz 1 ?_))))
   refine Wk 0 (Ji1 (s:=z.st.ths) sl86 rfl rfl hzok.st.ths rfl (by omega) (by omega)) ?_
   refine Wk 2 (Jvj 4 (s:=z.st.ths) rfl (fun _ h ↦ h.st.ths) rfl rfl ⟨by omega,by omega⟩ rfl tk3) ?_
   refine Wd (Qc (Nz 3 ?_))
   refine Wk 0 (Xb 1) ?_
   refine Wk 1 (Jgn (j:=1) rfl rfl ⟨by omega,by omega⟩ tk3) ?_
   refine Wd (Qc (CS.cond rfl ?_ ?_))<;>intro hc6<;>try simp only [bq] at hc6
   ·
    have hne:¬ nth (Jam G.p a.2.2.1.x (nth ms.l a.1).m).2.1.1 q.1=nth a.2.2.1.x.1.1 q.1:=by rw [← hzl]; first | exact hc6 | simpa using hc6
    refine Ny 2 ?_
    refine Wk 2 (Ba 2) ?_
    refine Wk 0 (Jas Jvh zv56 (pcs:=[(0,[.int .i64 (nth ms.l a.1).t]),(1,[.int .i64 5]),(3,[.int .i64 q.1]),(4,[.int .i64 (nth z.st.ths.l q.1)])]) rfl (CellsOf.one rfl (CellsOf.one rfl (CellsOf.one rfl (CellsOf.one rfl CellsOf.nil)))) rfl) ?_
    refine WS.buildT1 cEntry (a:=⟨(nth ms.l a.1).t,5,mv0,q.1,nth z.st.ths.l q.1⟩) sl23 zv56 rfl (by decide) (fun _=>rfl) ?_; intro v82
    refine WS.appendT1 (C:=cEntry) (a:=⟨(nth ms.l a.1).t,5,mv0,q.1,nth z.st.ths.l q.1⟩) (j:=1) (jz:=0) sl23 zv56 rfl (by decide) rfl rfl rfl rfl (w:=w) trivial (by omega) (by omega) (fun _=>rfl) (fun _=>rfl) ?_; intro v83 hv83
    refine Wz 1 ?_
    refine Wd (Qb (Qc (Ny 0 ?_)))
    refine Wk 1 Za ?_
    refine Wd ?_
    refine QS.sel [1,1,1,1,1,1] rfl ?_
    exact QS.head ((q.1+1,v83)) rfl (by first | simp only [← Jih hq1 hne,hzl,List.append_assoc,List.cons_append,List.nil_append] | simp only [← Jjt hq1 heq]) ⟨⟨by simp; omega,by simp; omega⟩,by simp; omega⟩
   have heq:nth (Jam G.p a.2.2.1.x (nth ms.l a.1).m).2.1.1 q.1=nth a.2.2.1.x.1.1 q.1:=by rw [← hzl]; first | exact hc6 | simpa using hc6
   refine Ck (Qb (Qc (Ny 0 ?_)))
   refine Wk 1 Za ?_
   exact Wd (QS.head ((q.1+1,q.2)) rfl (by first | simp only [← Jih hq1 hne,hzl,List.append_assoc,List.cons_append,List.nil_append] | simp only [← Jjt hq1 heq]) ⟨⟨by simp; omega,by simp; omega⟩,by simp; omega⟩)
  have hqe:q.1=(Jam G.p a.2.2.1.x (nth ms.l a.1).m).2.1.1.length:=by rw [← hzl]; omega
  have hsl:=Jio (t:=(nth ms.l a.1).t) (old:=a.2.2.1.x.1.1) (new:=(Jam G.p a.2.2.1.x (nth ms.l a.1).m).2.1.1) (k:=q.1)
  rw [← hzl] at hqe
  have hse:=Jpy (t:=(nth ms.l a.1).t) (old:=a.2.2.1.x.1.1) (new:=(Jam G.p a.2.2.1.x (nth ms.l a.1).m).2.1.1) (k:=q.1) (by rw [← hzl]; exact hqe)
  refine Cv (Qe (Qe (Qx (Qb (Qc (Ny 0 ?_))))))
  refine Wk 1 Za ?_
  refine Wd ?_
  refine QS.sel [0,2,2,2] rfl ?_
  exact QS.head ((a.1+1,(nth ms.l a.1).t,z,q.2,(a.2.2.2.2++⟨(nth ms.l a.1).t,1,(nth ms.l a.1).m,0,0⟩::Jdc (nth ms.l a.1).t a.2.2.1.x.1.1 (Jam G.p a.2.2.1.x (nth ms.l a.1).m).2.1.1 q.1))) rfl rfl ⟨⟨by simp; omega,by simp; omega,⟨_,hzok⟩,hzq,by simp; omega,trivial,by rw [ha7,Jbd ha1 (by omega),Jn7 hTy hS,hse, ← hzx]⟩,by simp; omega⟩
 have hrn:recF G.p ms.l 0 0 (Jal G.p).2 []=(0,0,a.2.2.2.2,a.2.2.1.x):=by rw [ha7,List.drop_of_length_le (by omega),recF]
 refine Cv (Qe (Qe (Qx (Qc (Cs (Nz 1 ?_))))))
 refine Wk 1 (Jsu (j:=0) sl23 rfl rfl) ?_
 refine Wd (Qc (CS.cond rfl ?_ ?_))<;>intro hc7<;>try simp only [bq] at hc7
 ·
  refine Nz 3 ?_
  refine Wd (Qc (Cr (Qr ?_)))
  exact out3 rfl rfl rfl rfl (by
    have hv:(Jay G.p ms.l)=(2,0,[]):=Jwy hB hrn (by omega)
    rw [hv]
    exact fun u hu=>Jqj (C:=cEntry) (f:=fun v=>.tuple #[v,.int .i64 0,.int .i64 2]) hu)
 refine Ck (Qc (Nz 4 ?_))
 refine Wd (Qc (Cr ?_))
 exact out3 rfl rfl rfl rfl (by
   have hv:(Jay G.p ms.l)=(0,0,a.2.2.2.2):=Jop hB hrn (by omega)
   rw [hv]
   exact fun u hu=>retT (C:=cEntry) (f:=fun v=>.tuple #[v,.int .i64 0,.int .i64 0]) (j:=0) (fun _ _ _=>trivial) rfl hu)
theorem Jpl (G:Game) (w:World) (hG:GameOk w G) (hn:NearG G) (g:Sl ByteArray) (hW:GOk w g) (ms:Sl Timed) (hk:SlT cTimed w ms) (hml:ms.l.length≤1000) (hB:¬ (Jal G.p).1=0) :
  Calls Tryz.prog 12 #[.agg #[G.rm.pls.v,G.rm.ths.v,G.rm.prs.v,G.rm.wys.v,G.rm.acs.v,G.rm.aus.v,.int .i64 G.rm.ply,G.rm.gl.v,G.lks.v,G.cds.v,G.nts.v,.int .i64 G.tr],ms.v] w (RetT cEntry w (Jay G.p ms.l).2.2 fun v=>.tuple #[v,.int .i64 (Jay G.p ms.l).2.1,.int .i64 (Jay G.p ms.l).1]):=by
 refine enter Tryz.func12 rfl rfl (Nat.le_of_ble_eq_true rfl) ?_
 refine Nz 0 ?_
 refine Wb 3 rfl rfl (fun _=>rfl) (fun _=>rfl) fun b2 hb2=>?_
 refine Wd (Qc (Nz 0 ?_))
 refine Wk 0 (Bb 0) ?_
 refine Wk 5 (Cb rfl rfl J3b (fun u hu=>Jt5 G u (hG.st hu) hn g (hW.st hu) hB)) ?_
 refine Wd (Qc (Cs (Nz 2 ?_)))
 refine Wd (Qc (CS.cond rfl ?_ ?_))<;>intro hc1<;>try simp only [bq] at hc1
 ·
  refine Nz 4 ?_
  refine Wd (Qc (Cr (Qr ?_)))
  exact out3 rfl rfl rfl rfl (by
    have hv:(Jay G.p ms.l)=((Jal G.p).1,0,[]):=Jv3 hB
    rw [hv]
    exact fun u hu=>Jqj (C:=cEntry) (f:=fun v=>.tuple #[v,.int .i64 0,.int .i64 (Jal G.p).1]) hu)
 exact absurd hc1 hB
theorem Jr4 (G:Game) (w:World) (hG:GameOk w G) (hn:NearG G) (g:Sl ByteArray) (hW:GOk w g) (ms:Sl Timed) (hk:SlT cTimed w ms) (hml:ms.l.length≤1000) :
  Calls Tryz.prog 12 #[.agg #[G.rm.pls.v,G.rm.ths.v,G.rm.prs.v,G.rm.wys.v,G.rm.acs.v,G.rm.aus.v,.int .i64 G.rm.ply,G.rm.gl.v,G.lks.v,G.cds.v,G.nts.v,.int .i64 G.tr],ms.v] w (RetT cEntry w (Jay G.p ms.l).2.2 fun v=>.tuple #[v,.int .i64 (Jay G.p ms.l).2.1,.int .i64 (Jay G.p ms.l).1]):=by
 by_cases hB:(Jal G.p).1=0
 ·
  exact Jqb G w hG hn g hW ms hk hml hB
 exact Jpl G w hG hn g hW ms hk hml hB
theorem Jtp:(Jam exG.p (([0,0],[0],[0]),[true,true,false]) ⟨0,4,0⟩).1=0∧(Jam exG.p (([0,0],[0],[0]),[true,true,false]) ⟨0,4,0⟩).2.1.1=[1,0]:=by
 unfold Jam
 rw [J4v,if_pos rfl]
 exact ⟨by kernel_rfl,by kernel_rfl⟩
def Jlj:List Entr:=[⟨5,1,⟨0,4,0⟩,0,0⟩,⟨5,5,mv0,0,1⟩]
theorem J6l:Jay exG.p [⟨5,⟨0,4,0⟩⟩]=(0,0,Jlj):=by
 have hB:(Jal exG.p).1=0:=by rw [Joi]
 have hx:(Jal exG.p).2=(([0,0],[0],[0]),[true,true,false]):=by rw [Joi]
 refine Jop hB (o:=Jlj) (x:=(Jam exG.p (([0,0],[0],[0]),[true,true,false]) ⟨0,4,0⟩).2) ?_ (by decide)
 rw [hx,Jn7 ⟨by decide,by decide⟩ Jtp.1,recF]
 show (0,0,[]++(⟨5,1,⟨0,4,0⟩,0,0⟩:Entr)::Joh 5 [0,0] (Jam exG.p (([0,0],[0],[0]),[true,true,false]) ⟨0,4,0⟩).2.1.1,_)=_
 rw [Jtp.2]; rfl
theorem Jiy (w:World) (g:Sl ByteArray) (hW:GOk w g):Calls Tryz.prog 5 #[] w (RetB w (.bool true)):=by
 refine enter Tryz.func5 rfl rfl (Nat.le_of_ble_eq_true rfl) ?_
 refine Nz 1 ?_
 refine Wd (Qc (Nz 0 ?_))
 refine Wc rfl rfl J6a (fun u hu=>Jqe u) (fun _=>rfl) ?_; rintro c ⟨hcp,uc,hcok⟩
 have hnc:=J4z hcp Jz9
 have o1:=Sl.one hcok.rm.pls
 have o2:=Sl.one hcok.rm.ths
 have o3:=Sl.one hcok.rm.prs
 have o4:=Sl.one hcok.rm.wys
 have o5:=Sl.one hcok.rm.acs
 have o6:=Sl.one hcok.rm.aus
 have o7:=Sl.one hcok.rm.gl
 have o8:=Sl.one hcok.lks
 have o9:=Sl.one hcok.cds
 have o10:=Sl.one hcok.nts
 refine Wk 0 (Db J42 zv51) ?_
 refine Wk 0 (Jas J6g zv53 (pcs:=[(0,[.int .i64 5]),(1,[.int .i64 0,.int .i64 4,.int .i64 0])]) rfl (CellsOf.one rfl (CellsOf.agg CellsOf.nil)) rfl) ?_
 refine WS.buildT1 cTimed (a:=⟨5,⟨0,4,0⟩⟩) sl54 zv53 rfl (by decide) (fun _=>rfl) ?_; intro v8
 refine Wc rfl rfl J5e (fun u hu=>(by have q:=Jr4 c u (hu.ro (j:=1) rfl) hnc g (hW.st hu) ⟨v8,[⟨5,⟨0,4,0⟩⟩]⟩ ⟨Jb1 hu (j:=0) rfl,fun _ _ ↦ trivial⟩ (by show (1:Nat)≤1000; decide); rw [hcp,J6l] at q; exact q)) (fun _=>rfl) ?_; rintro v9 ⟨u9,h9⟩
 refine Wz 7 ?_
 refine Wd (Qc (Nz 3 ?_))
 refine Wt 0 rfl rfl (fun hg=>Fm) ?_
 refine Wt 0 rfl rfl (fun hg=>Nc (s:=⟨v9,Jlj⟩) (eg_ hg rfl)) ?_
 refine Wt 0 rfl rfl (fun hg=>Fq) ?_
 refine Wk 1 Pa ?_
 refine Wt 0 rfl rfl (fun hg=>Fm) ?_
 refine Wt 0 rfl rfl (fun hg=>Ji1 (s:=⟨v9,Jlj⟩) (i:=1) sl23 (eg_ hg rfl) rfl h9 rfl (by decide) (by show (1:Int) < 2; decide)) ?_
 refine Wt 0 rfl rfl (fun hg=>Jw1 (jj:=0) (s:=⟨v9,Jlj⟩) (i:=1) rfl (eg_ hg rfl) rfl ⟨by decide,by show (1:Int) < 2; decide⟩ rfl tk56) ?_
 refine Wt 0 rfl rfl (fun hg=>Db Jvh zv56) ?_
 refine Wt 0 rfl rfl (fun hg=>Jqc Jlm (eg_ hg rfl) (eg_ hg rfl) (Jg0 (nth Jlj 1) ⟨5,5,mv0,0,1⟩)) ?_
 refine Wk 1 Pa ?_
 exact Wd (Qc (Cr (out1 rfl rfl (Jac (by first | rfl | simp [Jlj])))))
end Go.Proofs.YtfbfdnoodccgiaaGreatDoor
