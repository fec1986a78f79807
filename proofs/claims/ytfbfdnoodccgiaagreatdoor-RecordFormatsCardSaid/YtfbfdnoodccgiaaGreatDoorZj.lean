/- Merged texts of this proof (walks and plain laws), printed by a program of the prover. -/
import Derived.Test.YtfbfdnoodccgiaaGreatDoorZi
import Derived.Test.YtfbfdnoodccgiaaGreatDoorZb
set_option maxHeartbeats 8000000
namespace Go.Proofs.YtfbfdnoodccgiaaGreatDoor
open Go.RowKit Go.Proofs
set_option maxRecDepth 100000
set_option linter.unusedVariables false
set_option linter.unusedSimpArgs false
structure TabOk (w:World) (tb:Nat) (r:Room) (z:Stt):Prop where
 blk:BlkAt w tb [r.pls.v,r.ths.v,r.prs.v,r.wys.v,r.acs.v,r.aus.v,.int .i64 r.ply,r.gl.v,z.ths.v,z.prs.v,z.pls.v] 217
 room:RoomOk w r
 st:SttOk w z
theorem TabOk.ext {w u:World} {tb:Nat} {r:Room} {z:Stt} (h:TabOk w tb r z) (hb:Below w.heap.size w u):TabOk u tb r z:=⟨h.blk.ext hb,h.room.ext hb,h.st.ext hb⟩
theorem TabOk.stt {w u:World} {L:List SA} {tb:Nat} {r:Room} {z:Stt} (h:TabOk w tb r z) (hu:St w.heap.size w L u):TabOk u tb r z:=h.ext hu.below
theorem Jbp (xs:List Int) (v:Value) (w:World) (h1:SlI w v xs) (hm:xs.length≤1000000) :
  Calls Tryz.prog 31 #[v] w (fun e w'=>∃ v':Value,v'.oneCell'=true∧RetF w v' (oints 3 v' xs) e w'):=by
 obtain ⟨hl,p,cap,rfl,hcap,hp⟩:=h1
 have h1:SlI w (.slice p xs.length cap) xs:=⟨hl,p,cap,rfl,hcap,hp⟩
 clear hl hcap hp
 refine enter Tryz.func31 rfl rfl (Nat.le_of_ble_eq_true rfl) ?_
 refine Nz 1 ?_
 refine Wd (Qc (Cs (Nz 1 ?_)))
 refine Wk 0 (Jkb sl86 rfl rfl) ?_
 refine Wd (Qc (CS.cond rfl ?_ ?_))<;>intro hc1<;>try simp only [bq] at hc1
 ·
  have hx0:xs=[]:=by
   have:p=none:=by simpa using hc1
   subst this
   exact List.eq_nil_of_length_eq_zero (SlC.nil h1)
  subst hx0
  refine Nz 1 ?_
  exact Wd (Qc (Cr (Qr (out1 rfl rfl (fun u hu=>⟨_,rfl,retF (j:=0) rfl u hu.osl0⟩)))))
 refine Ck (Qc (Nz 0 ?_))
 refine WS.build0 sl86 zv3 (fun _=>rfl) ?_; intro v5
 refine Wz 1 ?_
 refine WS.append0 (j:=0) (news:=ints xs) (m:=xs.length) sl86 zv3 rfl (by decide) rfl rfl rfl (fun u hu=>h1.st hu) (by simp [ints,Value.oneCell']) (by omega) (by omega) (fun _=>rfl) (fun _=>rfl) ?_; intro v7; refine WS.oc (j:=0) rfl (fun hv7=>?_)
 refine Wz 1 ?_
 exact Wd (Qc (Cr (out1 rfl rfl (fun u hu=>⟨v7,hv7,retF (j:=0) rfl u hu⟩))))
theorem Js9 (r:Room) (w:World) (hr:RoomOk w r) (z:Stt) (hz:SttOk w z) (hm:z.ths.l.length≤1000000∧z.prs.l.length≤1000000∧z.pls.l.length≤1000000) :
  Calls Tryz.prog 86 #[.agg #[r.pls.v,r.ths.v,r.prs.v,r.wys.v,r.acs.v,r.aus.v,.int .i64 r.ply,r.gl.v],.agg #[z.ths.v,z.prs.v,z.pls.v]] w (fun e w'=>∃ x:Nat × Value × Value × Value,(x.2.1.oneCell'=true∧x.2.2.1.oneCell'=true∧x.2.2.2.oneCell'=true) ∧
   RetF w (.pointer (some ⟨x.1,0,none⟩)) (star [blk x.1 [r.pls.v,r.ths.v,r.prs.v,r.wys.v,r.acs.v,r.aus.v,.int .i64 r.ply,r.gl.v,x.2.1,x.2.2.1,x.2.2.2] 217,oints 3 x.2.1 z.ths.l,oints 3 x.2.2.1 z.prs.l,oints 3 x.2.2.2 z.pls.l]) e w'):=by
 have zth:=hz.ths.ints
 have zpr:=hz.prs.ints
 have zpl:=hz.pls.ints
 have o1:=Sl.one hr.pls
 have o2:=Sl.one hr.ths
 have o3:=Sl.one hr.prs
 have o4:=Sl.one hr.wys
 have o5:=Sl.one hr.acs
 have o6:=Sl.one hr.aus
 have o7:=Sl.one hr.gl
 refine enter Tryz.func86 rfl rfl (Nat.le_of_ble_eq_true rfl) ?_
 refine Nz 0 ?_
 refine Wb 0 rfl rfl (fun _=>rfl) (fun _=>rfl) fun b2 hb2=>?_
 refine Wb 1 rfl rfl (fun _=>rfl) (fun _=>rfl) fun b3 hb3=>?_
 refine Wd (Qc (Cs ?_))
 refine CS.drawnAll (k:=14) mixed rfl rfl ?_
 refine Ak 0 [1] rfl (Bb 1) ?_
 refine Ak 2 [4] rfl (Ba 0) ?_
 refine Ak 5 [7] rfl (Ba 0) ?_
 refine Ak 8 [] rfl (Ba 0) ?_
 refine Ao 3 rfl ?_
 refine Wc rfl rfl Jfj (fun u hu=>Jbp _ _ u (zth.st hu) (by omega)) (fun _=>rfl) ?_; intro v8 hv8
 refine Wd (Qa ?_)
 refine Ao 6 rfl ?_
 refine Wc rfl rfl Jfj (fun u hu=>Jbp _ _ u (zpr.st hu) (by omega)) (fun _=>rfl) ?_; intro v11 hv11
 refine Wd (Qa ?_)
 refine Ao 9 rfl ?_
 refine Wc rfl rfl Jfj (fun u hu=>Jbp _ _ u (zpl.st hu) (by omega)) (fun _=>rfl) ?_; intro v14 hv14
 refine Wd (Qa ?_)
 refine Ak 10 [] rfl (Db Jhs zv94) ?_
 refine Ak 11 [] rfl (Jh7 J31 J6k (parts:=[(0,.agg (List.toArray [r.pls.v,r.ths.v,r.prs.v,r.wys.v,r.acs.v,r.aus.v,.int .i64 r.ply,r.gl.v])),(1,.agg (List.toArray [v8,v11,v14]))]) rfl (J6d (p:=[r.pls.v,r.ths.v,r.prs.v,r.wys.v,r.acs.v,r.aus.v,.int .i64 r.ply,r.gl.v]) (q:=[v8,v11,v14]) rfl rfl rfl rfl)) ?_
 refine Ao 12 rfl ?_
 refine Wb 0 rfl rfl (fun _=>rfl) (fun _=>rfl) fun b17 hb17=>?_
 refine Wd (Qa ?_)
 refine Ar [13] ?_
 refine Ae ?_
 exact Qc (Cr (out1 rfl rfl (fun u hu=>⟨(b17,v8,v11,v14),⟨hv8,hv11,hv14⟩,Jms (hu.sel [0,2,1,0] rfl) (List.Perm.refl _)⟩)))
theorem Jvi (tb:Nat) (r:Room) (z:Stt) (w:World) (hT:TabOk w tb r z) (b1:Nat) (e1:TypeId) (h1:BlkAt w b1 [.pointer (some ⟨tb,0,none⟩)] e1) (x:Lit) (hb:0≤x.t∧x.t < z.ths.l.length) :
  Calls Tryz.prog 136 #[.agg #[.int .i64 x.t,.int .i64 x.s,.bool x.nt],.pointer (some ⟨b1,0,none⟩)] w (RetB w (.bool (decide (nth z.ths.l x.t=x.s) == x.nt))):=by
 have hTb:=hT.blk
 have hr:=hT.room
 have zth:=hT.st.ths.ints
 have zpr:=hT.st.prs.ints
 have zpl:=hT.st.pls.ints
 have mth:=zth.le
 have mpr:=zpr.le
 have mpl:=zpl.le
 refine enter Tryz.func136 rfl rfl (Nat.le_of_ble_eq_true rfl) ?_
 refine Nz 0 ?_
 refine Wb 1 rfl rfl (fun _=>rfl) (fun _=>rfl) fun b2 hb2=>?_
 refine Wd (Qc (Cs (Dr mixed 0 ?_)))
 refine Dk 3 Ga ?_
 refine Dk 1 Ga ?_
 refine Dk 0 (Ba 0) ?_
 refine Dk 0 Xa ?_
 refine Dk 1 Ia ?_
 refine Dk 2 (Ba 0) ?_
 refine Dk 0 (Ba 0) ?_
 refine Dk 1 (J0i rfl rfl Tryz.underlying4) ?_
 exact Dd (Qc (Cr (out1 rfl rfl retB)))
theorem Jee (tb:Nat) (r:Room) (z:Stt) (w:World) (hT:TabOk w tb r z) (c:Sl Lit) (hk:SlT cLit w c) (hb:Jdv z.ths.l.length c.l) :
  Calls Tryz.prog 92 #[.pointer (some ⟨tb,0,none⟩),c.v] w (RetB w (.bool (Jcq z.ths.l c.l))):=by
 refine enter Tryz.func92 rfl rfl (Nat.le_of_ble_eq_true rfl) ?_
 refine Nz 0 ?_
 refine Wb 1 rfl rfl (fun _=>rfl) (fun _=>rfl) fun b2 hb2=>?_
 refine Wd (Qc (Nz 1 ?_))
 refine Wk 0 (Jai rfl) ?_
 refine Wk 2 (Cb rfl rfl Jsm (fun u hu=>Jdw c u (hk.st hu) _ [.pointer (some ⟨b2,0,none⟩)] (fun x=>decide (nth z.ths.l x.t=x.s) == x.nt) J4g (fun u2 h2 i a0 a1=>Jvi tb r z u2 ((hT.stt hu).ext h2) _ _ ((Jap hu (j:=0) rfl).ext h2) _ (hb _ (Jaj a0 a1))))) ?_
 exact Wd (Qc (Cr (out1 rfl rfl (Jac (by unfold Jcq; rw [List.all_eq_not_any_not]; simp)))))
theorem Juv (tb:Nat) (r:Room) (z:Stt) (w:World) (hT:TabOk w tb r z) (p:Int) (h0:0≤p) (h1:p≤3) (hl:z.prs.l.length≤1000000) :
  Calls Tryz.prog 178 #[.pointer (some ⟨tb,0,none⟩),.int .i64 p] w (RetB w (.int .i64 (cnt z.prs.l (-2 - p)))):=by
 have hTb:=hT.blk
 have hr:=hT.room
 have zth:=hT.st.ths.ints
 have zpr:=hT.st.prs.ints
 have zpl:=hT.st.pls.ints
 have mth:=zth.le
 have mpr:=zpr.le
 have mpl:=zpl.le
 refine enter Tryz.func178 rfl rfl (Nat.le_of_ble_eq_true rfl) ?_
 refine Nz 1 ?_
 refine Wd (Qc (Cs (Nz 4 ?_)))
 refine Wk 0 Ga ?_
 refine Wk 1 Na ?_
 refine Wd (Qc (Ce ?_))
 refine CS.loopM (σ:=Int × Int) [6,14,15,16,17,18,19,20,21,22,23] (fun s=>[(13,.int .i64 s.1),(4,.int .i64 s.2)]) (fun _=>_) (fun s=>0≤s.1∧s.1≤z.prs.l.length∧s.2=cnt (z.prs.l.take s.1.toNat) (-2 - p)) (fun s=>(z.prs.l.length - s.1).toNat) (0,0) (fun _ _=>rfl) rfl rfl ⟨by simp,by simp,rfl⟩ ?_
 intro s t hs
 obtain ⟨hs1,hs2,hs3⟩:=hs
 have hcl:=Je5 (z.prs.l.take s.1.toNat) (-2 - p)
 have htl:=List.length_take_le s.1.toNat z.prs.l
 refine Nz 1 ?_
 refine Wd (Qc (Cs (CS.cond rfl ?_ ?_)))<;>intro hc1<;>try simp only [bq] at hc1
 ·
  refine Ck (Qc (Cs (Ce (Nz 0 ?_))))
  refine Wk 0 Xa ?_
  refine Wk 1 Ia ?_
  refine Wd (Qc (Nz 2 ?_))
  refine Wk 1 Zb ?_
  refine Wd (Qc (CS.cond rfl ?_ ?_))<;>intro hc2<;>try simp only [bq] at hc2
  ·
   refine Ny 1 ?_
   refine Wk 1 Za ?_
   refine Wd (Qb (Qc (Ny 0 ?_)))
   refine Wk 1 Za ?_
   exact Wd (QS.head ((s.1+1,s.2+1)) rfl rfl ⟨⟨by simp; omega,by simp; omega,by simp only; rw [Jjx hs1 (by omega),if_pos hc2,hs3]⟩,by simp; omega⟩)
  refine Ck (Qb (Qc (Ny 0 ?_)))
  refine Wk 1 Za ?_
  exact Wd (QS.head ((s.1+1,s.2)) rfl rfl ⟨⟨by simp; omega,by simp; omega,by simp only; rw [Jjx hs1 (by omega),if_neg hc2,hs3,Int.add_zero]⟩,by simp; omega⟩)
 refine Cv (Qe (Qe (Qx (Qc (Nz 2 ?_)))))
 exact Wd (Qc (Cr (out1 rfl rfl (Jac (by rw [hs3,List.take_of_length_le (by omega)])))))
theorem Juk (tb:Nat) (r:Room) (z:Stt) (w:World) (hT:TabOk w tb r z) (b1:Nat) (e1:TypeId) (h1:BlkAt w b1 [.pointer (some ⟨tb,0,none⟩)] e1) (a:Auto) (ha:SlT cLit w a.wh) (hb:(0≤a.t∧a.t < z.ths.l.length)∧Jdv z.ths.l.length a.wh.l) :
  Calls Tryz.prog 170 #[.agg #[a.wh.v,.int .i64 a.t,.int .i64 a.s],.pointer (some ⟨b1,0,none⟩)] w (RetB w (.bool (!decide (nth z.ths.l a.t=a.s) && Jcq z.ths.l a.wh.l))):=by
 have hTb:=hT.blk
 have hr:=hT.room
 have zth:=hT.st.ths.ints
 have zpr:=hT.st.prs.ints
 have zpl:=hT.st.pls.ints
 have mth:=zth.le
 have mpr:=zpr.le
 have mpl:=zpl.le
 have oa:=Sl.one ha
 refine enter Tryz.func170 rfl rfl (Nat.le_of_ble_eq_true rfl) ?_
 refine Nz 0 ?_
 refine Wb 1 rfl rfl (fun _=>rfl) (fun _=>rfl) fun b2 hb2=>?_
 refine Wd (Qc (Cs (Dr mixed 0 ?_)))
 refine Dk 3 Ga ?_
 refine Dk 2 Ga ?_
 refine Dk 0 (Ba 0) ?_
 refine Dk 0 Xa ?_
 refine Dk 2 Ia ?_
 refine Dk 2 (Ba 0) ?_
 refine Dt 0 rfl rfl (fun hg=>Ga) ?_
 refine Dt 0 rfl rfl (fun hg=>Ff) ?_
 refine Dt 0 rfl rfl (fun hg=>Ba 0) ?_
 refine Dt 0 rfl rfl (fun hg=>Cb rfl (ec_ (eg_ hg rfl) (ec_ (eg_ hg rfl) en_)) Jmf (fun u hu=>Jee tb r z u (hT.stt hu) a.wh (ha.st hu) hb.2)) ?_
 refine Dk 1 Pa ?_
 exact Dd (Qc (Cr (out1 rfl rfl (Jac (by simp)))))
theorem Jom (aus:List Auto) (ths:List Int):idxF (fun a => !decide (nth ths a.t=a.s) && Jcq ths a.wh.l) aus=autoI aus ths:=by
 unfold autoI
 congr 1
 funext a
 exact Bool.and_comm _ _
theorem Jq6 {w u:World} (R:SA) (r:Room) (hr:RoomOk w r) (tb:Nat) (va vb vc:Value) (ths prs pls:List Int) (ha:Jfk r.aus.l ths.length) (hu:St w.heap.size w [blk tb [r.pls.v,r.ths.v,r.prs.v,r.wys.v,r.acs.v,r.aus.v,.int .i64 r.ply,r.gl.v,va,vb,vc] 217,oints 3 va (ths),oints 3 vb prs,oints 3 vc pls,R] u) :
  Calls Tryz.prog 134 #[.pointer (some ⟨tb,0,none⟩)] u (fun e u'=>∃ o:List Int,((∀ t,settleN r.aus.l 101 ths=some t→o=t)∧o.length=ths.length)∧e = .returned (.bool (settleN r.aus.l 101 ths).isSome)∧St w.heap.size w [blk tb [r.pls.v,r.ths.v,r.prs.v,r.wys.v,r.acs.v,r.aus.v,.int .i64 r.ply,r.gl.v,va,vb,vc] 217,oints 3 va (o),oints 3 vb prs,oints 3 vc pls,R] u'):=by
 have kau:=hr.aus
 have lau:=kau.le
 refine Jd9 hu Tryz.func134 rfl rfl (Nat.le_of_ble_eq_true rfl) ?_
 refine Nz 0 ?_
 refine Wb 1 rfl rfl (fun _=>rfl) (fun _=>rfl) fun b1 hb1=>?_
 refine Wd (Qc (Cs (Nz 1 ?_)))
 refine Wd (Qc (Ce ?_))
 refine CS.loopM (σ:=Int × List Int) [2,3,5,6,7,8,9,10,11,12,13,14,15,16,17,18,19,20,21,22,23,24,25,26,27,28,29,30,31,32,33,34,35,36,37,38,39,40,41] (fun s=>[(4,.int .i64 s.1)]) (fun s=>blk b1 [.pointer (some ⟨tb,0,none⟩)] 173::[blk tb [r.pls.v,r.ths.v,r.prs.v,r.wys.v,r.acs.v,r.aus.v,.int .i64 r.ply,r.gl.v,va,vb,vc] 217,oints 3 va (s.2),oints 3 vb prs,oints 3 vc pls,R]) (fun s=>0≤s.1∧s.1≤101∧s.2.length=ths.length∧settleN r.aus.l 101 ths=settleN r.aus.l (101 - s.1).toNat s.2) (fun s=>(101 - s.1).toNat) (0,ths) (fun _ _=>rfl) rfl rfl ⟨by simp,by simp,rfl,rfl⟩ ?_
 intro s t hs
 obtain ⟨hs1,hs2,hsl,hs4⟩:=hs
 refine Nz 1 ?_
 refine Wd (Qc (Cs (CS.cond rfl ?_ ?_)))<;>intro hc1<;>try simp only [bq] at hc1
 ·
  refine Ck (Qc (Cs (Ce (Nz 0 ?_))))
  refine Wk 3 (Ba 0) ?_
  refine Wk 0 (Ba 1) ?_
  refine Wk 0 (Jai rfl) ?_
  refine Wk 1 (Cb rfl rfl J10 (fun u hu=>Jtl r.aus u (hr.aus.st hu) _ [.pointer (some ⟨b1,0,none⟩)] (fun a => !decide (nth s.2 a.t=a.s) && Jcq s.2 a.wh.l) J1j (fun u2 h2 i a0 a1=>Juk tb r ⟨⟨va,s.2⟩,⟨vb,prs⟩,⟨vc,pls⟩⟩ u2 (TabOk.ext ⟨Jap hu (j:=1) rfl,hr.st hu,(Jat hu (j:=2) rfl).tree,(Jat hu (j:=3) rfl).tree,(Jat hu (j:=4) rfl).tree⟩ h2) _ _ ((Jap hu (j:=0) rfl).ext h2) _ (((hr.st hu).aus.ext h2).at a0 a1) (by have hh:=ha _ (Jaj a0 a1); rw [← hsl] at hh; exact hh)))) ?_
  refine Wd (Qc (Cs (Nz 2 ?_)))
  refine Wd (Qc (CS.cond rfl ?_ ?_))<;>intro hc2<;>try simp only [bq] at hc2
  ·
   have hqa:=Jom r.aus.l s.2
   have hz:autoI r.aus.l s.2 < 0:=by rw [← hqa]; exact hc2
   refine Nz 1 ?_
   refine Wd (Qc (Cr (Qr (Qs (Qr (Qr (Qs (Qr ?_))))))))
   have hv:settleN r.aus.l 101 ths=some s.2:=by rw [hs4,show (101 - s.1).toNat=(100 - s.1).toNat+1 by omega,settleN,if_pos hz]
   exact out1 rfl rfl (fun u hu=>⟨s.2,⟨fun t ht=>(by rw [hv] at ht; exact Option.some.inj ht),hsl⟩,by rw [hv]; rfl,hu.sel [1,1,1,1,1] rfl⟩)
  have hqa:=Jom r.aus.l s.2
  have hau2:=Jm3 (aus:=r.aus.l) (ths:=s.2) (by rw [← hqa]; exact hc2)
  rw [← hqa] at hau2
  have hat:=(ha _ (Jaj hau2.1 hau2.2)).1
  generalize idxF (fun a:Auto => !decide (nth s.2 a.t=a.s) && Jcq s.2 a.wh.l) r.aus.l=q at hc2 hqa hau2 hat ⊢
  refine Ck (Qc ?_)
  refine CS.drawnTill 26 (k:=27) mixed rfl rfl ?_
  refine Tk 27 0 [1,2,3] rfl (Ba 0) ?_
  refine Tk 27 4 [] rfl (Ba 1) ?_
  refine Tk 27 5 [6,7,8] rfl (Ba 0) ?_
  refine Tk 27 9 [10] rfl (Ba 1) ?_
  refine Tk 27 11 [12,13] rfl Xc ?_
  refine Tk 27 14 [] rfl (Uc 3 1) ?_
  refine Tk 27 15 [16,17,18] rfl (Ba 0) ?_
  refine Tk 27 19 [20] rfl (Ba 1) ?_
  refine Tk 27 21 [22,23] rfl Xc ?_
  refine Tk 27 24 [] rfl (Uc 3 2) ?_
  refine Tk 27 25 [] rfl (Xb 2) ?_
  refine To 26 rfl ?_
  refine WS.storeOI (j:=2) rfl rfl (by omega) rfl tk3 rfl ?_
  refine Wd (Qt ?_)
  refine Te ?_
  refine Qb (Qc (Ny 0 ?_))
  refine Wk 1 Za ?_
  refine Wd ?_
  exact QS.head ((s.1+1,s.2.set (nth r.aus.l q).t.toNat (nth r.aus.l q).s)) rfl rfl ⟨⟨by simp; omega,by simp; omega,by simp [hsl],by
      rw [hs4,show (101 - s.1).toNat=(101 - (s.1+1)).toNat+1 by omega,settleN,if_neg (by rw [← hqa]; exact hc2), ← hqa]⟩,by simp; omega⟩
 refine Cv (Qe (Qe (Qx (Qc (Nz 1 ?_)))))
 refine Wd (Qc (Cr ?_))
 have hv:settleN r.aus.l 101 ths=none:=by rw [hs4,show (101 - s.1).toNat=0 by omega]; rfl
 exact out1 rfl rfl (fun u hu=>⟨s.2,⟨fun t ht=>(by rw [hv] at ht; cases ht),hsl⟩,by rw [hv]; rfl,hu.sel [1,1,1,1,1] rfl⟩)
theorem J03 {w u:World} (R:SA) (r:Room) (hr:RoomOk w r) (hR:Ready r) (tb:Nat) (va vb vc:Value) (x:P3) (hI:StIn r x) (m:Move) (hL:legalB r x m=true) (hu:St w.heap.size w [blk tb [r.pls.v,r.ths.v,r.prs.v,r.wys.v,r.acs.v,r.aus.v,.int .i64 r.ply,r.gl.v,va,vb,vc] 217,oints 3 va (x.1),oints 3 vb (x.2.1),oints 3 vc (x.2.2),R] u) :
  Calls Tryz.prog 139 #[.pointer (some ⟨tb,0,none⟩),.agg #[.int .i64 m.p,.int .i64 m.k,.int .i64 m.n]] u (fun e u'=>∃ _q:Unit,True∧e = .returned (.tuple #[])∧St w.heap.size w [blk tb [r.pls.v,r.ths.v,r.prs.v,r.wys.v,r.acs.v,r.aus.v,.int .i64 r.ply,r.gl.v,va,vb,vc] 217,oints 3 va ((moveX r x m).1),oints 3 vb ((moveX r x m).2.1),oints 3 vc ((moveX r x m).2.2),R] u'):=by
 have kpl:=hr.pls
 have lpl:=hr.pls.le
 have kth:=hr.ths
 have lth:=hr.ths.le
 have kpr:=hr.prs
 have lpr:=hr.prs.le
 have kwy:=hr.wys
 have lwy:=hr.wys.le
 have kac:=hr.acs
 have lac:=hr.acs.le
 have kau:=hr.aus
 have lau:=hr.aus.le
 have kgl:=hr.gl
 have lgl:=hr.gl.le
 have hlen:=hR.lens
 have hply:=hR.ply
 have hlt:=hI.lt
 have hlp:=hI.lp
 have hll:=hI.ll
 have hM:=Jmc hR hI hL
 have hMp:=hM.p
 have hat:=hI.at (i:=m.p) (by omega) (by omega)
 refine Jd9 hu Tryz.func139 rfl rfl (Nat.le_of_ble_eq_true rfl) ?_
 refine Nz 0 ?_
 refine Wb 0 rfl rfl (fun _=>rfl) (fun _=>rfl) fun b3 hb3=>?_
 refine Wd (Qc (Nz 1 ?_))
 refine Wk 0 (Ba 0) ?_
 refine Wk 1 Zb ?_
 refine Wd (Qc (Nz 1 ?_))
 refine Wk 0 (Ba 0) ?_
 refine Wd (Qc (Ce (Nz 2 ?_)))
 refine Wd (Qc (CS.cond rfl ?_ ?_))<;>intro hc1<;>try simp only [bq] at hc1
 ·
  have hn:=hM.go hc1
  have hwy:=hR.wys _ (Jaj hn.1 hn.2)
  have hwh:SlT cLit w (nth r.wys.l m.n).wh:=hr.wys.at hn.1 hn.2
  have hmv:moveX r x m=(x.1,x.2.1,x.2.2.set m.p.toNat ((nth r.wys.l m.n).a+(nth r.wys.l m.n).b - nth x.2.2 m.p)):=if_pos hc1
  refine Cs ?_
  refine CS.drawnAll (k:=11) mixed rfl rfl ?_
  refine Ar [0,1,2,3] ?_
  refine Ak 4 [5] rfl (Ba 1) ?_
  refine Ak 6 [] rfl (Ba 0) ?_
  refine Ak 7 [] rfl Xc ?_
  refine Ak 8 [] rfl Ua ?_
  refine Ao 9 rfl ?_
  refine Wl 0 Jt7 (fun _=>rfl) (fun _=>rfl) fun b5 hb5=>?_
  refine Wd (Qa ?_)
  refine Ao 10 rfl ?_
  refine Wv 0 0 ?_
  refine Wd (Qa ?_)
  refine Ae ?_
  refine Qc ?_
  refine CS.drawnTill 23 (k:=24) mixed rfl rfl ?_
  refine Tr 24 [0,1,2,3] ?_
  refine Tk 24 4 [5] rfl (Ba 2) ?_
  refine Tk 24 6 [7] rfl (Ba 1) ?_
  refine Tk 24 8 [9] rfl (Ba 0) ?_
  refine Tk 24 10 [] rfl (Ba 0) ?_
  refine Tk 24 11 [12,13,14,15] rfl Za ?_
  refine Tk 24 16 [17] rfl (Ba 2) ?_
  refine Tk 24 18 [] rfl (Ba 1) ?_
  refine Tk 24 19 [] rfl (Xb 5) ?_
  refine Tk 24 20 [] rfl (Ib 5) ?_
  refine Tk 24 21 [] rfl Zb ?_
  refine Tk 24 22 [] rfl (Xb 5) ?_
  refine To 23 rfl ?_
  refine WS.storeOI (j:=5) rfl rfl (by omega) rfl tk3 rfl ?_
  refine Wd (Qt ?_)
  refine Te ?_
  refine Qb ?_
  refine QS.sel [2,2,2,2,2] rfl ?_
  exact out0 (Or.inr rfl) rfl (by rw [hmv]; exact fun u hu=>⟨(),trivial,rfl,hu⟩)
 refine Nz 2 ?_
 refine Wd (Qc (CS.cond rfl ?_ ?_))<;>intro hc2<;>try simp only [bq] at hc2
 ·
  have hn:=hM.pr (.inl hc2)
  have hmv:moveX r x m=(x.1,x.2.1.set m.n.toNat (-2 - m.p),x.2.2):=(if_neg hc1).trans (if_pos hc2)
  refine CS.drawnTill 9 (k:=10) mixed rfl rfl ?_
  refine Tr 10 [0,1,2,3] ?_
  refine Tk 10 4 [5] rfl (Ba 1) ?_
  refine Tk 10 6 [7] rfl (Ba 0) ?_
  refine Tk 10 8 [] rfl (Xb 3) ?_
  refine To 9 rfl ?_
  refine WS.storeOI (j:=3) rfl rfl (by omega) rfl tk3 rfl ?_
  refine Wd (Qt ?_)
  refine Te ?_
  refine Qb ?_
  refine QS.sel [1,1,1,1,1] rfl ?_
  exact out0 (Or.inr rfl) rfl (by rw [hmv]; exact fun u hu=>⟨(),trivial,rfl,hu⟩)
 refine Nz 2 ?_
 refine Wd (Qc (CS.cond rfl ?_ ?_))<;>intro hc3<;>try simp only [bq] at hc3
 ·
  have hn:=hM.pr (.inr hc3)
  have hmv:moveX r x m=(x.1,x.2.1.set m.n.toNat (nth x.2.2 m.p),x.2.2):=(if_neg hc1).trans ((if_neg hc2).trans (if_pos hc3))
  refine CS.drawnTill 17 (k:=18) mixed rfl rfl ?_
  refine Tr 18 [0,1,2,3] ?_
  refine Tk 18 4 [5] rfl (Ba 1) ?_
  refine Tk 18 6 [7,8,9,10] rfl (Ba 0) ?_
  refine Tk 18 11 [12] rfl (Ba 1) ?_
  refine Tk 18 13 [] rfl (Ba 0) ?_
  refine Tk 18 14 [] rfl (Xb 4) ?_
  refine Tk 18 15 [] rfl (Ib 4) ?_
  refine Tk 18 16 [] rfl (Xb 3) ?_
  refine To 17 rfl ?_
  refine WS.storeOI (j:=3) rfl rfl (by omega) rfl tk3 rfl ?_
  refine Wd (Qt ?_)
  refine Te ?_
  refine Qb ?_
  refine QS.sel [1,1,1,1,1] rfl ?_
  exact out0 (Or.inr rfl) rfl (by rw [hmv]; exact fun u hu=>⟨(),trivial,rfl,hu⟩)
 refine Nz 2 ?_
 refine Wd (Qc (CS.cond rfl ?_ ?_))<;>intro hc4<;>try simp only [bq] at hc4
 ·
  have hn:=hM.ac hc4
  have hmv:moveX r x m=(Jeb x.1 (nth r.acs.l m.n).se.l,Jck (-2 - m.p) (Jck (-1) x.2.1 (nth r.acs.l m.n).sp.l) (nth r.acs.l m.n).br.l,x.2.2):=(if_neg hc1).trans ((if_neg hc2).trans ((if_neg hc3).trans (if_pos hc4)))
  have ha:=hR.acs _ (Jaj hn.1 hn.2)
  have hak:ActOk w (nth r.acs.l m.n):=hr.acs.at hn.1 hn.2
  have hsp:=hak.sp.ints
  have hbr:=hak.br.ints
  have kse:=hak.se
  have lbr:=ha.lbr
  have lsp:=ha.lsp
  have lse:=ha.lse
  refine Cs ?_
  refine CS.drawnAll (k:=11) mixed rfl rfl ?_
  refine Ar [0,1,2,3] ?_
  refine Ak 4 [5] rfl (Ba 1) ?_
  refine Ak 6 [] rfl (Ba 0) ?_
  refine Ak 7 [] rfl Xc ?_
  refine Ak 8 [] rfl Ua ?_
  refine Ao 9 rfl ?_
  refine Wl 0 Jmn (fun _=>rfl) (fun _=>rfl) fun b6 hb6=>?_
  refine Wd (Qa ?_)
  refine Ao 10 rfl ?_
  refine Wv 0 0 ?_
  refine Wd (Qa ?_)
  refine Ae ?_
  refine Qc (Cs (Nz 1 ?_))
  refine Wk 0 (Ba 0) ?_
  refine Wk 1 Na ?_
  refine Wd (Qc (Ce ?_))
  refine CS.loopM (σ:=Int) [8,97,98,99,100,101,102,103,104,105,106,107] (fun s=>[(96,.int .i64 s)]) (fun s=>[blk b6 (cAct.cells (nth r.acs.l m.n)) 129,blk b3 [.int .i64 m.p,.int .i64 m.k,.int .i64 m.n] 51,blk tb [r.pls.v,r.ths.v,r.prs.v,r.wys.v,r.acs.v,r.aus.v,.int .i64 r.ply,r.gl.v,va,vb,vc] 217,oints 3 va (x.1),oints 3 vb (Jck (-1) x.2.1 ((nth r.acs.l m.n).sp.l.take s.toNat)),oints 3 vc x.2.2,R]) (fun s=>0≤s∧s≤(nth r.acs.l m.n).sp.l.length) (fun s=>((nth r.acs.l m.n).sp.l.length - s).toNat) 0 (fun _ _=>rfl) rfl rfl ⟨by omega,by omega⟩ ?_
  intro d t hs
  obtain ⟨hd1,hd2⟩:=hs
  refine Nz 1 ?_
  refine Wd (Qc (Cs (CS.cond rfl ?_ ?_)))<;>intro hc5<;>try simp only [bq] at hc5
  ·
   have hin:=ha.sp _ (Jaj hd1 (by omega))
   have hln:=Jdf (v := -1) (ps:=(nth r.acs.l m.n).sp.l.take d.toNat) (l:=x.2.1)
   refine Ck (Qc (Cs (Ce (Nz 0 ?_))))
   refine Wk 0 Xa ?_
   refine Wk 1 Ia ?_
   refine Wd (Qc (Ny 4 ?_))
   refine Wk 1 (Ba 2) ?_
   refine Wk 0 (Xb 4) ?_
   refine WS.storeOI (j:=4) rfl rfl (by omega) rfl tk3 rfl ?_
   refine Wd (Qb (Qc (Ny 0 ?_)))
   refine Wk 1 Za ?_
   exact Wd (QS.head (d+1) rfl (by simp only [Jhg hd1 (by omega)]) ⟨⟨by omega,by omega⟩,by omega⟩)
  have hta:(nth r.acs.l m.n).sp.l.take d.toNat=(nth r.acs.l m.n).sp.l:=List.take_of_length_le (by omega)
  rw [hta]
  refine Cv (Qe (Qe (Qx (Qc (Cs (Nz 1 ?_))))))
  refine Wk 0 (Ba 0) ?_
  refine Wk 1 Na ?_
  refine Wd (Qc (Ce ?_))
  refine CS.loopM (σ:=Int) [10,112,113,114,115,116,117,118,119,120,121,122,123] (fun s=>[(111,.int .i64 s)]) (fun s=>[blk b6 (cAct.cells (nth r.acs.l m.n)) 129,blk b3 [.int .i64 m.p,.int .i64 m.k,.int .i64 m.n] 51,blk tb [r.pls.v,r.ths.v,r.prs.v,r.wys.v,r.acs.v,r.aus.v,.int .i64 r.ply,r.gl.v,va,vb,vc] 217,oints 3 va (x.1),oints 3 vb (Jck (-2 - m.p) (Jck (-1) x.2.1 (nth r.acs.l m.n).sp.l) ((nth r.acs.l m.n).br.l.take s.toNat)),oints 3 vc x.2.2,R]) (fun s=>0≤s∧s≤(nth r.acs.l m.n).br.l.length) (fun s=>((nth r.acs.l m.n).br.l.length - s).toNat) 0 (fun _ _=>rfl) rfl rfl ⟨by omega,by omega⟩ ?_
  intro e t hs
  obtain ⟨he1,he2⟩:=hs
  refine Nz 1 ?_
  refine Wd (Qc (Cs (CS.cond rfl ?_ ?_)))<;>intro hc6<;>try simp only [bq] at hc6
  ·
   have hin:=ha.br _ (Jaj he1 (by omega))
   have hln:=Jdf (v := -1) (ps:=(nth r.acs.l m.n).sp.l) (l:=x.2.1)
   have hln2:=Jdf (v := -2 - m.p) (ps:=(nth r.acs.l m.n).br.l.take e.toNat) (l:=Jck (-1) x.2.1 (nth r.acs.l m.n).sp.l)
   refine Ck (Qc (Cs (Ce (Nz 0 ?_))))
   refine Wk 0 Xa ?_
   refine Wk 1 Ia ?_
   refine Wd (Qc (Ny 4 ?_))
   refine Wk 2 (Ba 2) ?_
   refine Wk 0 (Xb 4) ?_
   refine WS.storeOI (j:=4) rfl rfl (by omega) rfl tk3 rfl ?_
   refine Wd (Qb (Qc (Ny 0 ?_)))
   refine Wk 1 Za ?_
   exact Wd (QS.head (e+1) rfl (by simp only [Jhg he1 (by omega)]) ⟨⟨by omega,by omega⟩,by omega⟩)
  have hta:(nth r.acs.l m.n).br.l.take e.toNat=(nth r.acs.l m.n).br.l:=List.take_of_length_le (by omega)
  rw [hta]
  refine Cv (Qe (Qe (Qx (Qc (Nz 1 ?_)))))
  refine Wk 0 (Ba 0) ?_
  refine Wk 1 Nc ?_
  refine Wd (Qc (Ce ?_))
  refine CS.loopM (σ:=Int) [12,128,129,130,131,132,133,134,135,136,137,138,139,140,141] (fun s=>[(127,.int .i64 s)]) (fun s=>[blk b6 (cAct.cells (nth r.acs.l m.n)) 129,blk b3 [.int .i64 m.p,.int .i64 m.k,.int .i64 m.n] 51,blk tb [r.pls.v,r.ths.v,r.prs.v,r.wys.v,r.acs.v,r.aus.v,.int .i64 r.ply,r.gl.v,va,vb,vc] 217,oints 3 va (Jeb x.1 ((nth r.acs.l m.n).se.l.take s.toNat)),oints 3 vb (Jck (-2 - m.p) (Jck (-1) x.2.1 (nth r.acs.l m.n).sp.l) (nth r.acs.l m.n).br.l),oints 3 vc x.2.2,R]) (fun s=>0≤s∧s≤(nth r.acs.l m.n).se.l.length) (fun s=>((nth r.acs.l m.n).se.l.length - s).toNat) 0 (fun _ _=>rfl) rfl rfl ⟨by omega,by omega⟩ ?_
  intro g t hs
  obtain ⟨hg1,hg2⟩:=hs
  refine Nz 1 ?_
  refine Wd (Qc (Cs (CS.cond rfl ?_ ?_)))<;>intro hc7<;>try simp only [bq] at hc7
  ·
   have hin:=Jky (ha.se _ (Jaj hg1 (by omega)))
   have hln:=Jf1 (ss:=(nth r.acs.l m.n).se.l.take g.toNat) (l:=x.1)
   refine Ck (Qc (Cs (Ce (Nz 0 ?_))))
   refine Wk 0 Xc ?_
   refine Wk 0 Ua ?_
   refine Wl 0 Jpf (fun _=>rfl) (fun _=>rfl) fun b12 hb12=>?_
   refine Wv 0 0 ?_
   refine Wd (Qc ?_)
   refine CS.drawnTill 10 (k:=11) mixed rfl rfl ?_
   refine Tr 11 [0,1,2,3] ?_
   refine Tk 11 4 [5] rfl (Ba 3) ?_
   refine Tk 11 6 [7] rfl (Ba 0) ?_
   refine Tk 11 8 [] rfl (Ba 0) ?_
   refine Tk 11 9 [] rfl (Xb 4) ?_
   refine To 10 rfl ?_
   refine WS.storeOI (j:=4) rfl rfl (by omega) rfl tk3 rfl ?_
   refine Wd (Qt ?_)
   refine Te ?_
   refine Qb (Qc (Ny 0 ?_))
   refine Wk 1 Za ?_
   refine Wd ?_
   refine QS.sel [1,1,1,1,1,1,1] rfl ?_
   exact QS.head (g+1) rfl (by simp only [Jmd hg1 (by omega)]) ⟨⟨by omega,by omega⟩,by omega⟩
  have hta:(nth r.acs.l m.n).se.l.take g.toNat=(nth r.acs.l m.n).se.l:=List.take_of_length_le (by omega)
  rw [hta]
  refine Cv (Qe (Qe (Qx (Qb ?_))))
  refine QS.sel [2,2,2,2,2] rfl ?_
  exact out0 (Or.inr rfl) rfl (by rw [hmv]; exact fun u hu=>⟨(),trivial,rfl,hu⟩)
 have hmv:moveX r x m=(x.1,x.2.1,x.2.2):=(if_neg hc1).trans ((if_neg hc2).trans ((if_neg hc3).trans (if_neg hc4)))
 refine Ck (Qb ?_)
 refine QS.sel [1,1,1,1,1] rfl ?_
 exact out0 (Or.inr rfl) rfl (by rw [hmv]; exact fun u hu=>⟨(),trivial,rfl,hu⟩)
theorem is_c (n:Int) (w:World) (b1:Nat) :
  Calls Tryz.prog 174 #[.int .i64 n,.pointer (some ⟨b1,0,none⟩)] w (fun e w'=>∃ b:Nat,True∧RetF w (.func (.func 175) #[] #[.pointer (some ⟨b1,0,none⟩),.pointer (some ⟨b,0,none⟩)]) (blk b [.int .i64 n] 3) e w'):=by
 refine enter Tryz.func174 rfl rfl (Nat.le_of_ble_eq_true rfl) ?_
 refine Nz 0 ?_
 refine Wb 1 rfl rfl (fun _=>rfl) (fun _=>rfl) fun b2 hb2=>?_
 refine Wd (Qc (Nz 0 ?_))
 refine Wk 1 (Jai rfl) ?_
 exact Wd (Qc (Cr (out1 rfl rfl (fun u hu=>⟨b2,trivial,retF (j:=0) rfl u hu⟩))))
theorem Jr2 (tb:Nat) (r:Room) (z:Stt) (w:World) (hT:TabOk w tb r z) (b1:Nat) (e1:TypeId) (h1:BlkAt w b1 [.pointer (some ⟨tb,0,none⟩)] e1) (b2:Nat) (n:Int) (e2:TypeId) (h2:BlkAt w b2 [.int .i64 n] e2) (p:Int) (h3:0≤p∧p < z.prs.l.length) :
  Calls Tryz.prog 175 #[.int .i64 p,.pointer (some ⟨b1,0,none⟩),.pointer (some ⟨b2,0,none⟩)] w (RetB w (.bool (decide (nth z.prs.l p=n)))):=by
 have hTb:=hT.blk
 have hr:=hT.room
 have zth:=hT.st.ths.ints
 have zpr:=hT.st.prs.ints
 have zpl:=hT.st.pls.ints
 have mth:=zth.le
 have mpr:=zpr.le
 have mpl:=zpl.le
 refine enter Tryz.func175 rfl rfl (Nat.le_of_ble_eq_true rfl) ?_
 refine Nz 1 ?_
 refine Wd (Qc (Cs (Dr mixed 0 ?_)))
 refine Dk 3 Ga ?_
 refine Dk 1 Ga ?_
 refine Dk 0 Xa ?_
 refine Dk 0 Ia ?_
 refine Dk 2 Ga ?_
 exact Dd (Qc (Cr (out1 rfl rfl retB)))
theorem J4i (g:Nat) (lb:List Value) (q:Bool) (hg:Ent Tryz.prog g) (x:Int) (w:World) (hx:∀ u,Below w.heap.size w u→Calls Tryz.prog g ([.int .i64 x]++lb:List Value).toArray u (RetB u (.bool q))) (b:Nat) (e:TypeId) (hb:BlkAt w b [.func (.func g) #[] lb.toArray] e) :
  Calls Tryz.prog 177 #[.int .i64 x,.pointer (some ⟨b,0,none⟩)] w (RetB w (.bool (!q))):=by
 refine enter Tryz.func177 rfl rfl (Nat.le_of_ble_eq_true rfl) ?_
 refine Nz 1 ?_
 refine Wd (Qc (Nz 0 ?_))
 refine Wk 1 Ga ?_
 refine Wk 2 (Cb rfl rfl hg (fun u hu=>hx u hu.below)) ?_
 exact Wd (Qc (Cr (out1 rfl rfl retB)))
theorem Jz8 (s0:Sl Int) (w:World) (hk:SlT cInt w s0) (g:Nat) (lb:List Value) (p:Int→Bool) (hg:Ent Tryz.prog g)
  (hp:∀ u,Below w.heap.size w u→∀ i:Int,0≤i→i < s0.l.length→Calls Tryz.prog g ([.int .i64 (nth s0.l i)]++lb:List Value).toArray u (RetB u (.bool (p (nth s0.l i))))) :
  Calls Tryz.prog 176 #[s0.v,.func (.func g) #[] lb.toArray] w (RetB w (.bool (s0.l.all p))):=by
 refine enter Tryz.func176 rfl rfl (Nat.le_of_ble_eq_true rfl) ?_
 refine Nz 0 ?_
 refine Wb 1 rfl rfl (fun _=>rfl) (fun _=>rfl) fun b3 hb3=>?_
 refine Wd (Qc (Nz 1 ?_))
 refine Wk 0 (Jai rfl) ?_
 refine Wk 2 (Cb rfl rfl Jnb (fun u hu=>Jdy s0 u (hk.st hu) _ [.pointer (some ⟨b3,0,none⟩)] (fun x => !p x) J34 (fun u2 h2 i a0 a1=>J4i g lb _ hg _ u2 (fun u3 h3=>hp u3 (Jav hu.below (Jav h2 h3)) i a0 a1) _ _ ((Jap hu (j:=0) rfl).ext h2)))) ?_
 exact Wd (Qc (Cr (out1 rfl rfl (Jac (by rw [List.all_eq_not_any_not])))))
theorem Jxx (tb:Nat) (r:Room) (z:Stt) (w:World) (hT:TabOk w tb r z) (hR:Ready r) (hI:StIn r z.x) (m:Move) :
  Calls Tryz.prog 138 #[.pointer (some ⟨tb,0,none⟩),.agg #[.int .i64 m.p,.int .i64 m.k,.int .i64 m.n]] w (RetB w (.bool (legalB r z.x m))):=by
 have hTb:=hT.blk
 have hr:=hT.room
 have zth:=hT.st.ths.ints
 have zpr:=hT.st.prs.ints
 have zpl:=hT.st.pls.ints
 have mth:=zth.le
 have mpr:=zpr.le
 have mpl:=zpl.le
 have kpl:=hr.pls
 have lpl:=hr.pls.le
 have kth:=hr.ths
 have lth:=hr.ths.le
 have kpr:=hr.prs
 have lpr:=hr.prs.le
 have kwy:=hr.wys
 have lwy:=hr.wys.le
 have kac:=hr.acs
 have lac:=hr.acs.le
 have kau:=hr.aus
 have lau:=hr.aus.le
 have kgl:=hr.gl
 have lgl:=hr.gl.le
 have hlen:=hR.lens
 have hply:=hR.ply
 have hlt:z.ths.l.length=r.ths.l.length:=hI.lt
 have hlp:z.prs.l.length=r.prs.l.length:=hI.lp
 have hll:(z.pls.l.length:Int)=r.ply:=hI.ll
 have hcl:=Je5 z.prs.l (-2 - m.p)
 refine enter Tryz.func138 rfl rfl (Nat.le_of_ble_eq_true rfl) ?_
 refine Nz 0 ?_
 refine Wb 0 rfl rfl (fun _=>rfl) (fun _=>rfl) fun b2 hb2=>?_
 refine Wb 1 rfl rfl (fun _=>rfl) (fun _=>rfl) fun b3 hb3=>?_
 refine Wd (Qc (Cs (Cs (Dr mixed 1 ?_))))
 refine Dk 0 (Ba 0) ?_
 refine Dk 3 (Ba 1) ?_
 refine Dk 0 Ga ?_
 refine Dk 0 Na ?_
 refine Dk 0 Zb ?_
 refine Dk 1 (Cb rfl rfl Jch (fun u hu=>Ja9 _ _ _ u)) ?_
 refine Dd (Qc (CS.cond rfl ?_ ?_))<;>intro hc1<;>try simp only [bq] at hc1
 ·
  refine Nz 1 ?_
  exact Wd (Qc (Cr (Qr (out1 rfl rfl (Jac (by unfold legalB; rw [if_neg (by simp only [Bool.and_eq_true,decide_eq_true_eq]; omega)]))))))
 have hp:(decide (0≤m.p) && decide (m.p≤r.ply - 1))=true:=by simp only [Bool.and_eq_true,decide_eq_true_eq]; omega
 have hat:0≤nth z.pls.l m.p∧nth z.pls.l m.p < r.pls.l.length:=hI.at (i:=m.p) (by omega) (show m.p < z.pls.l.length by omega)
 refine Ck (Qc (Cs (Dr mixed 0 ?_)))
 refine Dk 3 (Ba 1) ?_
 refine Dk 1 Ga ?_
 refine Dk 0 (Ba 0) ?_
 refine Dk 0 Xa ?_
 refine Dk 1 Ia ?_
 refine Dd (Qc (Nz 1 ?_))
 refine Wk 0 (Ba 0) ?_
 refine Wk 1 Zb ?_
 refine Wd (Qc (Nz 0 ?_))
 refine Wk 1 (Jai rfl) ?_
 refine Wd (Qc (Nz 1 ?_))
 refine Wd (Qc (Cs (Nz 1 ?_)))
 refine Wk 0 (Ba 0) ?_
 refine Wd (Qc (Ce (Nz 2 ?_)))
 refine Wd (Qc (CS.cond rfl ?_ ?_))<;>intro hc2<;>try simp only [bq] at hc2
 ·
  refine Cs (Cs (Dr mixed 1 ?_))
  refine Dk 0 (Ba 0) ?_
  refine Dk 3 (Ba 1) ?_
  refine Dk 0 Ga ?_
  refine Dk 0 Nc ?_
  refine Dk 0 Zb ?_
  refine Dk 1 (Cb rfl rfl Jch (fun u hu=>Ja9 _ _ _ u)) ?_
  refine Dd (Qc (CS.cond rfl ?_ ?_))<;>intro hc3<;>try simp only [bq] at hc3
  ·
   refine Nz 1 ?_
   exact Wd (Qc (Cr (Qr (Qs (Qr (out1 rfl rfl (Jac (by unfold legalB; rw [if_pos hp,if_pos hc2]; unfold goB; rw [show (decide (0≤m.n) && decide (m.n≤(r.wys.l.length:Int) - 1))=false by (simp only [Bool.and_eq_false_iff,decide_eq_false_iff_not]; omega)]; simp))))))))
  have hwh:SlT cLit w (nth r.wys.l m.n).wh:=hr.wys.at (by omega) (by omega)
  have hwc:=(hR.wys _ (Jaj (i:=m.n) (xs:=r.wys.l) (by omega) (by omega))).1
  refine Ck (Qc (Cs ?_))
  refine CS.drawnAll (k:=11) mixed rfl rfl ?_
  refine Ak 0 [1,2,3] rfl (Ba 1) ?_
  refine Ak 4 [5] rfl Ga ?_
  refine Ak 6 [] rfl (Ba 0) ?_
  refine Ak 7 [] rfl Xc ?_
  refine Ak 8 [] rfl Ua ?_
  refine Ao 9 rfl ?_
  refine Wl 0 Jt7 (fun _=>rfl) (fun _=>rfl) fun b9 hb9=>?_
  refine Wd (Qa ?_)
  refine Ao 10 rfl ?_
  refine Wv 0 0 ?_
  refine Wd (Qa ?_)
  refine Ae ?_
  refine Qc (Nz 1 ?_)
  refine Wk 3 (Ba 0) ?_
  refine Wf 0 rfl rfl (fun hg=>Ff) ?_
  refine Wf 0 rfl rfl (fun hg=>Ba 0) ?_
  refine Wf 0 rfl rfl (fun hg=>Fm) ?_
  refine Wf 0 rfl rfl (fun hg=>Fq) ?_
  refine Wk 1 Po ?_
  refine Wt 0 rfl rfl (fun hg=>Ba 2) ?_
  refine Wt 0 rfl rfl (fun hg=>Ff) ?_
  refine Wt 0 rfl rfl (fun hg=>Ba 0) ?_
  refine Wt 0 rfl rfl (fun hg=>Cb rfl (ec_ (eg_ hg rfl) (ec_ (eg_ hg rfl) en_)) Jmf (fun u hu=>Jee tb r z u (hT.stt hu) (nth r.wys.l m.n).wh (hwh.st hu) (by rw [hlt]; exact hwc))) ?_
  refine Wk 1 Pa ?_
  exact Wd (Qc (Cr (Qs (Qr (out1 rfl rfl (Jac (by unfold legalB; rw [if_pos hp,if_pos hc2]; unfold goB; rw [show (decide (0≤m.n) && decide (m.n≤(r.wys.l.length:Int) - 1))=true by (simp only [Bool.and_eq_true,decide_eq_true_eq]; omega)]; rfl)))))))
 refine Nz 2 ?_
 refine Wd (Qc (CS.cond rfl ?_ ?_))<;>intro hc4<;>try simp only [bq] at hc4
 ·
  refine Cs ?_
  rcases Bool.eq_false_or_eq_true ((decide (0≤m.n) && decide (m.n≤(z.prs.l.length:Int) - 1))) with hb | hb
  ·
   have hn2:0≤m.n∧m.n < z.prs.l.length:=by simp only [Bool.and_eq_true,decide_eq_true_eq] at hb; omega
   have hwh:SlT cLit w (nth r.prs.l m.n).wh:=hr.prs.at hn2.1 (by omega)
   have hwc:=(hR.prs _ (Jaj (i:=m.n) (xs:=r.prs.l) hn2.1 (by omega))).1
   refine CS.drawnAll (k:=40) mixed rfl rfl ?_
   refine Ar [0] ?_
   refine Ak 1 [] rfl (Ba 0) ?_
   refine Ak 2 [3,4,5] rfl (Ba 1) ?_
   refine Ak 6 [] rfl Ga ?_
   refine Ak 7 [] rfl Na ?_
   refine Ak 8 [] rfl Zb ?_
   refine Ak 9 [] rfl (Cb rfl rfl Jch (fun u hu=>Ja9 _ _ _ u)) ?_
   refine Ak 10 [] rfl (Jcn (v:=.bool true) (congrArg (fun b=>some (Value.bool b)) hb)) ?_
   refine At 11 [] rfl rfl rfl (fun hg=>Fm) ?_
   refine At 12 [] rfl rfl rfl (fun hg=>Fm) ?_
   refine At 14 [] rfl rfl rfl (fun hg=>Ff) ?_
   refine At 15 [] rfl rfl rfl (fun hg=>Ba 0) ?_
   refine Ao 13 rfl ?_
   refine WS.callFg rfl rfl rfl Jkl (fun u hu=>is_c (nth z.pls.l m.p) u b2) (fun _=>rfl) ?_; intro b90 hb90
   refine Wd (Qa ?_)
   refine Ao 16 rfl ?_
   refine Wt 0 rfl rfl (fun hg=>Cb rfl (ec_ (eg_ hg rfl) en_) Jjr (fun u hu=>Jr2 tb r z u (hT.stt hu) b2 _ (Jap hu (j:=2) rfl) b90 _ _ (Jap hu (j:=0) rfl) m.n hn2)) ?_
   refine Wd (Qa ?_)
   refine Ak 17 [18] rfl Pa ?_
   refine At 19 [] rfl rfl rfl (fun hg=>Ba 1) ?_
   refine At 20 [] rfl rfl rfl (fun hg=>Ba 1) ?_
   refine At 21 [] rfl rfl rfl (fun hg=>Fc) ?_
   refine At 22 [] rfl rfl rfl (fun hg=>Ff) ?_
   refine At 23 [] rfl rfl rfl (fun hg=>Ff) ?_
   refine At 24 [] rfl rfl rfl (fun hg=>Ga) ?_
   refine At 25 [] rfl rfl rfl (fun hg=>Ff) ?_
   refine At 26 [] rfl rfl rfl (fun hg=>Ba 0) ?_
   refine At 27 [] rfl rfl rfl (fun hg=>Xc (eg_ hg rfl)) ?_
   refine At 28 [] rfl rfl rfl (fun hg=>Ff) ?_
   refine At 29 [] rfl rfl rfl (fun hg=>Uc 3 2) ?_
   refine At 30 [] rfl rfl rfl (fun hg=>Cb rfl (ec_ (eg_ hg rfl) (ec_ (eg_ hg rfl) en_)) Jmf (fun u hu=>Jee tb r z u (hT.stt hu) (nth r.prs.l m.n).wh (hwh.st hu) (by rw [hlt]; exact hwc))) ?_
   refine Ak 31 [32] rfl Pa ?_
   refine At 33 [] rfl rfl rfl (fun hg=>Ba 1) ?_
   refine At 34 [] rfl rfl rfl (fun hg=>Ff) ?_
   refine At 35 [] rfl rfl rfl (fun hg=>Ba 0) ?_
   refine At 36 [] rfl rfl rfl (fun hg=>Cb rfl (ec_ (eg_ hg rfl) (ec_ (eg_ hg rfl) en_)) Jx7 (fun u hu=>Juv tb r z u (hT.stt hu) m.p (by omega) (by omega) (by omega))) ?_
   refine At 37 [] rfl rfl rfl (fun hg=>Fl) ?_
   refine Ak 38 [39] rfl Pa ?_
   refine Ae ?_
   exact Qc (Cr (Qs (Qr (out1 rfl rfl (Jac (by unfold legalB; rw [if_pos hp,if_neg hc2,if_pos hc4]; unfold Jse; rw [show (decide (0≤m.n) && decide (m.n≤(r.prs.l.length:Int) - 1))=true by (rw [← hlp]; exact hb)]; rfl))))))
  refine Dr mixed 1 ?_
  refine Dk 0 (Ba 0) ?_
  refine Dk 3 (Ba 1) ?_
  refine Dk 0 Ga ?_
  refine Dk 0 Na ?_
  refine Dk 0 Zb ?_
  refine Dk 1 (Cb rfl rfl Jch (fun u hu=>Ja9 _ _ _ u)) ?_
  refine Dt 0 rfl rfl (fun hg=>Fy hb hg) ?_
  refine Dt 0 rfl rfl (fun hg=>Fy hb hg) ?_
  refine Dt 0 rfl rfl (fun hg=>Fy hb hg) ?_
  refine Dt 0 rfl rfl (fun hg=>Fy hb hg) ?_
  refine Dt 0 rfl rfl (fun hg=>Fy hb hg) ?_
  refine Dt 0 rfl rfl (fun hg=>Fz hb hg) ?_
  refine Dk 1 Pa ?_
  refine Dt 0 rfl rfl (fun hg=>Fy_ (by rw [hb] at hg; simp at hg; done)) ?_
  refine Dt 0 rfl rfl (fun hg=>Fy_ (by rw [hb] at hg; simp at hg; done)) ?_
  refine Dt 0 rfl rfl (fun hg=>Fy_ (by rw [hb] at hg; simp at hg; done)) ?_
  refine Dt 0 rfl rfl (fun hg=>Fy_ (by rw [hb] at hg; simp at hg; done)) ?_
  refine Dt 0 rfl rfl (fun hg=>Fy_ (by rw [hb] at hg; simp at hg; done)) ?_
  refine Dt 0 rfl rfl (fun hg=>Fy_ (by rw [hb] at hg; simp at hg; done)) ?_
  refine Dt 0 rfl rfl (fun hg=>Fy_ (by rw [hb] at hg; simp at hg; done)) ?_
  refine Dt 0 rfl rfl (fun hg=>Fy_ (by rw [hb] at hg; simp at hg; done)) ?_
  refine Dt 0 rfl rfl (fun hg=>Fy_ (by rw [hb] at hg; simp at hg; done)) ?_
  refine Dt 0 rfl rfl (fun hg=>Fy_ (by rw [hb] at hg; simp at hg; done)) ?_
  refine Dt 0 rfl rfl (fun hg=>Fy_ (by rw [hb] at hg; simp at hg; done)) ?_
  refine Dt 0 rfl rfl (fun hg=>Fz_ (by rw [hb] at hg; simp at hg; done)) ?_
  refine Dk 1 Pa ?_
  refine Dt 0 rfl rfl (fun hg=>Fy_ (by rw [hb] at hg; simp at hg; done)) ?_
  refine Dt 0 rfl rfl (fun hg=>Fy_ (by rw [hb] at hg; simp at hg; done)) ?_
  refine Dt 0 rfl rfl (fun hg=>Fy_ (by rw [hb] at hg; simp at hg; done)) ?_
  refine Dt 0 rfl rfl (fun hg=>Fy_ (by rw [hb] at hg; simp at hg; done)) ?_
  refine Dt 0 rfl rfl (fun hg=>Fz_ (by rw [hb] at hg; simp at hg; done)) ?_
  refine Dk 1 Pa ?_
  exact Dd (Qc (Cr (Qs (Qr (out1 rfl rfl (Jac (by unfold legalB; rw [if_pos hp,if_neg hc2,if_pos hc4]; unfold Jse; rw [show (decide (0≤m.n) && decide (m.n≤(r.prs.l.length:Int) - 1))=false by (rw [← hlp]; exact hb),hb]; simp)))))))
 refine Nz 2 ?_
 refine Wd (Qc (CS.cond rfl ?_ ?_))<;>intro hc5<;>try simp only [bq] at hc5
 ·
  refine Cs ?_
  rcases Bool.eq_false_or_eq_true ((decide (0≤m.n) && decide (m.n≤(z.prs.l.length:Int) - 1))) with hb | hb
  ·
   have hn2:0≤m.n∧m.n < z.prs.l.length:=by simp only [Bool.and_eq_true,decide_eq_true_eq] at hb; omega
   refine CS.drawnAll (k:=19) mixed rfl rfl ?_
   refine Ar [0] ?_
   refine Ak 1 [] rfl (Ba 0) ?_
   refine Ak 2 [3,4,5] rfl (Ba 1) ?_
   refine Ak 6 [] rfl Ga ?_
   refine Ak 7 [] rfl Na ?_
   refine Ak 8 [] rfl Zb ?_
   refine Ak 9 [] rfl (Cb rfl rfl Jch (fun u hu=>Ja9 _ _ _ u)) ?_
   refine Ak 10 [] rfl (Jcn (v:=.bool true) (congrArg (fun b=>some (Value.bool b)) hb)) ?_
   refine At 11 [] rfl rfl rfl (fun hg=>Fm) ?_
   refine At 12 [] rfl rfl rfl (fun hg=>Fm) ?_
   refine At 14 [] rfl rfl rfl (fun hg=>Ff) ?_
   refine At 15 [] rfl rfl rfl (fun hg=>Ba 0) ?_
   refine Ao 13 rfl ?_
   refine WS.callFg rfl rfl rfl Jkl (fun u hu=>is_c (-2 - m.p) u b2) (fun _=>rfl) ?_; intro b131 hb131
   refine Wd (Qa ?_)
   refine Ao 16 rfl ?_
   refine Wt 0 rfl rfl (fun hg=>Cb rfl (ec_ (eg_ hg rfl) en_) Jjr (fun u hu=>Jr2 tb r z u (hT.stt hu) b2 _ (Jap hu (j:=2) rfl) b131 _ _ (Jap hu (j:=0) rfl) m.n hn2)) ?_
   refine Wd (Qa ?_)
   refine Ak 17 [18] rfl Pa ?_
   refine Ae ?_
   exact Qc (Cr (Qs (Qr (out1 rfl rfl (Jac (by unfold legalB; rw [if_pos hp,if_neg hc2,if_neg hc4,if_pos hc5]; unfold Jst; rw [show (decide (0≤m.n) && decide (m.n≤(r.prs.l.length:Int) - 1))=true by (rw [← hlp]; exact hb)]; rfl))))))
  refine Dr mixed 1 ?_
  refine Dk 0 (Ba 0) ?_
  refine Dk 3 (Ba 1) ?_
  refine Dk 0 Ga ?_
  refine Dk 0 Na ?_
  refine Dk 0 Zb ?_
  refine Dk 1 (Cb rfl rfl Jch (fun u hu=>Ja9 _ _ _ u)) ?_
  refine Dt 0 rfl rfl (fun hg=>Fy hb hg) ?_
  refine Dt 0 rfl rfl (fun hg=>Fy hb hg) ?_
  refine Dt 0 rfl rfl (fun hg=>Fy hb hg) ?_
  refine Dt 0 rfl rfl (fun hg=>Fy hb hg) ?_
  refine Dt 0 rfl rfl (fun hg=>Fy hb hg) ?_
  refine Dt 0 rfl rfl (fun hg=>Fz hb hg) ?_
  refine Dk 1 Pa ?_
  exact Dd (Qc (Cr (Qs (Qr (out1 rfl rfl (Jac (by unfold legalB; rw [if_pos hp,if_neg hc2,if_neg hc4,if_pos hc5]; unfold Jst; rw [show (decide (0≤m.n) && decide (m.n≤(r.prs.l.length:Int) - 1))=false by (rw [← hlp]; exact hb),hb]; simp)))))))
 refine Nz 2 ?_
 refine Wd (Qc (CS.cond rfl ?_ ?_))<;>intro hc6<;>try simp only [bq] at hc6
 ·
  refine Cs (Cs (Dr mixed 1 ?_))
  refine Dk 0 (Ba 0) ?_
  refine Dk 3 (Ba 1) ?_
  refine Dk 0 Ga ?_
  refine Dk 0 Nc ?_
  refine Dk 0 Zb ?_
  refine Dk 1 (Cb rfl rfl Jch (fun u hu=>Ja9 _ _ _ u)) ?_
  refine Dd (Qc (CS.cond rfl ?_ ?_))<;>intro hc7<;>try simp only [bq] at hc7
  ·
   refine Nz 1 ?_
   exact Wd (Qc (Cr (Qr (Qs (Qr (out1 rfl rfl (Jac (by unfold legalB; rw [if_pos hp,if_neg hc2,if_neg hc4,if_neg hc5,if_pos hc6]; unfold doB; rw [show (decide (0≤m.n) && decide (m.n≤(r.acs.l.length:Int) - 1))=false by (simp only [Bool.and_eq_false_iff,decide_eq_false_iff_not]; omega)]; simp))))))))
  have hn2:0≤m.n∧m.n < r.acs.l.length:=by omega
  have ha:=hR.acs _ (Jaj hn2.1 hn2.2)
  have hak:ActOk w (nth r.acs.l m.n):=hr.acs.at hn2.1 hn2.2
  have hus:=hak.us.ints
  have hsp:=hak.sp.ints
  have hbr:=hak.br.ints
  have lus:=ha.lus
  have lbr:=ha.lbr
  have lsp:=ha.lsp
  refine Ck (Qc (Cs ?_))
  refine CS.drawnAll (k:=11) mixed rfl rfl ?_
  refine Ak 0 [1,2,3] rfl (Ba 1) ?_
  refine Ak 4 [5] rfl Ga ?_
  refine Ak 6 [] rfl (Ba 0) ?_
  refine Ak 7 [] rfl Xc ?_
  refine Ak 8 [] rfl Ua ?_
  refine Ao 9 rfl ?_
  refine Wl 0 Jmn (fun _=>rfl) (fun _=>rfl) fun b10 hb10=>?_
  refine Wd (Qa ?_)
  refine Ao 10 rfl ?_
  refine Wv 0 0 ?_
  refine Wd (Qa ?_)
  refine Ae ?_
  refine Qc (Cs ?_)
  rcases Bool.eq_false_or_eq_true (decide ((nth r.acs.l m.n).pl=nth z.pls.l m.p)) with hb | hb
  ·
   rcases Bool.eq_false_or_eq_true (((nth r.acs.l m.n).us.l.all fun x=>decide (nth z.prs.l x = -2 - m.p)) && Jcq z.ths.l (nth r.acs.l m.n).wh.l) with hd | hd
   ·
    refine CS.drawnAll (k:=43) mixed rfl rfl ?_
    refine Ar [0] ?_
    refine Ak 1 [2,3] rfl (Ba 0) ?_
    refine Ak 4 [] rfl (Jcn (v:=.bool true) (congrArg (fun b=>some (Value.bool b)) hb)) ?_
    refine At 5 [] rfl rfl rfl (fun hg=>Fm) ?_
    refine At 6 [] rfl rfl rfl (fun hg=>Ff) ?_
    refine At 7 [] rfl rfl rfl (fun hg=>Ba 0) ?_
    refine At 8 [] rfl rfl rfl (fun hg=>Fm) ?_
    refine At 9 [] rfl rfl rfl (fun hg=>Fm) ?_
    refine Ao 10 rfl ?_
    refine WS.callFg rfl rfl rfl Jkl (fun u hu=>is_c (-2 - m.p) u b2) (fun _=>rfl) ?_; intro b168 hb168
    refine Wd (Qa ?_)
    refine Ao 11 rfl ?_
    refine Wt 0 rfl rfl (fun hg=>Cb (eg_ hg rfl) (ec_ (eg_ hg rfl) (ec_ rfl en_)) Jrq (fun u hu=>Jz8 (nth r.acs.l m.n).us u (hak.us.st hu) _ [.pointer (some ⟨b2,0,none⟩),.pointer (some ⟨b168,0,none⟩)] (fun x=>decide (nth z.prs.l x = -2 - m.p)) Jjr (fun u2 h2 i a0 a1=>Jr2 tb r z u2 ((hT.stt hu).ext h2) b2 _ ((Jap hu (j:=3) rfl).ext h2) b168 _ _ ((Jap hu (j:=0) rfl).ext h2) _ (by have:=ha.us _ (Jaj a0 a1); omega)))) ?_
    refine Wd (Qa ?_)
    refine Ak 12 [13] rfl Pa ?_
    refine At 14 [] rfl rfl rfl (fun hg=>Ba 2) ?_
    refine At 15 [] rfl rfl rfl (fun hg=>Ff) ?_
    refine At 16 [] rfl rfl rfl (fun hg=>Ba 0) ?_
    refine At 17 [] rfl rfl rfl (fun hg=>Cb rfl (ec_ (eg_ hg rfl) (ec_ (eg_ hg rfl) en_)) Jmf (fun u hu=>Jee tb r z u (hT.stt hu) (nth r.acs.l m.n).wh (hak.wh.st hu) (by rw [hlt]; exact ha.wh))) ?_
    refine Ak 18 [] rfl Pa ?_
    refine Ak 19 [] rfl (Jcn (v:=.bool true) (congrArg (fun b=>some (Value.bool b)) hd)) ?_
    refine At 20 [] rfl rfl rfl (fun hg=>Fm) ?_
    refine At 21 [] rfl rfl rfl (fun hg=>Ff) ?_
    refine At 22 [] rfl rfl rfl (fun hg=>Ba 0) ?_
    refine At 23 [] rfl rfl rfl (fun hg=>Fm) ?_
    refine Ao 24 rfl ?_
    refine WS.callFg rfl rfl rfl Jkl (fun u hu=>is_c (-1) u b2) (fun _=>rfl) ?_; intro b182 hb182
    refine Wd (Qa ?_)
    refine Ao 25 rfl ?_
    refine Wt 0 rfl rfl (fun hg=>Cb (eg_ hg rfl) (ec_ (eg_ hg rfl) (ec_ rfl en_)) Jrq (fun u hu=>Jz8 (nth r.acs.l m.n).br u (hak.br.st hu) _ [.pointer (some ⟨b2,0,none⟩),.pointer (some ⟨b182,0,none⟩)] (fun x=>decide (nth z.prs.l x = -1)) Jjr (fun u2 h2 i a0 a1=>Jr2 tb r z u2 ((hT.stt hu).ext h2) b2 _ ((Jap hu (j:=4) rfl).ext h2) b182 _ _ ((Jap hu (j:=0) rfl).ext h2) _ (by have:=ha.br _ (Jaj a0 a1); omega)))) ?_
    refine Wd (Qa ?_)
    refine Ak 26 [27] rfl Pa ?_
    refine At 28 [] rfl rfl rfl (fun hg=>Ba 2) ?_
    refine At 29 [] rfl rfl rfl (fun hg=>Ff) ?_
    refine At 30 [] rfl rfl rfl (fun hg=>Ba 1) ?_
    refine At 31 [] rfl rfl rfl (fun hg=>Cb rfl (ec_ (eg_ hg rfl) (ec_ (eg_ hg rfl) en_)) Jx7 (fun u hu=>Juv tb r z u (hT.stt hu) m.p (by omega) (by omega) (by omega))) ?_
    refine At 32 [] rfl rfl rfl (fun hg=>Ff) ?_
    refine At 33 [] rfl rfl rfl (fun hg=>Ba 0) ?_
    refine At 34 [] rfl rfl rfl (fun hg=>Na (eg_ hg rfl)) ?_
    refine At 35 [] rfl rfl rfl (fun hg=>Zb) ?_
    refine At 36 [] rfl rfl rfl (fun hg=>Ff) ?_
    refine At 37 [] rfl rfl rfl (fun hg=>Ba 0) ?_
    refine At 38 [] rfl rfl rfl (fun hg=>Na (eg_ hg rfl)) ?_
    refine At 39 [] rfl rfl rfl (fun hg=>Za) ?_
    refine At 40 [] rfl rfl rfl (fun hg=>Fk) ?_
    refine Ak 41 [42] rfl Pa ?_
    refine Ae ?_
    refine Qc (Cr (Qs (Qr ?_)))
    exact out1 rfl rfl (Jac (by
       unfold legalB; rw [if_pos hp,if_neg hc2,if_neg hc4,if_neg hc5,if_pos hc6]; unfold doB; rw [show (decide (0≤m.n) && decide (m.n≤(r.acs.l.length:Int) - 1))=true by (simp only [Bool.and_eq_true,decide_eq_true_eq]; omega)]
       simp only [Bool.and_eq_true] at hd
       rw [show Jx0 z.x (nth r.acs.l m.n) m=true from (Jhi (p:=fun x=>decide (nth z.prs.l x = -2 - m.p))).symm.trans hd.1,show Jtz z.x (nth r.acs.l m.n)=_ from (Jhi (p:=fun x=>decide (nth z.prs.l x = -1))).symm]
       unfold Jrd
       rw [show decide ((nth r.acs.l m.n).pl=nth z.x.2.2 m.p)=true from hb,show Jcq z.x.1 (nth r.acs.l m.n).wh.l=true from hd.2]
       simp only [Bool.true_and]
       rfl))
   refine CS.drawnAll (k:=43) mixed rfl rfl ?_
   refine Ar [0] ?_
   refine Ak 1 [2,3] rfl (Ba 0) ?_
   refine Ak 4 [] rfl (Jcn (v:=.bool true) (congrArg (fun b=>some (Value.bool b)) hb)) ?_
   refine At 5 [] rfl rfl rfl (fun hg=>Fm) ?_
   refine At 6 [] rfl rfl rfl (fun hg=>Ff) ?_
   refine At 7 [] rfl rfl rfl (fun hg=>Ba 0) ?_
   refine At 8 [] rfl rfl rfl (fun hg=>Fm) ?_
   refine At 9 [] rfl rfl rfl (fun hg=>Fm) ?_
   refine Ao 10 rfl ?_
   refine WS.callFg rfl rfl rfl Jkl (fun u hu=>is_c (-2 - m.p) u b2) (fun _=>rfl) ?_; intro b168 hb168
   refine Wd (Qa ?_)
   refine Ao 11 rfl ?_
   refine Wt 0 rfl rfl (fun hg=>Cb (eg_ hg rfl) (ec_ (eg_ hg rfl) (ec_ rfl en_)) Jrq (fun u hu=>Jz8 (nth r.acs.l m.n).us u (hak.us.st hu) _ [.pointer (some ⟨b2,0,none⟩),.pointer (some ⟨b168,0,none⟩)] (fun x=>decide (nth z.prs.l x = -2 - m.p)) Jjr (fun u2 h2 i a0 a1=>Jr2 tb r z u2 ((hT.stt hu).ext h2) b2 _ ((Jap hu (j:=3) rfl).ext h2) b168 _ _ ((Jap hu (j:=0) rfl).ext h2) _ (by have:=ha.us _ (Jaj a0 a1); omega)))) ?_
   refine Wd (Qa ?_)
   refine Ak 12 [13] rfl Pa ?_
   refine At 14 [] rfl rfl rfl (fun hg=>Ba 2) ?_
   refine At 15 [] rfl rfl rfl (fun hg=>Ff) ?_
   refine At 16 [] rfl rfl rfl (fun hg=>Ba 0) ?_
   refine At 17 [] rfl rfl rfl (fun hg=>Cb rfl (ec_ (eg_ hg rfl) (ec_ (eg_ hg rfl) en_)) Jmf (fun u hu=>Jee tb r z u (hT.stt hu) (nth r.acs.l m.n).wh (hak.wh.st hu) (by rw [hlt]; exact ha.wh))) ?_
   refine Ak 18 [19] rfl Pa ?_
   refine At 20 [] rfl rfl rfl (fun hg=>Fy hd hg) ?_
   refine At 21 [] rfl rfl rfl (fun hg=>Fy hd hg) ?_
   refine At 22 [] rfl rfl rfl (fun hg=>Fy hd hg) ?_
   refine At 23 [] rfl rfl rfl (fun hg=>Fy hd hg) ?_
   refine At 24 [] rfl rfl rfl (fun hg=>Fy hd hg) ?_
   refine At 25 [] rfl rfl rfl (fun hg=>Fz hd hg) ?_
   refine Ak 26 [27] rfl Pa ?_
   refine At 28 [] rfl rfl rfl (fun hg=>Fy_ (by simp [hd] at hg; done)) ?_
   refine At 29 [] rfl rfl rfl (fun hg=>Fy_ (by simp [hd] at hg; done)) ?_
   refine At 30 [] rfl rfl rfl (fun hg=>Fy_ (by simp [hd] at hg; done)) ?_
   refine At 31 [] rfl rfl rfl (fun hg=>Fy_ (by simp [hd] at hg; done)) ?_
   refine At 32 [] rfl rfl rfl (fun hg=>Fy_ (by simp [hd] at hg; done)) ?_
   refine At 33 [] rfl rfl rfl (fun hg=>Fy_ (by simp [hd] at hg; done)) ?_
   refine At 34 [] rfl rfl rfl (fun hg=>Fy_ (by simp [hd] at hg; done)) ?_
   refine At 35 [] rfl rfl rfl (fun hg=>Fy_ (by simp [hd] at hg; done)) ?_
   refine At 36 [] rfl rfl rfl (fun hg=>Fy_ (by simp [hd] at hg; done)) ?_
   refine At 37 [] rfl rfl rfl (fun hg=>Fy_ (by simp [hd] at hg; done)) ?_
   refine At 38 [] rfl rfl rfl (fun hg=>Fy_ (by simp [hd] at hg; done)) ?_
   refine At 39 [] rfl rfl rfl (fun hg=>Fy_ (by simp [hd] at hg; done)) ?_
   refine At 40 [] rfl rfl rfl (fun hg=>Fz_ (by simp [hd] at hg; done)) ?_
   refine Ak 41 [42] rfl Pa ?_
   refine Ae ?_
   refine Qc (Cr (Qs (Qr ?_)))
   exact out1 rfl rfl (Jac (by
      unfold legalB; rw [if_pos hp,if_neg hc2,if_neg hc4,if_neg hc5,if_pos hc6]; unfold doB Jrd; rw [show Jx0 z.x (nth r.acs.l m.n) m=_ from (Jhi (p:=fun x=>decide (nth z.prs.l x = -2 - m.p))).symm]
      simp only [Bool.and_false,Bool.false_and]
      simp only [Bool.and_eq_false_iff] at hd
      rcases hd with h | h
      ·
       rw [h]; simp
      rw [show Jcq z.x.1 (nth r.acs.l m.n).wh.l=false from h]; simp))
  refine Dr mixed 1 ?_
  refine Dk 3 (Ba 0) ?_
  refine Dt 0 rfl rfl (fun hg=>Fy hb hg) ?_
  refine Dt 0 rfl rfl (fun hg=>Fy hb hg) ?_
  refine Dt 0 rfl rfl (fun hg=>Fy hb hg) ?_
  refine Dt 0 rfl rfl (fun hg=>Fy hb hg) ?_
  refine Dt 0 rfl rfl (fun hg=>Fy hb hg) ?_
  refine Dt 0 rfl rfl (fun hg=>Fy hb hg) ?_
  refine Dt 0 rfl rfl (fun hg=>Fz hb hg) ?_
  refine Dk 1 Pa ?_
  refine Dt 0 rfl rfl (fun hg=>Fy_ (by rw [hb] at hg; simp at hg; done)) ?_
  refine Dt 0 rfl rfl (fun hg=>Fy_ (by rw [hb] at hg; simp at hg; done)) ?_
  refine Dt 0 rfl rfl (fun hg=>Fy_ (by rw [hb] at hg; simp at hg; done)) ?_
  refine Dt 0 rfl rfl (fun hg=>Fz_ (by rw [hb] at hg; simp at hg; done)) ?_
  refine Dk 1 Pa ?_
  refine Dt 0 rfl rfl (fun hg=>Fy_ (by rw [hb] at hg; simp at hg; done)) ?_
  refine Dt 0 rfl rfl (fun hg=>Fy_ (by rw [hb] at hg; simp at hg; done)) ?_
  refine Dt 0 rfl rfl (fun hg=>Fy_ (by rw [hb] at hg; simp at hg; done)) ?_
  refine Dt 0 rfl rfl (fun hg=>Fy_ (by rw [hb] at hg; simp at hg; done)) ?_
  refine Dt 0 rfl rfl (fun hg=>Fy_ (by rw [hb] at hg; simp at hg; done)) ?_
  refine Dt 0 rfl rfl (fun hg=>Fz_ (by rw [hb] at hg; simp at hg; done)) ?_
  refine Dk 1 Pa ?_
  refine Dt 0 rfl rfl (fun hg=>Fy_ (by rw [hb] at hg; simp at hg; done)) ?_
  refine Dt 0 rfl rfl (fun hg=>Fy_ (by rw [hb] at hg; simp at hg; done)) ?_
  refine Dt 0 rfl rfl (fun hg=>Fy_ (by rw [hb] at hg; simp at hg; done)) ?_
  refine Dt 0 rfl rfl (fun hg=>Fy_ (by rw [hb] at hg; simp at hg; done)) ?_
  refine Dt 0 rfl rfl (fun hg=>Fy_ (by rw [hb] at hg; simp at hg; done)) ?_
  refine Dt 0 rfl rfl (fun hg=>Fy_ (by rw [hb] at hg; simp at hg; done)) ?_
  refine Dt 0 rfl rfl (fun hg=>Fy_ (by rw [hb] at hg; simp at hg; done)) ?_
  refine Dt 0 rfl rfl (fun hg=>Fy_ (by rw [hb] at hg; simp at hg; done)) ?_
  refine Dt 0 rfl rfl (fun hg=>Fy_ (by rw [hb] at hg; simp at hg; done)) ?_
  refine Dt 0 rfl rfl (fun hg=>Fy_ (by rw [hb] at hg; simp at hg; done)) ?_
  refine Dt 0 rfl rfl (fun hg=>Fy_ (by rw [hb] at hg; simp at hg; done)) ?_
  refine Dt 0 rfl rfl (fun hg=>Fy_ (by rw [hb] at hg; simp at hg; done)) ?_
  refine Dt 0 rfl rfl (fun hg=>Fz_ (by rw [hb] at hg; simp at hg; done)) ?_
  refine Dk 1 Pa ?_
  exact Dd (Qc (Cr (Qs (Qr (out1 rfl rfl (Jac (by unfold legalB; rw [if_pos hp,if_neg hc2,if_neg hc4,if_neg hc5,if_pos hc6]; unfold doB Jrd; rw [show decide ((nth r.acs.l m.n).pl=nth z.x.2.2 m.p)=false from hb]; simp)))))))
 refine Ck (Qb (Qc (Nz 1 ?_)))
 exact Wd (Qc (Cr (out1 rfl rfl (Jac (by unfold legalB; rw [if_pos hp,if_neg hc2,if_neg hc4,if_neg hc5,if_neg hc6])))))
end Go.Proofs.YtfbfdnoodccgiaaGreatDoor
