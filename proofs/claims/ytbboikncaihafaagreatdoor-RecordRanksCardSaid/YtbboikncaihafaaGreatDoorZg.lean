/- Merged texts of this proof (walks and plain laws), printed by a program of the prover. -/
import Derived.Test.YtbboikncaihafaaGreatDoorZf
import Derived.Test.YtbboikncaihafaaGreatDoorZb
set_option maxHeartbeats 8000000
namespace Go.Proofs.YtbboikncaihafaaGreatDoor
open Go.RowKit Go.Proofs
set_option maxRecDepth 100000
set_option linter.unusedVariables false
set_option linter.unusedSimpArgs false
theorem Jg3 (z:Stt) (w:World) (hz:SttOk w z) (hm:z.ths.l.length≤1000000∧z.prs.l.length≤1000000∧z.pls.l.length≤1000000) :
  Calls Tryz.prog 15 #[.agg #[z.ths.v,z.prs.v,z.pls.v]] w (fun e w'=>∃ x:Value × Value × Value,(x.1.oneCell'=true∧x.2.1.oneCell'=true∧x.2.2.oneCell'=true)∧RetF w (.agg #[x.1,x.2.1,x.2.2]) (star [oints 3 x.1 z.ths.l,oints 3 x.2.1 z.prs.l,oints 3 x.2.2 z.pls.l]) e w'):=by
 have zth:=hz.ths.ints
 have zpr:=hz.prs.ints
 have zpl:=hz.pls.ints
 refine enter Tryz.func15 rfl rfl (Nat.le_of_ble_eq_true rfl) ?_
 refine Nz 0 ?_
 refine Wb 0 rfl rfl (fun _=>rfl) (fun _=>rfl) fun b1 hb1=>?_
 refine Wl 0 zv44 (fun _=>rfl) (fun _=>rfl) fun b2 hb2=>?_
 refine Wd (Qc (Cs ?_))
 refine CS.drawnBut 0 (k:=14) Jah rfl rfl rfl ?_
 refine Ar [1] ?_
 refine Ak 2 [5] rfl (Ba 0) ?_
 refine Ak 6 [9] rfl (Ba 0) ?_
 refine Ak 10 [] rfl (Ba 0) ?_
 refine AS.many (nn:=7) (L':=fun vs=>[osl 3 1 (vs 3) z.ths.l.length (ints z.ths.l),osl 3 1 (vs 7) z.prs.l.length (ints z.prs.l),osl 3 1 (vs 11) z.pls.l.length (ints z.pls.l),blk b2 [.slice none 0 0,.slice none 0 0,.slice none 0 0] 44,blk b1 [z.ths.v,z.prs.v,z.pls.v] 44]) [0,3,4,7,8,11,12] (fun i=>match i with | 0=>3 | 3=>6 | 4=>7 | 7=>10 | 8=>11 | 11=>14 | 12=>15 | _=>0) (fun i=>match i with | 3=>[0] | 7=>[4,3] | 11=>[8,7] | 12=>[3,7,11] | _=>[]) (fun i=>match i with | 3=>some 0 | 7=>some 4 | 11=>some 8 | _=>none) (fun i v=>match i with | 0=>[osl 3 1 v 0 []] | 4=>[osl 3 1 v 0 []] | 8=>[osl 3 1 v 0 []] | 3=>[osl 3 1 v z.ths.l.length (ints z.ths.l)] | 7=>[osl 3 1 v z.prs.l.length (ints z.prs.l)] | 11=>[osl 3 1 v z.pls.l.length (ints z.pls.l)] | _=>[]) (fun i vs=>match i with | 3=>(vs 3).oneCell'=true | 7=>(vs 7).oneCell'=true | 11=>(vs 11).oneCell'=true | 12=>vs 12 = .agg #[vs 3,vs 7,vs 11] | _=>True) (by kernel_rfl) (by decide) rfl rfl (by first | exact fun _ h=>h | exact fun _ h=>h.sub (by repeat first | exact List.Sublist.refl _ | apply List.Sublist.cons_cons | apply List.Sublist.cons)) ?_ (fun _=>rfl) (fun _=>rfl) ?_ ?_
 ·
  intro i hi vs vs' hv h
  simp only [List.mem_cons,List.not_mem_nil,or_false] at hi
  rcases hi with rfl | rfl | rfl | rfl | rfl | rfl | rfl
  ·
   trivial
  ·
   have e:=fun j hj=>(hv j hj).symm; simp only [upd] at h ⊢; rw [e 3 (by decide)]; exact h
  ·
   trivial
  ·
   have e:=fun j hj=>(hv j hj).symm; simp only [upd] at h ⊢; rw [e 7 (by decide)]; exact h
  ·
   trivial
  ·
   have e:=fun j hj=>(hv j hj).symm; simp only [upd] at h ⊢; rw [e 11 (by decide)]; exact h
  have e:=fun j hj=>(hv j hj).symm; simp only [upd] at h ⊢; rw [e 12 (by decide),e 3 (by decide),e 7 (by decide),e 11 (by decide)]; exact h
 ·
  intro i hi o ho
  simp only [List.mem_cons,List.not_mem_nil,or_false] at hi
  rcases hi with rfl | rfl | rfl | rfl | rfl | rfl | rfl
  ·
   obtain rfl:=Option.some.inj ho -- ref.go:445
   intro Q vs l' M hn hd hb k
   refine WS.build0 sl42 zv3 (l':=fun v=>l'.set 3 v) (fun v=>Ja1 _ _ _) ?_; intro v; refine WS.done ?_; exact k v trivial
  ·
   obtain rfl:=Option.some.inj ho -- ref.go:445
   intro Q vs l' M hn hd hb k
   refine WS.append0 (j:=0) (news:=ints z.ths.l) (m:=z.ths.l.length) sl42 zv3 rfl (by decide) (hd 0 (by decide)).1 rfl ((hb 5 (by decide)).trans rfl) (fun u hu=>zth.st hu) (by simp [ints,Value.oneCell']) (by omega) (by omega) (l':=fun v=>l'.set 6 v) (fun v=>Ja1 _ _ _) (fun _=>rfl) ?_; intro v; refine WS.oc (j:=0) rfl (fun hv=>?_); refine WS.done ?_; exact k v hv
  ·
   obtain rfl:=Option.some.inj ho -- ref.go:445
   intro Q vs l' M hn hd hb k
   refine WS.build0 sl42 zv3 (l':=fun v=>l'.set 7 v) (fun v=>Ja1 _ _ _) ?_; intro v; refine WS.done ?_; exact k v trivial
  ·
   obtain rfl:=Option.some.inj ho -- ref.go:445
   intro Q vs l' M hn hd hb k
   refine WS.append0 (j:=0) (news:=ints z.prs.l) (m:=z.prs.l.length) sl42 zv3 rfl (by decide) (hd 4 (by decide)).1 rfl ((hb 9 (by decide)).trans rfl) (fun u hu=>zpr.st hu) (by simp [ints,Value.oneCell']) (by omega) (by omega) (l':=fun v=>l'.set 10 v) (fun v=>Ja1 _ _ _) (fun _=>rfl) ?_; intro v; refine WS.oc (j:=0) rfl (fun hv=>?_); refine WS.done ?_; exact k v hv
  ·
   obtain rfl:=Option.some.inj ho -- ref.go:445
   intro Q vs l' M hn hd hb k
   refine WS.build0 sl42 zv3 (l':=fun v=>l'.set 11 v) (fun v=>Ja1 _ _ _) ?_; intro v; refine WS.done ?_; exact k v trivial
  ·
   obtain rfl:=Option.some.inj ho -- ref.go:445
   intro Q vs l' M hn hd hb k
   refine WS.append0 (j:=0) (news:=ints z.pls.l) (m:=z.pls.l.length) sl42 zv3 rfl (by decide) (hd 8 (by decide)).1 rfl ((hb 13 (by decide)).trans rfl) (fun u hu=>zpl.st hu) (by simp [ints,Value.oneCell']) (by omega) (by omega) (l':=fun v=>l'.set 14 v) (fun v=>Ja1 _ _ _) (fun _=>rfl) ?_; intro v; refine WS.oc (j:=0) rfl (fun hv=>?_); refine WS.done ?_; exact k v hv
  obtain rfl:=Option.some.inj ho -- ref.go:445
  intro Q vs l' M hn hd hb k
  have q3:l'[6]? = _∧_:=hd 3 (by decide)
  have q7:l'[10]? = _∧_:=hd 7 (by decide)
  have q11:l'[14]? = _∧_:=hd 11 (by decide)
  refine WS.det rfl rfl rfl (Jij Jgu zv44 (parts:=[(0,vs 3),(1,vs 7),(2,vs 11)]) (by simp [evp,evo,q3.1,q7.1,q11.1]) rfl (by have a:=q3.2; have b:=q7.2; have c:=q11.2; simp at a b c; simp [a,b,c])) (Ja1 _ _ _) ?_
  refine Wd ?_
  exact k _ (by simp [upd])
 intro vs hvs
 -- on
 have q3:=hvs 3 (by decide)
 have q7:=hvs 7 (by decide)
 have q11:=hvs 11 (by decide)
 have q12:=hvs 12 (by decide)
 simp only at q3 q7 q11 q12
 rw [q12]
 refine Ao 13 rfl ?_
 refine Wv 0 3 ?_
 refine Wd (Qa ?_)
 refine Ae ?_
 exact Qc (Cr (outR (resc rfl (Jak (j:=3) rfl rfl tk44)) (fun u hu=>⟨(_,_,_),⟨q3,q7,q11⟩,Jj7 (hu.sel [0,0,0] rfl) (List.Perm.refl _)⟩)))
theorem retS {w0 u:World} {L:List SA} {is:List Nat} {e1 e2 e3:TypeId} {a b c:Value} {xs ys zs:List Int} {f:Value→Value} (hs:selo L is=some [oints e1 a xs,oints e2 b ys,oints e3 c zs]) (hu:St w0.heap.size w0 L u) :
  RetS w0 (xs,ys,zs) f (.returned (f (.agg #[a,b,c]))) u:=by
 have h1:=St.toRo (A:=star [oints e1 a xs,oints e2 b ys,oints e3 c zs]) (p:=fun u=>SttOk u ⟨⟨a,xs⟩,⟨b,ys⟩,⟨c,zs⟩⟩) (L:=[]) (fun S u h=>⟨SlI.tree (Star.oints (L:=[oints e1 a xs,oints e2 b ys,oints e3 c zs]) (j:=0) rfl h.1),SlI.tree (Star.oints (L:=[oints e1 a xs,oints e2 b ys,oints e3 c zs]) (j:=1) rfl h.1),SlI.tree (Star.oints (L:=[oints e1 a xs,oints e2 b ys,oints e3 c zs]) (j:=2) rfl h.1)⟩) (St.pack (L2:=[]) (by simpa using hu.sel is hs))
 exact ⟨⟨⟨a,xs⟩,⟨b,ys⟩,⟨c,zs⟩⟩,⟨rfl,u,h1.ro (j:=0) rfl⟩,retF (j:=0) rfl u h1⟩
theorem Jmw {w0 u:World} {L:List SA} {f:Value→Value} (hu:St w0.heap.size w0 L u):RetS w0 no3 f (.returned (f (.agg #[.slice none 0 0,.slice none 0 0,.slice none 0 0]))) u:=by
 have h1:St w0.heap.size w0 (oints 3 (.slice none 0 0) []::L) u:=St.osl0 hu
 have h2:St w0.heap.size w0 (oints 3 (.slice none 0 0) []::oints 3 (.slice none 0 0) []::L) u:=St.osl0 h1
 have h3:St w0.heap.size w0 (oints 3 (.slice none 0 0) []::oints 3 (.slice none 0 0) []::oints 3 (.slice none 0 0) []::L) u:=St.osl0 h2
 exact retS (is:=[0,0,0]) rfl h3
theorem Je6 (r:Room) (w:World) (hr:RoomOk w r) (z:Stt) (hz:SttOk w z) (hm:z.ths.l.length≤1000000∧z.prs.l.length≤1000000∧z.pls.l.length≤1000000) (ha:Jge r.aus.l z.ths.l.length) :
  Calls Tryz.prog 257 #[.agg #[r.pls.v,r.ths.v,r.prs.v,r.wys.v,r.acs.v,r.aus.v,.int .i64 r.ply,r.gl.v],.agg #[z.ths.v,z.prs.v,z.pls.v]] w (RetS w ((settleV r z.x).getD no3) fun v=>.tuple #[v,.bool (settleV r z.x).isSome]):=by
 have kpl:=hr.pls
 have lpl:=hr.pls.le
 have kth:=hr.ths
 have lth:=hr.ths.le
 have kpr:=hr.prs
 have lpr:=hr.prs.le
 have kwy:=hr.wys
 have lwy:=hr.wys.le
 have kac:=hr.acs
 have lac:=hr.acs.le
 have kau:=hr.aus
 have lau:=hr.aus.le
 have kgl:=hr.gl
 have lgl:=hr.gl.le
 refine enter Tryz.func257 rfl rfl (Nat.le_of_ble_eq_true rfl) ?_
 refine Nz 0 ?_
 refine Wb 0 rfl rfl (fun _=>rfl) (fun _=>rfl) fun b2 hb2=>?_
 refine Wb 0 rfl rfl (fun _=>rfl) (fun _=>rfl) fun b3 hb3=>?_
 refine Wl 1 zv44 (fun _=>rfl) (fun _=>rfl) fun b4 hb4=>?_
 refine Wd (Qc (Nz 0 ?_))
 refine Wk 0 (Bb 1) ?_
 refine Wc rfl rfl J0g (fun u hu=>Jg3 z u (hz.st hu) hm) (fun _=>rfl) ?_; rintro ⟨va,vb,vc⟩ ⟨oa,ob,oc⟩
 refine WS.unpack ?_
 refine Wl 0 zv44 (fun _=>rfl) (fun _=>rfl) fun b6 hb6=>?_
 refine Wv 0 0 ?_
 refine Wd (Qc (Cs (Nz 1 ?_)))
 refine Wd (Qc (Ce ?_))
 refine CS.sel [1,1,1,0,0,1] rfl ?_
 refine CS.loopM (σ:=Int × List Int) [5,8,9,10,13,14,15,16,17,18,19,20,21,22,23,24,25,26,27,28,29,30,31,32,33,34,35,36,37,38,39,40,41,42,43,44,45,46,47,48,49,50,51,52,53,54,55,56,57,58,59,60,61,62,63,64,65,66,67,68,69,70] (fun s=>[(7,.int .i64 s.1)]) (fun s=>[oints 3 va s.2,oints 3 vb z.prs.l,oints 3 vc z.pls.l,blk b6 [va,vb,vc] 44,blk b4 [.slice none 0 0,.slice none 0 0,.slice none 0 0] 44,blk b2 [r.pls.v,r.ths.v,r.prs.v,r.wys.v,r.acs.v,r.aus.v,.int .i64 r.ply,r.gl.v] 31]) (fun s=>0≤s.1∧s.1≤101∧s.2.length=z.ths.l.length∧settleN r.aus.l 101 z.ths.l=settleN r.aus.l (101 - s.1).toNat s.2) (fun s=>(101 - s.1).toNat) (0,z.ths.l) (fun _ _=>rfl) rfl rfl ⟨by simp,by simp,rfl,rfl⟩ ?_
 intro s t hs
 obtain ⟨hs1,hs2,hsl,hs4⟩:=hs
 let hS:=s
 refine Cs (Nz 2 ?_)
 refine Wd (Qc (CS.cond rfl ?_ ?_))<;>intro hc1<;>try simp only [bq] at hc1
 ·
  refine Ck (Qc (Cs (Ce (Nz 1 ?_))))
  refine Wd (Qc (Cs (Nz 1 ?_)))
  refine Wd (Qc (Ce ?_))
  refine CS.loopM (σ:=Int × Int) [10,17,18,19,20,21,22,23,24,25,26,27,28,29,30,31,32,33,34,35,36,37,38,39,40,41,42,43,44,45,46,47,48,49,50] (fun s=>[(9,.int .i64 s.1),(8,.int .i64 s.2)]) (fun _=>_) (fun s=>0≤s.1∧s.1≤r.aus.l.length∧((s.2 = -1∧∀ j:Int,0≤j→j < s.1→(Jcd hS.2 (nth r.aus.l j).wh.l && !decide (nth hS.2 (nth r.aus.l j).t=(nth r.aus.l j).s))=false)∨(0≤s.2∧s.2 < s.1∧(Jcd hS.2 (nth r.aus.l s.2).wh.l && !decide (nth hS.2 (nth r.aus.l s.2).t=(nth r.aus.l s.2).s))=true∧∀ j:Int,0≤j→j < s.2→(Jcd hS.2 (nth r.aus.l j).wh.l && !decide (nth hS.2 (nth r.aus.l j).t=(nth r.aus.l j).s))=false))) (fun s=>(r.aus.l.length - s.1).toNat) (0, -1) (fun _ _=>rfl) rfl rfl ⟨by simp,by simp,.inl ⟨rfl,fun j h0 h1=>by simp at h1; omega⟩⟩ ?_
  intro q t hs
  obtain ⟨hq1,hq2,hq3⟩:=hs
  refine Cs (Nz 2 ?_)
  refine Wk 0 (Ba 5) ?_
  refine Wk 2 Nc ?_
  refine Wt 0 rfl rfl (fun hg=>Fm) ?_
  refine Wt 0 rfl rfl (fun hg=>Fl) ?_
  refine Wk 0 Pa ?_
  refine Wd (Qc (CS.cond rfl ?_ ?_))<;>intro hc2<;>try simp only [bq] at hc2
  ·
   have hq4:0≤q.1∧q.1 < r.aus.l.length:=by omega
   have hau:=ha _ (Jai hq4.1 hq4.2)
   have hwh:SlT cLit w (nth r.aus.l q.1).wh:=hr.aus.at hq4.1 hq4.2
   refine Ck (Qc (Cs (Ce (Nz 1 ?_))))
   refine Wk 1 (Ba 5) ?_
   refine Wk 0 Xc ?_
   refine Wk 0 Ua ?_
   refine Wl 0 J04 (fun _=>rfl) (fun _=>rfl) fun b10 hb10=>?_
   refine Wv 0 0 ?_
   refine Wd (Qc (Cs (Dr Jah 0 ?_)))
   refine Dk 1 (Bb 4) ?_
   refine Dk 0 (Ba 0) ?_
   refine Dk 1 (Cb rfl rfl Jl0 (fun u hu=>Je2 ⟨⟨va,s.2⟩,⟨vb,z.prs.l⟩,⟨vc,z.pls.l⟩⟩ u ⟨(Jad hu (j:=1) rfl).tree,(Jad hu (j:=2) rfl).tree,(Jad hu (j:=3) rfl).tree⟩ (nth r.aus.l q.1).wh (hwh.st hu) (by rw [← hsl] at hau; exact hau.2))) ?_
   refine Dt 0 rfl rfl (fun hg=>Ff) ?_
   refine Dt 0 rfl rfl (fun hg=>Ba 4) ?_
   refine Dt 0 rfl rfl (fun hg=>Ff) ?_
   refine Dt 0 rfl rfl (fun hg=>Ff) ?_
   refine Dt 0 rfl rfl (fun hg=>Ba 0) ?_
   refine Dt 0 rfl rfl (fun hg=>Xb 1 (eg_ hg rfl)) ?_
   refine Dt 0 rfl rfl (fun hg=>Ib 1) ?_
   refine Dt 0 rfl rfl (fun hg=>Ff) ?_
   refine Dt 0 rfl rfl (fun hg=>Ff) ?_
   refine Dt 0 rfl rfl (fun hg=>Ba 0) ?_
   refine Dt 0 rfl rfl (fun hg=>Fr) ?_
   refine Dk 0 Pa ?_
   refine Dd (Qc (CS.cond rfl ?_ ?_))<;>intro hc3<;>try simp only [bq] at hc3
   ·
    refine Ny 2 ?_
    refine Wd (Qb (Qc (Ny 1 ?_)))
    refine Wk 1 Za ?_
    refine Wd ?_
    refine QS.sel [1,1,1,1,1,1] rfl ?_
    exact QS.head ((q.1+1,q.1)) rfl rfl ⟨⟨by simp; omega,by simp; omega,.inr ⟨hq4.1,by simp; omega,by simpa using hc3,fun j h0 h1=>by
         rcases hq3 with ⟨h,hb⟩ | ⟨h,_⟩
         ·
          exact hb j h0 h1
         omega⟩⟩,by simp; omega⟩
   refine Ck (Qb (Qc (Ny 1 ?_)))
   refine Wk 1 Za ?_
   refine Wd ?_
   refine QS.sel [1,1,1,1,1,1] rfl ?_
   exact QS.head ((q.1+1,q.2)) rfl rfl ⟨⟨by simp; omega,by simp; omega,.inl (by
        rcases hq3 with ⟨h,hb⟩ | ⟨h,_⟩
        ·
         refine ⟨h,fun j h0 h1=>?_⟩
         simp only at h1
         rcases (show j < q.1∨j=q.1 by omega) with hj | hj
         ·
          exact hb j h0 hj
         rw [hj]; show (Jcd s.2 (nth r.aus.l q.1).wh.l && !decide (nth s.2 (nth r.aus.l q.1).t=(nth r.aus.l q.1).s))=false; rcases hc3 with h | h <;> simp [h]
        omega)⟩,by simp; omega⟩
  have hqa:q.2=autoI r.aus.l s.2:=by
     unfold autoI
     rcases hq3 with ⟨h,hb⟩ | ⟨h0,h1,h2,hb⟩
     ·
      rw [Jbe (p:=(fun a:Auto=>Jcd s.2 a.wh.l && !decide (nth s.2 a.t=a.s))) fun j a b=>hb j a (by omega)]; exact h
     exact (Ja3 (p:=(fun a:Auto=>Jcd s.2 a.wh.l && !decide (nth s.2 a.t=a.s))) h0 (by omega) hb h2).symm
  refine Cv (Qe (Qe (Qx (Qc (Cs (Nz 2 ?_))))))
  refine Wd (Qc (CS.cond rfl ?_ ?_))<;>intro hc4<;>try simp only [bq] at hc4
  ·
   refine Nz 0 ?_
   refine Wk 0 (Bb 3) ?_
   refine Wv 1 4 ?_
   refine Wd (Qc (Cr (Qr (Qs (Qr (Qr (Qs (Qr ?_))))))))
   exact outR (Jcv rfl (Jak (j:=4) rfl rfl tk44) rfl) (by
     have hv:settleV r z.x=some (s.2,z.prs.l,z.pls.l):=by
      simp only [settleV,Stt.x]
      rw [hs4,show (101 - s.1).toNat=(100 - s.1).toNat+1 by omega,settleN,if_pos (show autoI r.aus.l s.2 < 0 by omega)]
      rfl
     rw [hv]
     exact fun u hu=>retS (f:=fun v=>.tuple #[v,.bool true]) (is:=[0,0,0]) rfl hu)
  have hau2:=Jng (aus:=r.aus.l) (ths:=s.2) (by omega)
  rw [← hqa] at hau2
  have hat:=(ha _ (Jai hau2.1 hau2.2)).1
  refine Ck (Qc ?_)
  refine CS.drawnTill 17 (k:=18) Jah rfl rfl ?_
  refine Tr 18 [0] ?_
  refine Tk 18 1 [2] rfl (Ba 3) ?_
  refine Tk 18 3 [4] rfl (Ba 5) ?_
  refine Tk 18 5 [6,7] rfl Xc ?_
  refine Tk 18 8 [9] rfl (Uc 3 1) ?_
  refine Tk 18 10 [11] rfl (Ba 5) ?_
  refine Tk 18 12 [13,14] rfl Xc ?_
  refine Tk 18 15 [] rfl (Uc 3 2) ?_
  refine Tk 18 16 [] rfl (Xb 0) ?_
  refine To 17 rfl ?_
  refine WS.storeOI (j:=0) rfl rfl (by omega) rfl tk3 rfl ?_
  refine Wd (Qt ?_)
  refine Te ?_
  refine Qb (Qc (Ny 1 ?_))
  refine Wk 1 Za ?_
  refine Wd ?_
  exact QS.head ((s.1+1,s.2.set (nth r.aus.l q.2).t.toNat (nth r.aus.l q.2).s)) rfl rfl ⟨⟨by simp; omega,by simp; omega,by simp [hsl],by
      rw [hs4,show (101 - s.1).toNat=(101 - (s.1+1)).toNat+1 by omega,settleN,if_neg (by omega), ← hqa]⟩,by simp; omega⟩
 refine Cv (Qe (Qe (Qx (Qc (Nz 0 ?_)))))
 refine Wk 0 (Db Jgu zv44) ?_
 refine Wv 1 4 ?_
 refine Wd (Qc (Cr ?_))
 exact outR (Jcv rfl (Jak (j:=4) rfl rfl tk44) rfl) (by
   have hv:settleV r z.x=none:=by
    simp only [settleV,Stt.x]
    rw [hs4,show (101 - s.1).toNat=0 by omega]
    rfl
   rw [hv]
   exact fun u hu=>Jmw (f:=fun v=>.tuple #[v,.bool false]) hu)
theorem Jxg (r:Room) (w:World) (hr:RoomOk w r) (hn:Near r) (z:Stt) (hz:SttOk w z) :
  Calls Tryz.prog 225 #[.agg #[r.pls.v,r.ths.v,r.prs.v,r.wys.v,r.acs.v,r.aus.v,.int .i64 r.ply,r.gl.v],.agg #[z.ths.v,z.prs.v,z.pls.v]] w (RetS w (SettleV r z.x).2 fun v=>.tuple #[v,.int .i64 (SettleV r z.x).1]):=by
 refine enter Tryz.func225 rfl rfl (Nat.le_of_ble_eq_true rfl) ?_
 refine Nz 0 ?_
 refine Wb 0 rfl rfl (fun _=>rfl) (fun _=>rfl) fun b2 hb2=>?_
 refine Wb 0 rfl rfl (fun _=>rfl) (fun _=>rfl) fun b3 hb3=>?_
 refine Wl 1 zv44 (fun _=>rfl) (fun _=>rfl) fun b4 hb4=>?_
 refine Wd (Qc (Nz 0 ?_))
 refine Wk 0 (Bb 2) ?_
 refine Wk 0 (Bb 1) ?_
 refine Wk 1 (Cb rfl rfl J4f (fun u hu=>Jib r u (hr.st hu) hn z (hz.st hu))) ?_
 refine Wd (Qc (Cs (Nz 2 ?_)))
 refine Wd (Qc (CS.cond rfl ?_ ?_))<;>intro hc1<;>try simp only [bq] at hc1
 ·
  have hS:¬ stL r z.x=0:=hc1
  refine Nz 0 ?_
  refine Wk 1 (Db Jgu zv44) ?_
  refine Wv 1 0 ?_
  refine Wd (Qc (Cr (Qr ?_)))
  exact outR (Jcv rfl (Jak (j:=0) rfl rfl tk44) rfl) (by
    have hv:SettleV r z.x=(stL r z.x,no3):=if_neg hS
    rw [hv]
    exact fun u hu=>Jmw (f:=fun v=>.tuple #[v,.int .i64 (stL r z.x)]) hu)
 have hc1:Jer r z=0:=hc1
 have hc1:stL r z.x=0:=hc1
 have hS:stL r z.x=0:=by omega
 obtain ⟨hC,hI⟩:=Jfv.1 hS
 have hR:=Jd5 hC
 have hlen:=hR.lens
 have hply:=hR.ply
 have hlt:z.ths.l.length=r.ths.l.length:=hI.lt
 have hlp:z.prs.l.length=r.prs.l.length:=hI.lp
 have hll:(z.pls.l.length:Int)=r.ply:=hI.ll
 refine Ck (Qc (Nz 0 ?_))
 refine Wk 0 (Bb 2) ?_
 refine Wk 0 (Bb 1) ?_
 refine Wc rfl rfl Jlx (fun u hu=>Je6 r u (hr.st hu) z (hz.st hu) (hI.small hR) (hI.autos hR)) (fun _=>rfl) ?_; rintro y ⟨hyx,uy,hyok⟩
 obtain ⟨hya,hyb,hyc⟩:=hyok.ones
 refine Wz 3 ?_
 refine Wl 0 zv44 (fun _=>rfl) (fun _=>rfl) fun b7 hb7=>?_
 refine Wv 1 0 ?_
 refine Wd (Qc (Cs (Nz 2 ?_)))
 refine Wd (Qc (CS.cond rfl ?_ ?_))<;>intro hc2<;>try simp only [bq] at hc2
 ·
  refine Nz 0 ?_
  refine Wk 0 (Db Jgu zv44) ?_
  refine Wv 1 2 ?_
  refine Wd (Qc (Cr (Qr ?_)))
  exact outR (Jcv rfl (Jak (j:=2) rfl rfl tk44) rfl) (by
    have hv:SettleV r z.x=(27,no3):=(if_pos hS).trans (Jyq hc2)
    rw [hv]
    exact fun u hu=>Jmw (f:=fun v=>.tuple #[v,.int .i64 (27)]) hu)
 refine Ck (Qc (Nz 0 ?_))
 refine Wk 0 (Bb 0) ?_
 refine Wv 1 2 ?_
 refine Wd (Qc (Cr ?_))
 exact outR (Jcv rfl (Jak (j:=2) rfl rfl tk44) rfl) (by
   have hv:SettleV r z.x=_:=(if_pos hS).trans (Jxp hc2)
   rw [hv]
   exact fun u hu=>Jq1 (f:=fun v=>.tuple #[v,.int .i64 0]) (j:=1) rfl hyx hu)
theorem Jzo (z:Stt) (w:World) (hz:SttOk w z) (p:Int) (h0:0≤p) (h1:p≤3) (hl:z.prs.l.length≤1000000) :
  Calls Tryz.prog 276 #[.agg #[z.ths.v,z.prs.v,z.pls.v],.int .i64 p] w (RetB w (.int .i64 (cnt z.prs.l (-2 - p)))):=by
 have zth:=hz.ths.ints
 have zpr:=hz.prs.ints
 have zpl:=hz.pls.ints
 refine enter Tryz.func276 rfl rfl (Nat.le_of_ble_eq_true rfl) ?_
 refine Nz 0 ?_
 refine Wb 1 rfl rfl (fun _=>rfl) (fun _=>rfl) fun b2 hb2=>?_
 refine Wd (Qc (Nz 1 ?_))
 refine Wd (Qc (Cs (Nz 1 ?_)))
 refine Wd (Qc (Ce ?_))
 refine CS.loopM (σ:=Int × Int) [7,8,9,10,11,12,13,14,15,16,17,18,19,20,21,22,23] (fun s=>[(6,.int .i64 s.1),(5,.int .i64 s.2)]) (fun _=>_) (fun s=>0≤s.1∧s.1≤z.prs.l.length∧s.2=cnt (z.prs.l.take s.1.toNat) (-2 - p)) (fun s=>(z.prs.l.length - s.1).toNat) (0,0) (fun _ _=>rfl) rfl rfl ⟨by simp,by simp,rfl⟩ ?_
 intro s t hs
 obtain ⟨hs1,hs2,hs3⟩:=hs
 have hcl:=Jeh (z.prs.l.take s.1.toNat) (-2 - p)
 have htl:=List.length_take_le s.1.toNat z.prs.l
 refine Cs (Nz 2 ?_)
 refine Wk 0 (Ba 0) ?_
 refine Wk 1 Na ?_
 refine Wd (Qc (CS.cond rfl ?_ ?_))<;>intro hc1<;>try simp only [bq] at hc1
 ·
  refine Ck (Qc (Cs (Ce (Nz 1 ?_))))
  refine Wk 1 (Ba 0) ?_
  refine Wk 0 Xa ?_
  refine Wk 1 Ia ?_
  refine Wk 1 Zb ?_
  refine Wd (Qc (CS.cond rfl ?_ ?_))<;>intro hc2<;>try simp only [bq] at hc2
  ·
   refine Ny 1 ?_
   refine Wk 1 Za ?_
   refine Wd (Qb (Qc (Ny 1 ?_)))
   refine Wk 1 Za ?_
   exact Wd (QS.head ((s.1+1,s.2+1)) rfl rfl ⟨⟨by simp; omega,by simp; omega,by simp only; rw [Jhp hs1 (by omega),if_pos hc2,hs3]⟩,by simp; omega⟩)
  refine Ck (Qb (Qc (Ny 1 ?_)))
  refine Wk 1 Za ?_
  exact Wd (QS.head ((s.1+1,s.2)) rfl rfl ⟨⟨by simp; omega,by simp; omega,by simp only; rw [Jhp hs1 (by omega),if_neg hc2,hs3,Int.add_zero]⟩,by simp; omega⟩)
 refine Cv (Qe (Qe (Qx (Qc (Nz 2 ?_)))))
 exact Wd (Qc (Cr (out1 rfl rfl (Jab (by rw [hs3,List.take_of_length_le (by omega)])))))
theorem J0q (r:Room) (w:World) (hr:RoomOk w r) (z:Stt) (hz:SttOk w z) (hR:Ready r) (hI:StIn r z.x) (m:Move) :
  Calls Tryz.prog 273 #[.agg #[r.pls.v,r.ths.v,r.prs.v,r.wys.v,r.acs.v,r.aus.v,.int .i64 r.ply,r.gl.v],.agg #[z.ths.v,z.prs.v,z.pls.v],.agg #[.int .i64 m.p,.int .i64 m.k,.int .i64 m.n]] w (RetB w (.bool (legalB r z.x m))):=by
 have kpl:=hr.pls
 have lpl:=hr.pls.le
 have kth:=hr.ths
 have lth:=hr.ths.le
 have kpr:=hr.prs
 have lpr:=hr.prs.le
 have kwy:=hr.wys
 have lwy:=hr.wys.le
 have kac:=hr.acs
 have lac:=hr.acs.le
 have kau:=hr.aus
 have lau:=hr.aus.le
 have kgl:=hr.gl
 have lgl:=hr.gl.le
 have zth:=hz.ths.ints
 have zpr:=hz.prs.ints
 have zpl:=hz.pls.ints
 have hlen:=hR.lens
 have hply:=hR.ply
 have hlt:z.ths.l.length=r.ths.l.length:=hI.lt
 have hlp:z.prs.l.length=r.prs.l.length:=hI.lp
 have hll:(z.pls.l.length:Int)=r.ply:=hI.ll
 refine enter Tryz.func273 rfl rfl (Nat.le_of_ble_eq_true rfl) ?_
 refine Nz 0 ?_
 refine Wb 0 rfl rfl (fun _=>rfl) (fun _=>rfl) fun b3 hb3=>?_
 refine Wb 0 rfl rfl (fun _=>rfl) (fun _=>rfl) fun b4 hb4=>?_
 refine Wb 1 rfl rfl (fun _=>rfl) (fun _=>rfl) fun b5 hb5=>?_
 refine Wd (Qc (Cs (Nz 1 ?_)))
 refine Wk 1 (Ba 0) ?_
 refine Wk 0 (Ba 2) ?_
 refine Wk 0 Zb ?_
 refine Wk 1 (Cb rfl rfl Jid (fun u hu=>Jef _ _ _ u)) ?_
 refine Wd (Qc (CS.cond rfl ?_ ?_))<;>intro hc1<;>try simp only [bq] at hc1
 ·
  refine Nz 1 ?_
  exact Wd (Qc (Cr (Qr (out1 rfl rfl (Jab (by unfold legalB; rw [if_neg (by simp only [Bool.and_eq_true,decide_eq_true_eq]; omega)]))))))
 have hp:(decide (0≤m.p) && decide (m.p≤r.ply - 1))=true:=by simp only [Bool.and_eq_true,decide_eq_true_eq]; exact hc1
 have hat:=hI.at (i:=m.p) (by omega) (show m.p < z.pls.l.length by omega)
 refine Ck (Qc (Cs (Dr Jah 1 ?_)))
 refine Dk 1 (Ba 1) ?_
 refine Dk 0 (Ba 0) ?_
 refine Dk 0 Xa ?_
 refine Dk 1 Ia ?_
 refine Dk 0 (Ba 0) ?_
 refine Dk 2 Zb ?_
 refine Dd (Qc (Cs (Nz 1 ?_)))
 refine Wk 0 (Ba 0) ?_
 refine Wd (Qc (Ce (Nz 2 ?_)))
 refine Wd (Qc (CS.cond rfl ?_ ?_))<;>intro hc2<;>try simp only [bq] at hc2
 ·
  refine Cs (Dr Jah 1 ?_)
  refine Dk 1 (Ba 0) ?_
  refine Dk 0 (Ba 2) ?_
  refine Dk 0 Nc ?_
  refine Dk 0 Zb ?_
  refine Dk 1 (Cb rfl rfl Jid (fun u hu=>Jef _ _ _ u)) ?_
  refine Dt 0 rfl rfl (fun hg=>Ff) ?_
  refine Dt 0 rfl rfl (fun hg=>Ba 2) ?_
  refine Dt 0 rfl rfl (fun hg=>Ff) ?_
  refine Dt 0 rfl rfl (fun hg=>Ba 0) ?_
  refine Dt 0 rfl rfl (fun hg=>Xc (eg_ hg rfl)) ?_
  refine Dt 0 rfl rfl (fun hg=>Ff) ?_
  refine Dt 0 rfl rfl (fun hg=>Uc 3 0) ?_
  refine Dt 0 rfl rfl (fun hg=>Fm) ?_
  refine Dt 0 rfl rfl (fun hg=>Fq) ?_
  refine Dt 0 rfl rfl (fun hg=>Fm (eg_ hg rfl)) ?_
  refine Dn 0 rfl rfl rfl (fun hg=>Ff) ?_
  refine Dn 0 rfl rfl rfl (fun hg=>Ba 2) ?_
  refine Dn 0 rfl rfl rfl (fun hg=>Ff) ?_
  refine Dn 0 rfl rfl rfl (fun hg=>Ba 0) ?_
  refine Dn 0 rfl rfl rfl (fun hg=>Xc (eg_ hg rfl)) ?_
  refine Dn 0 rfl rfl rfl (fun hg=>Ff) ?_
  refine Dn 0 rfl rfl rfl (fun hg=>Uc 3 1) ?_
  refine Dn 0 rfl rfl rfl (fun hg=>Fm) ?_
  refine Dn 0 rfl rfl rfl (fun hg=>Fq) ?_
  refine Dt 0 rfl rfl (fun hg=>Jjq (eg_ hg rfl) (J20 hg rfl) rfl) ?_
  refine Dk 1 Pa ?_
  refine Dt 0 rfl rfl (fun hg=>Bb 1) ?_
  refine Dt 0 rfl rfl (fun hg=>Ff) ?_
  refine Dt 0 rfl rfl (fun hg=>Ba 2) ?_
  refine Dt 0 rfl rfl (fun hg=>Ff) ?_
  refine Dt 0 rfl rfl (fun hg=>Ba 0) ?_
  refine Dt 0 rfl rfl (fun hg=>Xc (eg_ hg rfl)) ?_
  refine Dt 0 rfl rfl (fun hg=>Ff) ?_
  refine Dt 0 rfl rfl (fun hg=>Uc 3 2) ?_
  refine Dt 0 rfl rfl (fun hg=>Cb rfl (ec_ (eg_ hg rfl) (ec_ (eg_ hg rfl) en_)) Jl0 (fun u hu=>Je2 z u (hz.st hu) (nth r.wys.l m.n).wh ((hr.wys.el _ (Jai (i:=m.n) (xs:=r.wys.l) (by (try simp only [decide_eq_true_eq,decide_eq_false_iff_not,Bool.and_eq_true,Bool.or_eq_true,Bool.not_eq_true',beq_iff_eq] at hg); omega) (by (try simp only [decide_eq_true_eq,decide_eq_false_iff_not,Bool.and_eq_true,Bool.or_eq_true,Bool.not_eq_true',beq_iff_eq] at hg); omega)):SlT cLit w (nth r.wys.l m.n).wh).st hu) (by rw [hlt]; exact (hR.wys _ (Jai (i:=m.n) (xs:=r.wys.l) (by (try simp only [decide_eq_true_eq,decide_eq_false_iff_not,Bool.and_eq_true,Bool.or_eq_true,Bool.not_eq_true',beq_iff_eq] at hg); omega) (by (try simp only [decide_eq_true_eq,decide_eq_false_iff_not,Bool.and_eq_true,Bool.or_eq_true,Bool.not_eq_true',beq_iff_eq] at hg); omega))).1))) ?_
  refine Dk 1 Pa ?_
  exact Dd (Qc (Cr (Qs (Qr (out1 rfl rfl (Jab (by unfold legalB; rw [if_pos hp,if_pos hc2]; rfl)))))))
 refine Nz 2 ?_
 refine Wd (Qc (CS.cond rfl ?_ ?_))<;>intro hc3<;>try simp only [bq] at hc3
 ·
  refine Cs (Dr Jah 1 ?_)
  refine Dk 1 (Ba 0) ?_
  refine Dk 0 (Ba 2) ?_
  refine Dk 0 Nc ?_
  refine Dk 0 Zb ?_
  refine Dk 1 (Cb rfl rfl Jid (fun u hu=>Jef _ _ _ u)) ?_
  refine Dt 0 rfl rfl (fun hg=>Ff) ?_
  refine Dt 0 rfl rfl (fun hg=>Ba 1) ?_
  refine Dt 0 rfl rfl (fun hg=>Ff) ?_
  refine Dt 0 rfl rfl (fun hg=>Ba 0) ?_
  refine Dt 0 rfl rfl (fun hg=>Xa (eg_ hg rfl)) ?_
  refine Dt 0 rfl rfl (fun hg=>Ia) ?_
  refine Dt 0 rfl rfl (fun hg=>Fm) ?_
  refine Dt 0 rfl rfl (fun hg=>Fq) ?_
  refine Dk 1 Pa ?_
  refine Dt 0 rfl rfl (fun hg=>Bb 1) ?_
  refine Dt 0 rfl rfl (fun hg=>Ff) ?_
  refine Dt 0 rfl rfl (fun hg=>Ba 2) ?_
  refine Dt 0 rfl rfl (fun hg=>Ff) ?_
  refine Dt 0 rfl rfl (fun hg=>Ba 0) ?_
  refine Dt 0 rfl rfl (fun hg=>Xc (eg_ hg rfl)) ?_
  refine Dt 0 rfl rfl (fun hg=>Ff) ?_
  refine Dt 0 rfl rfl (fun hg=>Uc 3 2) ?_
  refine Dt 0 rfl rfl (fun hg=>Cb rfl (ec_ (eg_ hg rfl) (ec_ (eg_ hg rfl) en_)) Jl0 (fun u hu=>Je2 z u (hz.st hu) (nth r.prs.l m.n).wh ((hr.prs.el _ (Jai (i:=m.n) (xs:=r.prs.l) (by (try simp only [decide_eq_true_eq,decide_eq_false_iff_not,Bool.and_eq_true,Bool.or_eq_true,Bool.not_eq_true',beq_iff_eq] at hg); omega) (by (try simp only [decide_eq_true_eq,decide_eq_false_iff_not,Bool.and_eq_true,Bool.or_eq_true,Bool.not_eq_true',beq_iff_eq] at hg); omega)):SlT cLit w (nth r.prs.l m.n).wh).st hu) (by rw [hlt]; exact (hR.prs _ (Jai (i:=m.n) (xs:=r.prs.l) (by (try simp only [decide_eq_true_eq,decide_eq_false_iff_not,Bool.and_eq_true,Bool.or_eq_true,Bool.not_eq_true',beq_iff_eq] at hg); omega) (by (try simp only [decide_eq_true_eq,decide_eq_false_iff_not,Bool.and_eq_true,Bool.or_eq_true,Bool.not_eq_true',beq_iff_eq] at hg); omega))).1))) ?_
  refine Dk 1 Pa ?_
  refine Dt 0 rfl rfl (fun hg=>Bb 1) ?_
  refine Dt 0 rfl rfl (fun hg=>Ff) ?_
  refine Dt 0 rfl rfl (fun hg=>Ba 0) ?_
  refine Dt 0 rfl rfl (fun hg=>Cb rfl (ec_ (eg_ hg rfl) (ec_ (eg_ hg rfl) en_)) J4k (fun u hu=>Jzo z u (hz.st hu) m.p (by omega) (by omega) (by omega))) ?_
  refine Dt 0 rfl rfl (fun hg=>Fl) ?_
  refine Dk 1 Pa ?_
  exact Dd (Qc (Cr (Qs (Qr (out1 rfl rfl (Jab (by unfold legalB; rw [if_pos hp,if_neg hc2,if_pos hc3]; rfl)))))))
 refine Nz 2 ?_
 refine Wd (Qc (CS.cond rfl ?_ ?_))<;>intro hc4<;>try simp only [bq] at hc4
 ·
  refine Nz 1 ?_
  refine Wk 1 (Ba 0) ?_
  refine Wk 0 (Ba 2) ?_
  refine Wk 0 Nc ?_
  refine Wk 0 Zb ?_
  refine Wk 1 (Cb rfl rfl Jid (fun u hu=>Jef _ _ _ u)) ?_
  refine Wt 0 rfl rfl (fun hg=>Ff) ?_
  refine Wt 0 rfl rfl (fun hg=>Ba 1) ?_
  refine Wt 0 rfl rfl (fun hg=>Ff) ?_
  refine Wt 0 rfl rfl (fun hg=>Ba 0) ?_
  refine Wt 0 rfl rfl (fun hg=>Xa (eg_ hg rfl)) ?_
  refine Wt 0 rfl rfl (fun hg=>Ia) ?_
  refine Wt 0 rfl rfl (fun hg=>Fm) ?_
  refine Wt 0 rfl rfl (fun hg=>Fq) ?_
  refine Wk 1 Pa ?_
  exact Wd (Qc (Cr (Qs (Qr (out1 rfl rfl (Jab (by unfold legalB; rw [if_pos hp,if_neg hc2,if_neg hc3,if_pos hc4]; rfl)))))))
 refine Nz 2 ?_
 refine Wd (Qc (CS.cond rfl ?_ ?_))<;>intro hc5<;>try simp only [bq] at hc5
 ·
  refine Cs (Nz 1 ?_)
  refine Wk 1 (Ba 0) ?_
  refine Wk 0 (Ba 2) ?_
  refine Wk 0 Nc ?_
  refine Wk 0 Zb ?_
  refine Wk 1 (Cb rfl rfl Jid (fun u hu=>Jef _ _ _ u)) ?_
  refine Wd (Qc (CS.cond rfl ?_ ?_))<;>intro hc6<;>try simp only [bq] at hc6
  ·
   refine Nz 1 ?_
   exact Wd (Qc (Cr (Qr (Qs (Qr (out1 rfl rfl (Jab (by unfold legalB; rw [if_pos hp,if_neg hc2,if_neg hc3,if_neg hc4,if_pos hc5]; unfold doB; rw [show (decide (0≤m.n) && decide (m.n≤(r.acs.l.length:Int) - 1))=false by simp only [Bool.and_eq_false_iff,decide_eq_false_iff_not]; omega]; rfl))))))))
  have hn2:0≤m.n∧m.n < r.acs.l.length:=by omega
  have ha:=hR.acs _ (Jai hn2.1 hn2.2)
  have hak:ActOk w (nth r.acs.l m.n):=hr.acs.at hn2.1 hn2.2
  have hus:=hak.us.ints
  have hsp:=hak.sp.ints
  have hbr:=hak.br.ints
  have lus:=ha.lus
  have lbr:=ha.lbr
  have lsp:=ha.lsp
  have hcl:=Jeh z.prs.l (-2 - m.p)
  refine Ck (Qc (Nz 1 ?_))
  refine Wk 1 (Ba 2) ?_
  refine Wk 0 (Ba 0) ?_
  refine Wk 0 Xc ?_
  refine Wk 0 Ua ?_
  refine Wl 0 Jh1 (fun _=>rfl) (fun _=>rfl) fun b9 hb9=>?_
  refine Wv 0 0 ?_
  refine Wd (Qc (Cs (Nz 1 ?_)))
  refine Wd (Qc (Ce ?_))
  refine CS.loopM (σ:=Int) [6,144,145,146,147,148,149,150,151,152,153,154,155,156,157,158,159,160,161] (fun s=>[(10,.int .i64 s)]) (fun _=>_) (fun s=>0≤s∧s≤(nth r.acs.l m.n).us.l.length∧∀ j:Int,0≤j→j < s→nth z.prs.l (nth (nth r.acs.l m.n).us.l j) = -2 - m.p) (fun s=>((nth r.acs.l m.n).us.l.length - s).toNat) 0 (fun _ _=>rfl) rfl rfl ⟨by omega,by omega,fun j _ _=>by omega⟩ ?_
  intro a t hs
  obtain ⟨ha1,ha2,ha3⟩:=hs
  refine Cs (Nz 2 ?_)
  refine Wk 0 (Ba 0) ?_
  refine Wk 1 Na ?_
  refine Wd (Qc (CS.cond rfl ?_ ?_))<;>intro hc7<;>try simp only [bq] at hc7
  ·
   have hin:=ha.us _ (Jai ha1 (by omega))
   refine Ck (Qc (Cs (Ce (Cs (Dr Jah 1 ?_)))))
   refine Dk 1 (Ba 2) ?_
   refine Dk 1 (Ba 0) ?_
   refine Dk 0 Xa ?_
   refine Dk 0 Ia ?_
   refine Dk 0 Xa ?_
   refine Dk 2 Ia ?_
   refine Dd (Qc (CS.cond rfl ?_ ?_))<;>intro hc8<;>try simp only [bq] at hc8
   ·
    refine Nz 1 ?_
    exact Wd (Qc (Cr (Qs (Qr (Qr (Qs (Qr (Qs (Qr (out1 rfl rfl (Jab (by unfold legalB; rw [if_pos hp,if_neg hc2,if_neg hc3,if_neg hc4,if_pos hc5]; unfold doB; rw [show Jvh z.x (nth r.acs.l m.n) m=false from Jfh ha1 (by omega) (decide_eq_false hc8)]; simp))))))))))))
   refine Ck (Qb (Qc (Ny 1 ?_)))
   refine Wk 1 Za ?_
   refine Wd ?_
   exact QS.head (a+1) rfl rfl ⟨⟨by omega,by omega,fun j h0 h1=>by
      rcases (show j < a∨j=a by omega) with h | h
      ·
       exact ha3 j h0 h
      rw [h]; exact hc8⟩,by omega⟩
  refine Cv (Qe (Qe (Qx (Qc (Cs (Nz 1 ?_))))))
  refine Wd (Qc (Ce ?_))
  refine CS.loopM (σ:=Int) [6,162,163,164,165,166,167,168,169,170,171,172,173,174,175,176,177,178] (fun s=>[(11,.int .i64 s)]) (fun _=>_) (fun s=>0≤s∧s≤(nth r.acs.l m.n).br.l.length∧∀ j:Int,0≤j→j < s→nth z.prs.l (nth (nth r.acs.l m.n).br.l j) = -1) (fun s=>((nth r.acs.l m.n).br.l.length - s).toNat) 0 (fun _ _=>rfl) rfl rfl ⟨by omega,by omega,fun j _ _=>by omega⟩ ?_
  intro b t hs
  obtain ⟨hb1,hb2,hb3⟩:=hs
  refine Cs (Nz 2 ?_)
  refine Wk 0 (Ba 0) ?_
  refine Wk 1 Na ?_
  refine Wd (Qc (CS.cond rfl ?_ ?_))<;>intro hc9<;>try simp only [bq] at hc9
  ·
   have hin:=ha.br _ (Jai hb1 (by omega))
   refine Ck (Qc (Cs (Ce (Cs (Dr Jah 1 ?_)))))
   refine Dk 1 (Ba 2) ?_
   refine Dk 1 (Ba 0) ?_
   refine Dk 0 Xa ?_
   refine Dk 0 Ia ?_
   refine Dk 0 Xa ?_
   refine Dk 1 Ia ?_
   refine Dd (Qc (CS.cond rfl ?_ ?_))<;>intro hc10<;>try simp only [bq] at hc10
   ·
    refine Nz 1 ?_
    exact Wd (Qc (Cr (Qs (Qr (Qr (Qs (Qr (Qs (Qr (out1 rfl rfl (Jab (by unfold legalB; rw [if_pos hp,if_neg hc2,if_neg hc3,if_neg hc4,if_pos hc5]; unfold doB; rw [show Jnx z.x (nth r.acs.l m.n)=false from Jfh hb1 (by omega) (decide_eq_false hc10)]; simp))))))))))))
   refine Ck (Qb (Qc (Ny 1 ?_)))
   refine Wk 1 Za ?_
   refine Wd ?_
   exact QS.head (b+1) rfl rfl ⟨⟨by omega,by omega,fun j h0 h1=>by
      rcases (show j < b∨j=b by omega) with h | h
      ·
       exact hb3 j h0 h
      rw [h]; exact hc10⟩,by omega⟩
  refine Cv (Qe (Qe (Qx (Qc (Cs (Dr Jah 1 ?_))))))
  refine Dk 3 (Ba 0) ?_
  refine Dt 0 rfl rfl (fun hg=>Bb 2) ?_
  refine Dt 0 rfl rfl (fun hg=>Ff) ?_
  refine Dt 0 rfl rfl (fun hg=>Ba 0) ?_
  refine Dt 0 rfl rfl (fun hg=>Cb rfl (ec_ (eg_ hg rfl) (ec_ (eg_ hg rfl) en_)) Jl0 (fun u hu=>Je2 z u (hz.st hu) (nth r.acs.l m.n).wh (hak.wh.st hu) (by rw [hlt]; exact ha.wh))) ?_
  refine Dk 1 Pa ?_
  refine Dt 0 rfl rfl (fun hg=>Bb 2) ?_
  refine Dt 0 rfl rfl (fun hg=>Ff) ?_
  refine Dt 0 rfl rfl (fun hg=>Ba 1) ?_
  refine Dt 0 rfl rfl (fun hg=>Cb rfl (ec_ (eg_ hg rfl) (ec_ (eg_ hg rfl) en_)) J4k (fun u hu=>Jzo z u (hz.st hu) m.p (by omega) (by omega) (by omega))) ?_
  refine Dt 0 rfl rfl (fun hg=>Ff) ?_
  refine Dt 0 rfl rfl (fun hg=>Ba 0) ?_
  refine Dt 0 rfl rfl (fun hg=>Na (eg_ hg rfl)) ?_
  refine Dt 0 rfl rfl (fun hg=>Zb) ?_
  refine Dt 0 rfl rfl (fun hg=>Ff) ?_
  refine Dt 0 rfl rfl (fun hg=>Ba 0) ?_
  refine Dt 0 rfl rfl (fun hg=>Na (eg_ hg rfl)) ?_
  refine Dt 0 rfl rfl (fun hg=>Za) ?_
  refine Dt 0 rfl rfl (fun hg=>Fk) ?_
  refine Dk 1 Pa ?_
  exact Dd (Qc (Cr (Qs (Qr (out1 rfl rfl (Jab (by unfold legalB; rw [if_pos hp,if_neg hc2,if_neg hc3,if_neg hc4,if_pos hc5]; unfold doB; rw [show (decide (0≤m.n) && decide (m.n≤(r.acs.l.length:Int) - 1))=true by simp only [Bool.and_eq_true,decide_eq_true_eq]; omega,show Jvh z.x (nth r.acs.l m.n) m=true from Jd2 fun j a b=>decide_eq_true (ha3 j a (by omega)),show Jnx z.x (nth r.acs.l m.n)=true from Jd2 fun j a b=>decide_eq_true (hb3 j a (by omega))]; rfl)))))))
 refine Ck (Qb (Qc (Nz 1 ?_)))
 exact Wd (Qc (Cr (out1 rfl rfl (Jab (by unfold legalB; rw [if_pos hp,if_neg hc2,if_neg hc3,if_neg hc4,if_neg hc5])))))
theorem Joy (r:Room) (w:World) (hr:RoomOk w r) (z:Stt) (hz:SttOk w z) (hR:Ready r) (hI:StIn r z.x) (m:Move) (hL:legalB r z.x m=true) :
  Calls Tryz.prog 260 #[.agg #[r.pls.v,r.ths.v,r.prs.v,r.wys.v,r.acs.v,r.aus.v,.int .i64 r.ply,r.gl.v],.agg #[z.ths.v,z.prs.v,z.pls.v],.agg #[.int .i64 m.p,.int .i64 m.k,.int .i64 m.n]] w (RetS w ((settleV r (moveX r z.x m)).getD no3) fun v=>.tuple #[v,.bool (settleV r (moveX r z.x m)).isSome]):=by
 have kpl:=hr.pls
 have lpl:=hr.pls.le
 have kth:=hr.ths
 have lth:=hr.ths.le
 have kpr:=hr.prs
 have lpr:=hr.prs.le
 have kwy:=hr.wys
 have lwy:=hr.wys.le
 have kac:=hr.acs
 have lac:=hr.acs.le
 have kau:=hr.aus
 have lau:=hr.aus.le
 have kgl:=hr.gl
 have lgl:=hr.gl.le
 have zth:=hz.ths.ints
 have zpr:=hz.prs.ints
 have zpl:=hz.pls.ints
 have hlen:=hR.lens
 have hply:=hR.ply
 have hlt:z.ths.l.length=r.ths.l.length:=hI.lt
 have hlp:z.prs.l.length=r.prs.l.length:=hI.lp
 have hll:(z.pls.l.length:Int)=r.ply:=hI.ll
 have hM:=Jjz hR hI hL
 have hMp:0≤m.p∧m.p < z.pls.l.length∧m.p≤3:=hM.p
 have hat:0≤nth z.pls.l m.p∧nth z.pls.l m.p < r.pls.l.length:=hI.at (i:=m.p) (by omega) (show m.p < z.pls.l.length by omega)
 have hsm:z.ths.l.length≤1000000∧z.prs.l.length≤1000000∧z.pls.l.length≤1000000:=hI.small hR
 have hau:Jge r.aus.l z.ths.l.length:=hI.autos hR
 refine enter Tryz.func260 rfl rfl (Nat.le_of_ble_eq_true rfl) ?_
 refine Nz 0 ?_
 refine Wb 0 rfl rfl (fun _=>rfl) (fun _=>rfl) fun b3 hb3=>?_
 refine Wb 0 rfl rfl (fun _=>rfl) (fun _=>rfl) fun b4 hb4=>?_
 refine Wb 0 rfl rfl (fun _=>rfl) (fun _=>rfl) fun b5 hb5=>?_
 refine Wl 1 zv44 (fun _=>rfl) (fun _=>rfl) fun b6 hb6=>?_
 refine Wd (Qc (Nz 0 ?_))
 refine Wk 0 (Bb 2) ?_
 refine Wc rfl rfl J0g (fun u hu=>Jg3 z u (hz.st hu) hsm) (fun _=>rfl) ?_; rintro ⟨va,vb,vc⟩ ⟨oa,ob,oc⟩
 refine WS.unpack ?_
 refine Wl 0 zv44 (fun _=>rfl) (fun _=>rfl) fun b8 hb8=>?_
 refine Wv 0 0 ?_
 refine Wd (Qc (Cs (Dr Jah 1 ?_)))
 refine Dk 1 (Ba 6) ?_
 refine Dk 0 (Ba 5) ?_
 refine Dk 0 Xa ?_
 refine Dk 1 Ia ?_
 refine Dk 0 (Ba 5) ?_
 refine Dk 2 Zb ?_
 refine Dd (Qc (Cs (Nz 1 ?_)))
 refine Wk 0 (Ba 5) ?_
 refine Wd (Qc (Ce (Nz 2 ?_)))
 refine Wd (Qc (CS.cond rfl ?_ ?_))<;>intro hc1<;>try simp only [bq] at hc1
 ·
  have hn:=hM.go hc1
  have hwy:=hR.wys _ (Jai hn.1 hn.2)
  have hmv:moveX r z.x m=(z.ths.l,z.prs.l,z.pls.l.set m.p.toNat ((nth r.wys.l m.n).a+(nth r.wys.l m.n).b - nth z.pls.l m.p)):=if_pos hc1
  refine CS.drawnTill 22 (k:=23) Jah rfl rfl ?_
  refine Tr 23 [0] ?_
  refine Tk 23 1 [2] rfl (Ba 0) ?_
  refine Tk 23 3 [4] rfl (Ba 5) ?_
  refine Tk 23 5 [6] rfl (Ba 7) ?_
  refine Tk 23 7 [] rfl (Ba 5) ?_
  refine Tk 23 8 [9] rfl Xc ?_
  refine Tk 23 10 [11] rfl (Uc 3 0) ?_
  refine Tk 23 12 [13] rfl (Ba 7) ?_
  refine Tk 23 14 [] rfl (Ba 5) ?_
  refine Tk 23 15 [16] rfl Xc ?_
  refine Tk 23 17 [] rfl (Uc 3 1) ?_
  refine Tk 23 18 [19] rfl Za ?_
  refine Tk 23 20 [] rfl Zb ?_
  refine Tk 23 21 [] rfl (Xb 3) ?_
  refine To 22 rfl ?_
  refine WS.storeOI (j:=3) rfl rfl (by omega) rfl tk3 rfl ?_
  refine Wd (Qt ?_)
  refine Te ?_
  refine Qb (Qc (Nz 0 ?_))
  refine Wk 0 (Bb 7) ?_
  refine Wk 0 (Bb 0) ?_
  refine Wc rfl rfl Jlx (fun u hu=>Je6 r u (hr.st hu) ⟨⟨va,_⟩,⟨vb,_⟩,⟨vc,_⟩⟩ ⟨(Jad hu (j:=1) rfl).tree,(Jad hu (j:=2) rfl).tree,(Jad hu (j:=3) rfl).tree⟩ (by simpa only [List.length_set,Jbo,Ja4] using hsm) (by simpa only [List.length_set,Jbo,Ja4] using hau)) (fun _=>rfl) ?_; rintro y ⟨hyx,uy,hyok⟩
  obtain ⟨hya,hyb,hyc⟩:=hyok.ones
  refine Wz 2 ?_
  refine Wv 1 5 ?_
  refine Wd (Qc (Cr ?_))
  exact outR (Jcv rfl (Jak (j:=5) rfl rfl tk44) rfl) (by
    rw [hmv]
    exact fun u hu=>Jq1 (f:=fun v=>.tuple #[v,.bool (settleV r _).isSome]) (j:=0) rfl hyx hu)
 refine Nz 2 ?_
 refine Wd (Qc (CS.cond rfl ?_ ?_))<;>intro hc2<;>try simp only [bq] at hc2
 ·
  have hn:0≤m.n∧m.n < z.prs.l.length:=hM.pr (.inl hc2)
  have hmv:moveX r z.x m=(z.ths.l,z.prs.l.set m.n.toNat (-2 - m.p),z.pls.l):=(if_neg hc1).trans (if_pos hc2)
  refine Ny 1 ?_
  refine Wk 1 (Ba 0) ?_
  refine Wk 1 (Ba 5) ?_
  refine Wk 0 (Xb 2) ?_
  refine WS.storeOI (j:=2) rfl rfl (by omega) rfl tk3 rfl ?_
  refine Wd (Qb (Qc (Nz 0 ?_)))
  refine Wk 0 (Bb 7) ?_
  refine Wk 0 (Bb 0) ?_
  refine Wc rfl rfl Jlx (fun u hu=>Je6 r u (hr.st hu) ⟨⟨va,_⟩,⟨vb,_⟩,⟨vc,_⟩⟩ ⟨(Jad hu (j:=1) rfl).tree,(Jad hu (j:=2) rfl).tree,(Jad hu (j:=3) rfl).tree⟩ (by simpa only [List.length_set,Jbo,Ja4] using hsm) (by simpa only [List.length_set,Jbo,Ja4] using hau)) (fun _=>rfl) ?_; rintro y ⟨hyx,uy,hyok⟩
  obtain ⟨hya,hyb,hyc⟩:=hyok.ones
  refine Wz 2 ?_
  refine Wv 1 5 ?_
  refine Wd (Qc (Cr ?_))
  exact outR (Jcv rfl (Jak (j:=5) rfl rfl tk44) rfl) (by
    rw [hmv]
    exact fun u hu=>Jq1 (f:=fun v=>.tuple #[v,.bool (settleV r _).isSome]) (j:=0) rfl hyx hu)
 refine Nz 2 ?_
 refine Wd (Qc (CS.cond rfl ?_ ?_))<;>intro hc3<;>try simp only [bq] at hc3
 ·
  have hn:0≤m.n∧m.n < z.prs.l.length:=hM.pr (.inr hc3)
  have hmv:moveX r z.x m=(z.ths.l,z.prs.l.set m.n.toNat (nth z.pls.l m.p),z.pls.l):=(if_neg hc1).trans ((if_neg hc2).trans (if_pos hc3))
  refine Ny 1 ?_
  refine Wk 1 (Ba 0) ?_
  refine Wk 1 (Ba 5) ?_
  refine Wk 0 (Xb 2) ?_
  refine WS.storeOI (j:=2) rfl rfl (by omega) rfl tk3 rfl ?_
  refine Wd (Qb (Qc (Nz 0 ?_)))
  refine Wk 0 (Bb 7) ?_
  refine Wk 0 (Bb 0) ?_
  refine Wc rfl rfl Jlx (fun u hu=>Je6 r u (hr.st hu) ⟨⟨va,_⟩,⟨vb,_⟩,⟨vc,_⟩⟩ ⟨(Jad hu (j:=1) rfl).tree,(Jad hu (j:=2) rfl).tree,(Jad hu (j:=3) rfl).tree⟩ (by simpa only [List.length_set,Jbo,Ja4] using hsm) (by simpa only [List.length_set,Jbo,Ja4] using hau)) (fun _=>rfl) ?_; rintro y ⟨hyx,uy,hyok⟩
  obtain ⟨hya,hyb,hyc⟩:=hyok.ones
  refine Wz 2 ?_
  refine Wv 1 5 ?_
  refine Wd (Qc (Cr ?_))
  exact outR (Jcv rfl (Jak (j:=5) rfl rfl tk44) rfl) (by
    rw [hmv]
    exact fun u hu=>Jq1 (f:=fun v=>.tuple #[v,.bool (settleV r _).isSome]) (j:=0) rfl hyx hu)
 refine Nz 2 ?_
 refine Wd (Qc (CS.cond rfl ?_ ?_))<;>intro hc4<;>try simp only [bq] at hc4
 ·
  have hn:=hM.ac hc4
  have hmv:moveX r z.x m=(Jfr z.ths.l (nth r.acs.l m.n).se.l,Jcf (-2 - m.p) (Jcf (-1) z.prs.l (nth r.acs.l m.n).sp.l) (nth r.acs.l m.n).br.l,z.pls.l):=(if_neg hc1).trans ((if_neg hc2).trans ((if_neg hc3).trans (if_pos hc4)))
  have ha:=hR.acs _ (Jai hn.1 hn.2)
  have hak:ActOk w (nth r.acs.l m.n):=hr.acs.at hn.1 hn.2
  have hsp:=hak.sp.ints
  have hbr:=hak.br.ints
  have kse:=hak.se
  have lbr:=ha.lbr
  have lsp:=ha.lsp
  have lse:=ha.lse
  refine Nz 1 ?_
  refine Wk 1 (Ba 7) ?_
  refine Wk 0 (Ba 5) ?_
  refine Wk 0 Xc ?_
  refine Wk 0 Ua ?_
  refine Wl 0 Jh1 (fun _=>rfl) (fun _=>rfl) fun b11 hb11=>?_
  refine Wv 0 0 ?_
  refine Wd (Qc (Cs (Nz 1 ?_)))
  refine Wd (Qc (Ce ?_))
  refine CS.loopM (σ:=Int) [76,77,78,79,80,81,82,83,84,85,86,87,88,89,90] (fun s=>[(12,.int .i64 s)]) (fun s=>[blk b11 (cAct.cells (nth r.acs.l m.n)) 173,blk b8 [va,vb,vc] 44,oints 3 va (z.ths.l),oints 3 vb (Jcf (-1) z.prs.l ((nth r.acs.l m.n).sp.l.take s.toNat)),oints 3 vc z.pls.l,blk b6 [.slice none 0 0,.slice none 0 0,.slice none 0 0] 44,blk b5 [.int .i64 m.p,.int .i64 m.k,.int .i64 m.n] 54,blk b4 [z.ths.v,z.prs.v,z.pls.v] 44,blk b3 [r.pls.v,r.ths.v,r.prs.v,r.wys.v,r.acs.v,r.aus.v,.int .i64 r.ply,r.gl.v] 31]) (fun s=>0≤s∧s≤(nth r.acs.l m.n).sp.l.length) (fun s=>((nth r.acs.l m.n).sp.l.length - s).toNat) 0 (fun _ _=>rfl) rfl rfl ⟨by omega,by omega⟩ ?_
  intro d t hs
  obtain ⟨hd1,hd2⟩:=hs
  refine Cs (Nz 2 ?_)
  refine Wk 0 (Ba 0) ?_
  refine Wk 1 Na ?_
  refine Wd (Qc (CS.cond rfl ?_ ?_))<;>intro hc5<;>try simp only [bq] at hc5
  ·
   have hin:=ha.sp _ (Jai hd1 (by omega))
   have hln:=Ja4 (v := -1) (ps:=(nth r.acs.l m.n).sp.l.take d.toNat) (l:=z.prs.l)
   refine Ck (Qc (Cs (Ce ?_)))
   refine CS.drawnTill 8 (k:=9) Jah rfl rfl ?_
   refine Tr 9 [0] ?_
   refine Tk 9 1 [2] rfl (Ba 1) ?_
   refine Tk 9 3 [4] rfl (Ba 0) ?_
   refine Tk 9 5 [] rfl Xa ?_
   refine Tk 9 6 [] rfl Ia ?_
   refine Tk 9 7 [] rfl (Xb 3) ?_
   refine To 8 rfl ?_
   refine WS.storeOI (j:=3) rfl rfl (by omega) rfl tk3 rfl ?_
   refine Wd (Qt ?_)
   refine Te ?_
   refine Qb (Qc (Ny 1 ?_))
   refine Wk 1 Za ?_
   exact Wd (QS.head (d+1) rfl (by simp only [Jfk hd1 (by omega)]) ⟨⟨by omega,by omega⟩,by omega⟩)
  have hta:(nth r.acs.l m.n).sp.l.take d.toNat=(nth r.acs.l m.n).sp.l:=List.take_of_length_le (by omega)
  rw [hta]
  refine Cv (Qe (Qe (Qx (Qc (Cs (Nz 1 ?_))))))
  refine Wd (Qc (Ce ?_))
  refine CS.loopM (σ:=Int) [91,92,93,94,95,96,97,98,99,100,101,102,103,104,105,106] (fun s=>[(13,.int .i64 s)]) (fun s=>[blk b11 (cAct.cells (nth r.acs.l m.n)) 173,blk b8 [va,vb,vc] 44,oints 3 va (z.ths.l),oints 3 vb (Jcf (-2 - m.p) (Jcf (-1) z.prs.l (nth r.acs.l m.n).sp.l) ((nth r.acs.l m.n).br.l.take s.toNat)),oints 3 vc z.pls.l,blk b6 [.slice none 0 0,.slice none 0 0,.slice none 0 0] 44,blk b5 [.int .i64 m.p,.int .i64 m.k,.int .i64 m.n] 54,blk b4 [z.ths.v,z.prs.v,z.pls.v] 44,blk b3 [r.pls.v,r.ths.v,r.prs.v,r.wys.v,r.acs.v,r.aus.v,.int .i64 r.ply,r.gl.v] 31]) (fun s=>0≤s∧s≤(nth r.acs.l m.n).br.l.length) (fun s=>((nth r.acs.l m.n).br.l.length - s).toNat) 0 (fun _ _=>rfl) rfl rfl ⟨by omega,by omega⟩ ?_
  intro e t hs
  obtain ⟨he1,he2⟩:=hs
  refine Cs (Nz 2 ?_)
  refine Wk 0 (Ba 0) ?_
  refine Wk 1 Na ?_
  refine Wd (Qc (CS.cond rfl ?_ ?_))<;>intro hc6<;>try simp only [bq] at hc6
  ·
   have hin:=ha.br _ (Jai he1 (by omega))
   have hln:=Ja4 (v := -1) (ps:=(nth r.acs.l m.n).sp.l) (l:=z.prs.l)
   have hln2:=Ja4 (v := -2 - m.p) (ps:=(nth r.acs.l m.n).br.l.take e.toNat) (l:=Jcf (-1) z.prs.l (nth r.acs.l m.n).sp.l)
   refine Ck (Qc (Cs (Ce ?_)))
   refine CS.drawnTill 9 (k:=10) Jah rfl rfl ?_
   refine Tr 10 [0] ?_
   refine Tk 10 1 [2] rfl (Ba 1) ?_
   refine Tk 10 3 [4] rfl (Ba 0) ?_
   refine Tk 10 5 [] rfl Xa ?_
   refine Tk 10 6 [7] rfl Ia ?_
   refine Tk 10 8 [] rfl (Xb 3) ?_
   refine To 9 rfl ?_
   refine WS.storeOI (j:=3) rfl rfl (by omega) rfl tk3 rfl ?_
   refine Wd (Qt ?_)
   refine Te ?_
   refine Qb (Qc (Ny 1 ?_))
   refine Wk 1 Za ?_
   exact Wd (QS.head (e+1) rfl (by simp only [Jfk he1 (by omega)]) ⟨⟨by omega,by omega⟩,by omega⟩)
  have hta:(nth r.acs.l m.n).br.l.take e.toNat=(nth r.acs.l m.n).br.l:=List.take_of_length_le (by omega)
  rw [hta]
  refine Cv (Qe (Qe (Qx (Qc (Nz 1 ?_)))))
  refine Wd (Qc (Ce ?_))
  refine CS.loopM (σ:=Int) [107,108,109,110,111,112,113,114,115,116,117,118,119,120,121,122,123,124,125,126,127,128] (fun s=>[(14,.int .i64 s)]) (fun s=>[blk b11 (cAct.cells (nth r.acs.l m.n)) 173,blk b8 [va,vb,vc] 44,oints 3 va (Jfr z.ths.l ((nth r.acs.l m.n).se.l.take s.toNat)),oints 3 vb (Jcf (-2 - m.p) (Jcf (-1) z.prs.l (nth r.acs.l m.n).sp.l) (nth r.acs.l m.n).br.l),oints 3 vc z.pls.l,blk b6 [.slice none 0 0,.slice none 0 0,.slice none 0 0] 44,blk b5 [.int .i64 m.p,.int .i64 m.k,.int .i64 m.n] 54,blk b4 [z.ths.v,z.prs.v,z.pls.v] 44,blk b3 [r.pls.v,r.ths.v,r.prs.v,r.wys.v,r.acs.v,r.aus.v,.int .i64 r.ply,r.gl.v] 31]) (fun s=>0≤s∧s≤(nth r.acs.l m.n).se.l.length) (fun s=>((nth r.acs.l m.n).se.l.length - s).toNat) 0 (fun _ _=>rfl) rfl rfl ⟨by omega,by omega⟩ ?_
  intro g t hs
  obtain ⟨hg1,hg2⟩:=hs
  refine Cs (Nz 2 ?_)
  refine Wk 0 (Ba 0) ?_
  refine Wk 1 Nc ?_
  refine Wd (Qc (CS.cond rfl ?_ ?_))<;>intro hc7<;>try simp only [bq] at hc7
  ·
   have hin:=Jly (ha.se _ (Jai hg1 (by omega)))
   have hln:=Jbo (ss:=(nth r.acs.l m.n).se.l.take g.toNat) (l:=z.ths.l)
   refine Ck (Qc (Cs (Ce ?_)))
   refine CS.drawnTill 15 (k:=16) Jah rfl rfl ?_
   refine Tr 16 [0] ?_
   refine Tk 16 1 [2] rfl (Ba 1) ?_
   refine Tk 16 3 [4] rfl (Ba 0) ?_
   refine Tk 16 5 [6] rfl Xc ?_
   refine Tk 16 7 [8] rfl (Uc 2 0) ?_
   refine Tk 16 9 [10] rfl (Ba 0) ?_
   refine Tk 16 11 [12] rfl Xc ?_
   refine Tk 16 13 [] rfl (Uc 2 1) ?_
   refine Tk 16 14 [] rfl (Xb 2) ?_
   refine To 15 rfl ?_
   refine WS.storeOI (j:=2) rfl rfl (by omega) rfl tk3 rfl ?_
   refine Wd (Qt ?_)
   refine Te ?_
   refine Qb (Qc (Ny 1 ?_))
   refine Wk 1 Za ?_
   exact Wd (QS.head (g+1) rfl (by simp only [Jj9 hg1 (by omega)]) ⟨⟨by omega,by omega⟩,by omega⟩)
  have hta:(nth r.acs.l m.n).se.l.take g.toNat=(nth r.acs.l m.n).se.l:=List.take_of_length_le (by omega)
  rw [hta]
  refine Cv (Qe (Qe (Qx (Qb (Qc (Nz 0 ?_))))))
  refine Wk 0 (Bb 8) ?_
  refine Wk 0 (Bb 1) ?_
  refine Wc rfl rfl Jlx (fun u hu=>Je6 r u (hr.st hu) ⟨⟨va,_⟩,⟨vb,_⟩,⟨vc,_⟩⟩ ⟨(Jad hu (j:=2) rfl).tree,(Jad hu (j:=3) rfl).tree,(Jad hu (j:=4) rfl).tree⟩ (by simpa only [List.length_set,Jbo,Ja4] using hsm) (by simpa only [List.length_set,Jbo,Ja4] using hau)) (fun _=>rfl) ?_; rintro y ⟨hyx,uy,hyok⟩
  obtain ⟨hya,hyb,hyc⟩:=hyok.ones
  refine Wz 2 ?_
  refine Wv 1 6 ?_
  refine Wd (Qc (Cr ?_))
  exact outR (Jcv rfl (Jak (j:=6) rfl rfl tk44) rfl) (by
    rw [hmv]
    exact fun u hu=>Jq1 (f:=fun v=>.tuple #[v,.bool (settleV r _).isSome]) (j:=0) rfl hyx hu)
 have hmv:moveX r z.x m=(z.ths.l,z.prs.l,z.pls.l):=(if_neg hc1).trans ((if_neg hc2).trans ((if_neg hc3).trans (if_neg hc4)))
 refine Ck (Qb (Qc (Nz 0 ?_)))
 refine Wk 0 (Bb 7) ?_
 refine Wk 0 (Bb 0) ?_
 refine Wc rfl rfl Jlx (fun u hu=>Je6 r u (hr.st hu) ⟨⟨va,_⟩,⟨vb,_⟩,⟨vc,_⟩⟩ ⟨(Jad hu (j:=1) rfl).tree,(Jad hu (j:=2) rfl).tree,(Jad hu (j:=3) rfl).tree⟩ (by simpa only [List.length_set,Jbo,Ja4] using hsm) (by simpa only [List.length_set,Jbo,Ja4] using hau)) (fun _=>rfl) ?_; rintro y ⟨hyx,uy,hyok⟩
 obtain ⟨hya,hyb,hyc⟩:=hyok.ones
 refine Wz 2 ?_
 refine Wv 1 5 ?_
 refine Wd (Qc (Cr ?_))
 exact outR (Jcv rfl (Jak (j:=5) rfl rfl tk44) rfl) (by
   rw [hmv]
   exact fun u hu=>Jq1 (f:=fun v=>.tuple #[v,.bool (settleV r _).isSome]) (j:=0) rfl hyx hu)
theorem Jnb (r:Room) (w:World) (hr:RoomOk w r) (z:Stt) (hz:SttOk w z) (hR:Ready r) (hI:StIn r z.x) :
  Calls Tryz.prog 270 #[.agg #[r.pls.v,r.ths.v,r.prs.v,r.wys.v,r.acs.v,r.aus.v,.int .i64 r.ply,r.gl.v],.agg #[z.ths.v,z.prs.v,z.pls.v]] w (RetM w (Jbu r z.x) fun v=>v):=by
 have hply:=hR.ply
 refine enter Tryz.func270 rfl rfl (Nat.le_of_ble_eq_true rfl) ?_
 refine Nz 0 ?_
 refine Wb 0 rfl rfl (fun _=>rfl) (fun _=>rfl) fun b2 hb2=>?_
 refine Wb 1 rfl rfl (fun _=>rfl) (fun _=>rfl) fun b3 hb3=>?_
 refine Wd (Qc (Nz 1 ?_))
 refine Wd (Qc (Cs (Nz 1 ?_)))
 refine Wd (Qc (Ce ?_))
 refine CS.weak (fun _ hu=>hu.osl0 (e:=54) (size:=3)) ?_
 refine CS.loopM (σ:=Int × Value) [7,8,9,10,11,12,13,14,15,16,17,18,19,20,21,22,23,24,25,26,27,28,29,30,31,32,33,34,35] (fun s=>[(6,.int .i64 s.1),(5,s.2)]) (fun s=>[oT cMove 54 s.2 (Je3 r z.x s.1 1 0),blk b3 [z.ths.v,z.prs.v,z.pls.v] 44,blk b2 [r.pls.v,r.ths.v,r.prs.v,r.wys.v,r.acs.v,r.aus.v,.int .i64 r.ply,r.gl.v] 31]) (fun s=>0≤s.1∧s.1≤r.ply) (fun s=>(r.ply - s.1).toNat) (0,.slice none 0 0) (fun _ _=>rfl) rfl rfl ⟨by simp,by simp; omega⟩ ?_
 intro p t hs
 obtain ⟨hp1,hp2⟩:=hs
 refine Cs (Nz 2 ?_)
 refine Wk 1 (Ba 2) ?_
 refine Wd (Qc (CS.cond rfl ?_ ?_))<;>intro hc1<;>try simp only [bq] at hc1
 ·
  refine Ck (Qc (Cs (Ce (Nz 1 ?_))))
  refine Wd (Qc (Ce ?_))
  refine CS.loopM (σ:=Int × Value) [8,9,16,17,18,19,20,21,22,23,24,25,26,27,28,29,30,31,32,33,34,35] (fun s=>[(7,.int .i64 s.1),(5,s.2)]) (fun s=>[oT cMove 54 s.2 (Je3 r z.x p.1 s.1 0),blk b3 [z.ths.v,z.prs.v,z.pls.v] 44,blk b2 [r.pls.v,r.ths.v,r.prs.v,r.wys.v,r.acs.v,r.aus.v,.int .i64 r.ply,r.gl.v] 31]) (fun s=>1≤s.1∧s.1≤5) (fun s=>(5 - s.1).toNat) (1,p.2) (fun _ _=>rfl) rfl rfl ⟨by simp,by simp⟩ ?_
  intro k t hs
  obtain ⟨hk1,hk2⟩:=hs
  refine Cs (Nz 2 ?_)
  refine Wd (Qc (CS.cond rfl ?_ ?_))<;>intro hc2<;>try simp only [bq] at hc2
  ·
   refine Ck (Qc (Cs (Ce (Nz 1 ?_))))
   refine Wd (Qc (Ce ?_))
   refine CS.loopM (σ:=Int × Value) [9,20,21,22,23,24,25,26,27,28,29,30,31,32,33,34,35] (fun s=>[(8,.int .i64 s.1),(5,s.2)]) (fun s=>[oT cMove 54 s.2 (Je3 r z.x p.1 k.1 s.1),blk b3 [z.ths.v,z.prs.v,z.pls.v] 44,blk b2 [r.pls.v,r.ths.v,r.prs.v,r.wys.v,r.acs.v,r.aus.v,.int .i64 r.ply,r.gl.v] 31]) (fun s=>0≤s.1∧s.1≤24) (fun s=>(24 - s.1).toNat) (0,k.2) (fun _ _=>rfl) rfl rfl ⟨by simp,by simp⟩ ?_
   intro n t hs
   obtain ⟨hn1,hn2⟩:=hs
   have hln:=J0a (r:=r) (x:=z.x) (p:=p.1) (k:=k.1) (n:=n.1) (by omega) (by omega) (by omega)
   refine Cs (Nz 2 ?_)
   refine Wd (Qc (CS.cond rfl ?_ ?_))<;>intro hc3<;>try simp only [bq] at hc3
   ·
    refine Ck (Qc (Cs (Ce (Nz 3 ?_))))
    refine Wk 0 (Db J1t zv54) ?_
    refine Wl 0 zv54 (fun _=>rfl) (fun _=>rfl) fun b9 hb9=>?_
    refine Wv 0 0 ?_
    refine Wd (Qc (Nz 0 ?_))
    refine Wk 0 (Bb 3) ?_
    refine Wk 0 (Bb 2) ?_
    refine Wk 0 (Bb 0) ?_
    refine Wk 0 (Cb rfl rfl J7s (fun u hu=>J0q r u (hr.st hu) z (hz.st hu) hR hI ⟨p.1,k.1,n.1⟩)) ?_
    refine Wd (Qc (CS.cond rfl ?_ ?_))<;>intro hc4<;>try simp only [bq] at hc4
    ·
     refine Ny 1 ?_
     refine Wk 0 (Bb 0) ?_
     refine WS.buildT1 cMove (a:=⟨p.1,k.1,n.1⟩) sl37 zv54 rfl (by decide) (fun _=>rfl) ?_; intro v34
     refine WS.appendT1 (j:=2) (jz:=0) sl37 zv54 rfl (by decide) rfl rfl rfl rfl (w:=w) trivial (by omega) (by omega) (fun _=>rfl) (fun _=>rfl) ?_; intro v35 hv35
     refine Wz 1 ?_
     refine Wd (Qb (Qc (Ny 1 ?_)))
     refine Wk 1 Za ?_
     refine Wd ?_
     refine QS.sel [2,2,2] rfl ?_
     exact QS.head ((n.1+1,v35)) rfl (by first | simp only [Jox hn1 hc4] | simp only [← Jtc hn1 hc4]) ⟨⟨by simp; omega,by simp; omega⟩,by simp; omega⟩
    refine Ck (Qb (Qc (Ny 1 ?_)))
    refine Wk 1 Za ?_
    refine Wd ?_
    refine QS.sel [1,1,1] rfl ?_
    exact QS.head ((n.1+1,n.2)) rfl (by first | simp only [Jox hn1 hc4] | simp only [← Jtc hn1 hc4]) ⟨⟨by simp; omega,by simp; omega⟩,by simp; omega⟩
   refine Cv (Qe (Qe (Qx (Qb (Qc (Ny 1 ?_))))))
   refine Wk 1 Za ?_
   exact Wd (QS.head ((k.1+1,n.2)) rfl (by simp only [← J4z hk1,show n.1=24 by omega]) ⟨⟨by simp; omega,by simp; omega⟩,by simp; omega⟩)
  refine Cv (Qe (Qe (Qx (Qb (Qc (Ny 1 ?_))))))
  refine Wk 1 Za ?_
  exact Wd (QS.head ((p.1+1,k.2)) rfl (by simp only [← J4m hp1,show k.1=5 by omega]) ⟨⟨by simp; omega,by simp; omega⟩,by simp; omega⟩)
 refine Cv (Qe (Qe (Qx (Qc (Nz 2 ?_)))))
 refine Wd (Qc (Cr ?_))
 have hpe:p.1=r.ply:=by omega
 exact out1 rfl rfl (by
   rw [show Jbu r z.x=Je3 r z.x p.1 1 0 by rw [J6o,hpe]; rfl]
   exact fun u hu=>retM (f:=fun v=>v) (j:=0) rfl hu)
theorem Ji6 (z:Stt) (w:World) (hz:SttOk w z) (hm:z.ths.l.length≤1000000∧z.prs.l.length≤1000000∧z.pls.l.length≤1000000) :
  Calls Tryz.prog 15 #[.agg #[z.ths.v,z.prs.v,z.pls.v]] w (RetS w z.x fun v=>v):=by
 refine Calls.mono (Jg3 z w hz hm) ?_
 rintro e u ⟨⟨a,b,c⟩,ho,h⟩
 have h2:RetF w (.agg #[a,b,c]) (roS fun u=>SttOk u ⟨⟨a,z.ths.l⟩,⟨b,z.prs.l⟩,⟨c,z.pls.l⟩⟩) e u:=h.toRo fun S u h=>⟨SlI.tree (Star.oints (L:=[oints 3 a z.ths.l,oints 3 b z.prs.l,oints 3 c z.pls.l]) (j:=0) rfl h.1),SlI.tree (Star.oints (L:=[oints 3 a z.ths.l,oints 3 b z.prs.l,oints 3 c z.pls.l]) (j:=1) rfl h.1),SlI.tree (Star.oints (L:=[oints 3 a z.ths.l,oints 3 b z.prs.l,oints 3 c z.pls.l]) (j:=2) rfl h.1)⟩
 exact ⟨⟨⟨a,z.ths.l⟩,⟨b,z.prs.l⟩,⟨c,z.pls.l⟩⟩,⟨rfl,u,h2.now⟩,h2⟩
theorem J03 (r:Room) (w:World) (hr:RoomOk w r) (hn:Near r) :
  Calls Tryz.prog 181 #[.agg #[r.pls.v,r.ths.v,r.prs.v,r.wys.v,r.acs.v,r.aus.v,.int .i64 r.ply,r.gl.v]] w (RetS w (BeginV r).2 fun v=>.tuple #[v,.int .i64 (BeginV r).1]):=by
 have kpl:=hr.pls
 have lpl:=hr.pls.le
 have kth:=hr.ths
 have lth:=hr.ths.le
 have kpr:=hr.prs
 have lpr:=hr.prs.le
 have kwy:=hr.wys
 have lwy:=hr.wys.le
 have kac:=hr.acs
 have lac:=hr.acs.le
 have kau:=hr.aus
 have lau:=hr.aus.le
 have kgl:=hr.gl
 have lgl:=hr.gl.le
 refine enter Tryz.func181 rfl rfl (Nat.le_of_ble_eq_true rfl) ?_
 refine Nz 0 ?_
 refine Wb 0 rfl rfl (fun _=>rfl) (fun _=>rfl) fun b1 hb1=>?_
 refine Wl 1 zv44 (fun _=>rfl) (fun _=>rfl) fun b2 hb2=>?_
 refine Wd (Qc (Nz 0 ?_))
 refine Wk 0 (Bb 1) ?_
 refine Wk 1 (Cb rfl rfl J46 (fun u hu=>Jme r u (hr.st hu) hn)) ?_
 refine Wd (Qc (Cs (Nz 2 ?_)))
 refine Wd (Qc (CS.cond rfl ?_ ?_))<;>intro hc1<;>try simp only [bq] at hc1
 ·
  refine Nz 0 ?_
  refine Wk 1 (Db Jgu zv44) ?_
  refine Wv 1 0 ?_
  refine Wd (Qc (Cr (Qr ?_)))
  exact outR (Jcv rfl (Jak (j:=0) rfl rfl tk44) rfl) (by
    have hv:BeginV r=(checkE r,no3):=if_neg hc1
    rw [hv]
    exact fun u hu=>Jmw (f:=fun v=>.tuple #[v,.int .i64 (checkE r)]) hu)
 have hc1:checkE r=0:=hc1
 have hR:=Jd5 hc1
 have hlen:=hR.lens
 have hply:=hR.ply
 refine Ck (Qc (Nz 1 ?_))
 refine Wk 0 (Ba 1) ?_
 refine WS.makeInts sl42 rfl rfl zv3 (by omega) (by omega) (by omega) (fun _=>rfl) ?_; intro v16; refine WS.oc (j:=0) rfl (fun hv16=>?_)
 refine Wk 0 (Db Jgu zv44) ?_
 refine Wl 0 zv44 (fun _=>rfl) (fun _=>rfl) fun b5 hb5=>?_
 refine Wv 0 0 ?_
 refine Wd (Qc (Cs (Nz 1 ?_)))
 refine Wd (Qc (Ce ?_))
 refine CS.weak (fun _ hu=>hu.osl0 (e:=3) (size:=1)) ?_
 refine CS.loopM (σ:=Int × Value) [18,19,20,21,22,23,24,25,26,27,28,29,30,31,32,33,34,35] (fun s=>[(6,.int .i64 s.1)]) (fun s=>[oints 3 s.2 ((r.ths.l.take s.1.toNat).map Thing.sr),blk b5 [s.2,.slice none 0 0,v16] 44,oints 3 v16 (List.replicate r.ply.toNat 0),blk b2 [.slice none 0 0,.slice none 0 0,.slice none 0 0] 44,blk b1 [r.pls.v,r.ths.v,r.prs.v,r.wys.v,r.acs.v,r.aus.v,.int .i64 r.ply,r.gl.v] 31]) (fun s=>0≤s.1∧s.1≤r.ths.l.length) (fun s=>(r.ths.l.length - s.1).toNat) (0,.slice none 0 0) (fun _ _=>rfl) rfl rfl ⟨by simp,by simp⟩ ?_
 intro a t hs
 obtain ⟨ha1,ha2⟩:=hs
 have htl:=List.length_take_le a.1.toNat r.ths.l
 refine Cs (Nz 2 ?_)
 refine Wk 0 (Ba 4) ?_
 refine Wk 1 Nc ?_
 refine Wd (Qc (CS.cond rfl ?_ ?_))<;>intro hc2<;>try simp only [bq] at hc2
 ·
  refine Ck (Qc (Cs (Ce ?_)))
  refine CS.drawnTill 9 (k:=12) Jah rfl rfl ?_
  refine Tr 12 [0] ?_
  refine Tk 12 1 [2] rfl (Ba 1) ?_
  refine Tk 12 3 [4] rfl (Ba 4) ?_
  refine Tk 12 5 [6] rfl Xc ?_
  refine Tk 12 7 [] rfl (Uc 4 3) ?_
  refine To 8 rfl ?_
  refine WS.buildI1 sl42 zv3 rfl (fun _=>rfl) ?_; intro v33
  refine Wd (Qt ?_)
  refine To 9 rfl ?_
  refine WS.appendI (j:=1) sl42 zv3 rfl rfl rfl (fun u hu=>Jad hu (j:=0) rfl) (by first | omega | (simp; omega) | (simp only [List.length_append,List.length_singleton,List.length_map,List.length_cons,List.length_nil] at *; omega)) (by first | omega | (simp; omega) | (simp only [List.length_append,List.length_singleton,List.length_map,List.length_cons,List.length_nil] at *; omega)) (fun _=>rfl) (fun _=>rfl) ?_; intro v34; refine WS.oc (j:=1) rfl (fun hv34=>?_)
  refine Wd (Qt ?_)
  refine To 10 rfl ?_
  refine Wz 1 ?_
  refine Wd (Qt ?_)
  refine To 11 rfl ?_
  refine Ws 0 2 ?_
  refine Wd (Qt ?_)
  refine Te ?_
  refine Qb (Qc (Ny 1 ?_))
  refine Wk 1 Za ?_
  refine Wd ?_
  refine QS.sel [1,1,1,1,1] rfl ?_
  exact QS.head ((a.1+1,v34)) rfl (by simp only [← Jfj Thing.sr ha1 (by omega:a.1 < r.ths.l.length)]) ⟨⟨by simp; omega,by simp; omega⟩,by simp; omega⟩
 have hta:r.ths.l.take a.1.toNat=r.ths.l:=List.take_of_length_le (by omega)
 rw [hta]
 refine Cv (Qe (Qe (Qx (Qc (Cs (Nz 1 ?_))))))
 refine Wd (Qc (Ce ?_))
 refine CS.weak (fun _ hu=>hu.osl0 (e:=3) (size:=1)) ?_
 refine CS.loopM (σ:=Int × Value) [36,37,38,39,40,41,42,43,44,45,46,47,48,49,50,51,52,53] (fun s=>[(7,.int .i64 s.1)]) (fun s=>[oints 3 s.2 ((r.prs.l.take s.1.toNat).map Pro.pl),oints 3 a.2 (r.ths.l.map Thing.sr),blk b5 [a.2,s.2,v16] 44,oints 3 v16 (List.replicate r.ply.toNat 0),blk b2 [.slice none 0 0,.slice none 0 0,.slice none 0 0] 44,blk b1 [r.pls.v,r.ths.v,r.prs.v,r.wys.v,r.acs.v,r.aus.v,.int .i64 r.ply,r.gl.v] 31]) (fun s=>0≤s.1∧s.1≤r.prs.l.length) (fun s=>(r.prs.l.length - s.1).toNat) (0,.slice none 0 0) (fun _ _=>rfl) rfl rfl ⟨by simp,by simp⟩ ?_
 intro d t hs
 obtain ⟨hd1,hd2⟩:=hs
 have htl:=List.length_take_le d.1.toNat r.prs.l
 refine Cs (Nz 2 ?_)
 refine Wk 0 (Ba 5) ?_
 refine Wk 1 Nc ?_
 refine Wd (Qc (CS.cond rfl ?_ ?_))<;>intro hc3<;>try simp only [bq] at hc3
 ·
  refine Ck (Qc (Cs (Ce ?_)))
  refine CS.drawnTill 9 (k:=12) Jah rfl rfl ?_
  refine Tr 12 [0] ?_
  refine Tk 12 1 [2] rfl (Ba 2) ?_
  refine Tk 12 3 [4] rfl (Ba 5) ?_
  refine Tk 12 5 [6] rfl Xc ?_
  refine Tk 12 7 [] rfl (Uc 3 1) ?_
  refine To 8 rfl ?_
  refine WS.buildI1 sl42 zv3 rfl (fun _=>rfl) ?_; intro v51
  refine Wd (Qt ?_)
  refine To 9 rfl ?_
  refine WS.appendI (j:=1) sl42 zv3 rfl rfl rfl (fun u hu=>Jad hu (j:=0) rfl) (by first | omega | (simp; omega) | (simp only [List.length_append,List.length_singleton,List.length_map,List.length_cons,List.length_nil] at *; omega)) (by first | omega | (simp; omega) | (simp only [List.length_append,List.length_singleton,List.length_map,List.length_cons,List.length_nil] at *; omega)) (fun _=>rfl) (fun _=>rfl) ?_; intro v52; refine WS.oc (j:=1) rfl (fun hv52=>?_)
  refine Wd (Qt ?_)
  refine To 10 rfl ?_
  refine Wz 1 ?_
  refine Wd (Qt ?_)
  refine To 11 rfl ?_
  refine Ws 0 3 ?_
  refine Wd (Qt ?_)
  refine Te ?_
  refine Qb (Qc (Ny 1 ?_))
  refine Wk 1 Za ?_
  refine Wd ?_
  refine QS.sel [1,1,1,1,1,1] rfl ?_
  exact QS.head ((d.1+1,v52)) rfl (by simp only [← Jfj Pro.pl hd1 (by omega:d.1 < r.prs.l.length)]) ⟨⟨by simp; omega,by simp; omega⟩,by simp; omega⟩
 have hta:r.prs.l.take d.1.toNat=r.prs.l:=List.take_of_length_le (by omega)
 rw [hta]
 refine Cv (Qe (Qe (Qx (Qc (Nz 0 ?_)))))
 refine Wk 0 (Bb 5) ?_
 refine Wk 0 (Bb 2) ?_
 refine Wc rfl rfl J81 (fun u hu=>Jxg r u (hr.st hu) hn ⟨⟨a.2,_⟩,⟨d.2,_⟩,⟨v16,_⟩⟩ ⟨(Jad hu (j:=1) rfl).tree,(Jad hu (j:=0) rfl).tree,(Jad hu (j:=3) rfl).tree⟩) (fun _=>rfl) ?_; rintro y ⟨hyx,uy,hyok⟩
 obtain ⟨hya,hyb,hyc⟩:=hyok.ones
 refine Wz 2 ?_
 refine Wv 1 5 ?_
 refine Wd (Qc (Cr ?_))
 exact outR (Jcv rfl (Jak (j:=5) rfl rfl tk44) rfl) (by
   have hv:BeginV r=SettleV r (Jdg r):=if_pos hc1
   rw [hv]
   exact fun u hu=>Jq1 (f:=fun v=>.tuple #[v,.int .i64 (SettleV r (Jdg r)).1]) (j:=0) rfl hyx hu)
end Go.Proofs.YtbboikncaihafaaGreatDoor
