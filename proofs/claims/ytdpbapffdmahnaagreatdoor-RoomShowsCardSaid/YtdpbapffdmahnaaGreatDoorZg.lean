/- Merged texts of this proof (walks and plain laws), printed by a program of the prover. -/
import Derived.Test.YtdpbapffdmahnaaGreatDoorZf
import Derived.Test.YtdpbapffdmahnaaGreatDoorZb
set_option maxHeartbeats 8000000
namespace Go.Proofs.YtdpbapffdmahnaaGreatDoor
open Go.RowKit Go.Proofs
set_option maxRecDepth 100000
set_option linter.unusedVariables false
set_option linter.unusedSimpArgs false
theorem Jgn (z:Stt) (w:World) (hz:SttOk w z) (hm:z.ths.l.length≤1000000∧z.prs.l.length≤1000000∧z.pls.l.length≤1000000) :
  Calls Tryz.prog 11 #[.agg #[z.ths.v,z.prs.v,z.pls.v]] w (fun e w'=>∃ x:Value × Value × Value,(x.1.oneCell'=true∧x.2.1.oneCell'=true∧x.2.2.oneCell'=true)∧RetF w (.agg #[x.1,x.2.1,x.2.2]) (star [oints 3 x.1 z.ths.l,oints 3 x.2.1 z.prs.l,oints 3 x.2.2 z.pls.l]) e w'):=by
 have zth:=hz.ths.ints
 have zpr:=hz.prs.ints
 have zpl:=hz.pls.ints
 refine enter Tryz.func11 rfl rfl (Nat.le_of_ble_eq_true rfl) ?_
 refine Nz 0 ?_
 refine Wb 0 rfl rfl (fun _=>rfl) (fun _=>rfl) fun b1 hb1=>?_
 refine Wl 0 zv34 (fun _=>rfl) (fun _=>rfl) fun b2 hb2=>?_
 refine Wd (Qc (Cs ?_))
 refine CS.drawnBut 0 (k:=14) mixed rfl rfl rfl ?_
 refine Ar [1] ?_
 refine Ak 2 [5] rfl (Ba 0) ?_
 refine Ak 6 [9] rfl (Ba 0) ?_
 refine Ak 10 [] rfl (Ba 0) ?_
 refine AS.many (nn:=7) (L':=fun vs=>[osl 3 1 (vs 3) z.ths.l.length (ints z.ths.l),osl 3 1 (vs 7) z.prs.l.length (ints z.prs.l),osl 3 1 (vs 11) z.pls.l.length (ints z.pls.l),blk b2 [.slice none 0 0,.slice none 0 0,.slice none 0 0] 34,blk b1 [z.ths.v,z.prs.v,z.pls.v] 34]) [0,3,4,7,8,11,12] (fun i=>match i with | 0=>3 | 3=>6 | 4=>7 | 7=>10 | 8=>11 | 11=>14 | 12=>15 | _=>0) (fun i=>match i with | 3=>[0] | 7=>[4,3] | 11=>[8,7] | 12=>[3,7,11] | _=>[]) (fun i=>match i with | 3=>some 0 | 7=>some 4 | 11=>some 8 | _=>none) (fun i v=>match i with | 0=>[osl 3 1 v 0 []] | 4=>[osl 3 1 v 0 []] | 8=>[osl 3 1 v 0 []] | 3=>[osl 3 1 v z.ths.l.length (ints z.ths.l)] | 7=>[osl 3 1 v z.prs.l.length (ints z.prs.l)] | 11=>[osl 3 1 v z.pls.l.length (ints z.pls.l)] | _=>[]) (fun i vs=>match i with | 3=>(vs 3).oneCell'=true | 7=>(vs 7).oneCell'=true | 11=>(vs 11).oneCell'=true | 12=>vs 12 = .agg #[vs 3,vs 7,vs 11] | _=>True) (by kernel_rfl) (by decide) rfl rfl (by first | exact fun _ h=>h | exact fun _ h=>h.sub (by repeat first | exact List.Sublist.refl _ | apply List.Sublist.cons_cons | apply List.Sublist.cons)) ?_ (fun _=>rfl) (fun _=>rfl) ?_ ?_
 ·
  intro i hi vs vs' hv h
  simp only [List.mem_cons,List.not_mem_nil,or_false] at hi
  rcases hi with rfl | rfl | rfl | rfl | rfl | rfl | rfl
  ·
   trivial
  ·
   have e:=fun j hj=>(hv j hj).symm; simp only [upd] at h ⊢; rw [e 3 (by decide)]; exact h
  ·
   trivial
  ·
   have e:=fun j hj=>(hv j hj).symm; simp only [upd] at h ⊢; rw [e 7 (by decide)]; exact h
  ·
   trivial
  ·
   have e:=fun j hj=>(hv j hj).symm; simp only [upd] at h ⊢; rw [e 11 (by decide)]; exact h
  have e:=fun j hj=>(hv j hj).symm; simp only [upd] at h ⊢; rw [e 12 (by decide),e 3 (by decide),e 7 (by decide),e 11 (by decide)]; exact h
 ·
  intro i hi o ho
  simp only [List.mem_cons,List.not_mem_nil,or_false] at hi
  rcases hi with rfl | rfl | rfl | rfl | rfl | rfl | rfl
  ·
   obtain rfl:=Option.some.inj ho -- ref.go:445
   intro Q vs l' M hn hd hb k
   refine WS.build0 sl32 zv3 (l':=fun v=>l'.set 3 v) (fun v=>Jaq _ _ _) ?_; intro v; refine WS.done ?_; exact k v trivial
  ·
   obtain rfl:=Option.some.inj ho -- ref.go:445
   intro Q vs l' M hn hd hb k
   refine WS.append0 (j:=0) (news:=ints z.ths.l) (m:=z.ths.l.length) sl32 zv3 rfl (by decide) (hd 0 (by decide)).1 rfl ((hb 5 (by decide)).trans rfl) (fun u hu=>zth.st hu) (by simp [ints,Value.oneCell']) (by omega) (by omega) (l':=fun v=>l'.set 6 v) (fun v=>Jaq _ _ _) (fun _=>rfl) ?_; intro v; refine WS.oc (j:=0) rfl (fun hv=>?_); refine WS.done ?_; exact k v hv
  ·
   obtain rfl:=Option.some.inj ho -- ref.go:445
   intro Q vs l' M hn hd hb k
   refine WS.build0 sl32 zv3 (l':=fun v=>l'.set 7 v) (fun v=>Jaq _ _ _) ?_; intro v; refine WS.done ?_; exact k v trivial
  ·
   obtain rfl:=Option.some.inj ho -- ref.go:445
   intro Q vs l' M hn hd hb k
   refine WS.append0 (j:=0) (news:=ints z.prs.l) (m:=z.prs.l.length) sl32 zv3 rfl (by decide) (hd 4 (by decide)).1 rfl ((hb 9 (by decide)).trans rfl) (fun u hu=>zpr.st hu) (by simp [ints,Value.oneCell']) (by omega) (by omega) (l':=fun v=>l'.set 10 v) (fun v=>Jaq _ _ _) (fun _=>rfl) ?_; intro v; refine WS.oc (j:=0) rfl (fun hv=>?_); refine WS.done ?_; exact k v hv
  ·
   obtain rfl:=Option.some.inj ho -- ref.go:445
   intro Q vs l' M hn hd hb k
   refine WS.build0 sl32 zv3 (l':=fun v=>l'.set 11 v) (fun v=>Jaq _ _ _) ?_; intro v; refine WS.done ?_; exact k v trivial
  ·
   obtain rfl:=Option.some.inj ho -- ref.go:445
   intro Q vs l' M hn hd hb k
   refine WS.append0 (j:=0) (news:=ints z.pls.l) (m:=z.pls.l.length) sl32 zv3 rfl (by decide) (hd 8 (by decide)).1 rfl ((hb 13 (by decide)).trans rfl) (fun u hu=>zpl.st hu) (by simp [ints,Value.oneCell']) (by omega) (by omega) (l':=fun v=>l'.set 14 v) (fun v=>Jaq _ _ _) (fun _=>rfl) ?_; intro v; refine WS.oc (j:=0) rfl (fun hv=>?_); refine WS.done ?_; exact k v hv
  obtain rfl:=Option.some.inj ho -- ref.go:445
  intro Q vs l' M hn hd hb k
  have q3:l'[6]? = _∧_:=hd 3 (by decide)
  have q7:l'[10]? = _∧_:=hd 7 (by decide)
  have q11:l'[14]? = _∧_:=hd 11 (by decide)
  refine WS.det rfl rfl rfl (Jdj Jf5 zv34 (parts:=[(0,vs 3),(1,vs 7),(2,vs 11)]) (by simp [evp,evo,q3.1,q7.1,q11.1]) rfl (by have a:=q3.2; have b:=q7.2; have c:=q11.2; simp at a b c; simp [a,b,c])) (Jaq _ _ _) ?_
  refine Wd ?_
  exact k _ (by simp [upd])
 intro vs hvs
 -- on
 have q3:=hvs 3 (by decide)
 have q7:=hvs 7 (by decide)
 have q11:=hvs 11 (by decide)
 have q12:=hvs 12 (by decide)
 simp only at q3 q7 q11 q12
 rw [q12]
 refine Ao 13 rfl ?_
 refine Wv 0 3 ?_
 refine Wd (Qa ?_)
 refine Ae ?_
 exact Qc (Cr (outR (resc rfl (Jbe (j:=3) rfl rfl tk34)) (fun u hu=>⟨(_,_,_),⟨q3,q7,q11⟩,Jpd (hu.sel [0,0,0] rfl) (List.Perm.refl _)⟩)))
theorem retS {w0 u:World} {L:List SA} {is:List Nat} {e1 e2 e3:TypeId} {a b c:Value} {xs ys zs:List Int} {f:Value→Value} (hs:selo L is=some [oints e1 a xs,oints e2 b ys,oints e3 c zs]) (hu:St w0.heap.size w0 L u) :
  RetS w0 (xs,ys,zs) f (.returned (f (.agg #[a,b,c]))) u:=by
 have h1:=St.toRo (A:=star [oints e1 a xs,oints e2 b ys,oints e3 c zs]) (p:=fun u=>SttOk u ⟨⟨a,xs⟩,⟨b,ys⟩,⟨c,zs⟩⟩) (L:=[]) (fun S u h=>⟨SlI.tree (Star.oints (L:=[oints e1 a xs,oints e2 b ys,oints e3 c zs]) (j:=0) rfl h.1),SlI.tree (Star.oints (L:=[oints e1 a xs,oints e2 b ys,oints e3 c zs]) (j:=1) rfl h.1),SlI.tree (Star.oints (L:=[oints e1 a xs,oints e2 b ys,oints e3 c zs]) (j:=2) rfl h.1)⟩) (St.pack (L2:=[]) (by simpa using hu.sel is hs))
 exact ⟨⟨⟨a,xs⟩,⟨b,ys⟩,⟨c,zs⟩⟩,⟨rfl,u,h1.ro (j:=0) rfl⟩,retF (j:=0) rfl u h1⟩
theorem Jkp {w0 u:World} {L:List SA} {f:Value→Value} (hu:St w0.heap.size w0 L u):RetS w0 no3 f (.returned (f (.agg #[.slice none 0 0,.slice none 0 0,.slice none 0 0]))) u:=by
 have h1:St w0.heap.size w0 (oints 3 (.slice none 0 0) []::L) u:=St.osl0 hu
 have h2:St w0.heap.size w0 (oints 3 (.slice none 0 0) []::oints 3 (.slice none 0 0) []::L) u:=St.osl0 h1
 have h3:St w0.heap.size w0 (oints 3 (.slice none 0 0) []::oints 3 (.slice none 0 0) []::oints 3 (.slice none 0 0) []::L) u:=St.osl0 h2
 exact retS (is:=[0,0,0]) rfl h3
theorem Jfu (z:Stt) (w:World) (hz:SttOk w z) (hm:z.ths.l.length≤1000000∧z.prs.l.length≤1000000∧z.pls.l.length≤1000000) :
  Calls Tryz.prog 11 #[.agg #[z.ths.v,z.prs.v,z.pls.v]] w (RetS w z.x fun v=>v):=by
 refine Calls.mono (Jgn z w hz hm) ?_
 rintro e u ⟨⟨a,b,c⟩,ho,h⟩
 have h2:RetF w (.agg #[a,b,c]) (roS fun u=>SttOk u ⟨⟨a,z.ths.l⟩,⟨b,z.prs.l⟩,⟨c,z.pls.l⟩⟩) e u:=h.toRo fun S u h=>⟨SlI.tree (Star.oints (L:=[oints 3 a z.ths.l,oints 3 b z.prs.l,oints 3 c z.pls.l]) (j:=0) rfl h.1),SlI.tree (Star.oints (L:=[oints 3 a z.ths.l,oints 3 b z.prs.l,oints 3 c z.pls.l]) (j:=1) rfl h.1),SlI.tree (Star.oints (L:=[oints 3 a z.ths.l,oints 3 b z.prs.l,oints 3 c z.pls.l]) (j:=2) rfl h.1)⟩
 exact ⟨⟨⟨a,z.ths.l⟩,⟨b,z.prs.l⟩,⟨c,z.pls.l⟩⟩,⟨rfl,u,h2.now⟩,h2⟩
end Go.Proofs.YtdpbapffdmahnaaGreatDoor
