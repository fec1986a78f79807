/- Merged texts of this proof (walks and plain laws), printed by a program of the prover. -/
import Derived.Test.YtkekjhcmephhjaaGreatDoorZd
import Derived.Test.YtkekjhcmephhjaaGreatDoorZb
set_option maxHeartbeats 8000000
namespace Go.Proofs.YtkekjhcmephhjaaGreatDoor
open Go.RowKit Go.Proofs
set_option maxRecDepth 100000
set_option linter.unusedVariables false
set_option linter.unusedSimpArgs false
theorem Jf8 (l:Sl Int) (w:World) (hk:SlT cInt w l) (hm:(l.l.length:Int)≤1000000) :
  Calls Tryz.prog 37 #[l.v] w (fun e w'=>∃ v:Value,(∃ u0,SlT cInt u0 ⟨v,l.l⟩)∧RetF w v (roT cInt ⟨v,l.l⟩) e w'):=by
 refine Calls.mono (Jqy l w hk hm) ?_
 rintro e u ⟨v,ho,h⟩
 have h2:RetF w v (roT cInt ⟨v,l.l⟩) e u:=RetF.toRo (A:=oints 3 v l.l) (p:=fun u=>SlT cInt u ⟨v,l.l⟩) (fun S u h=>SlI.tree (Jbt h.2)) h
 exact ⟨v,⟨u,h2.now⟩,h2⟩
theorem Jzs {n0:Nat} {w0 u:World} {L:List SA} {a:Actn} {e:TypeId} {p q:World→Prop} (h:St n0 w0 ([roT cInt a.us,roT cLit a.wh,oT cPut e a.se.v a.se.l,roT cInt a.sp,roT cInt a.br,roS p]++L) u) (hr:∀ u,ActOk u a→p u→q u):St n0 w0 (roS q::L) u :=
 St.toRo (A:=star [roT cInt a.us,roT cLit a.wh,oT cPut e a.se.v a.se.l,roT cInt a.sp,roT cInt a.br,roS p]) (fun S u hs=>hr u ⟨Star.ro (j:=0) rfl hs.1,Star.ro (j:=1) rfl hs.1,⟨Star.osl (j:=2) rfl hs.1,fun _ _=>trivial⟩,Star.ro (j:=3) rfl hs.1,Star.ro (j:=4) rfl hs.1⟩ (Star.ro (j:=5) rfl hs.1)) h.pack
theorem Jly (r:Room) (w:World) (hr:RoomOk w r) (hn:Near r) :
  Calls Tryz.prog 11 #[.agg #[r.pls.v,r.ths.v,r.prs.v,r.wys.v,r.acs.v,r.aus.v,.int .i64 r.ply,r.gl.v]] w (Jxf w r):=by
 have kpl:=hr.pls
 have lpl:=hr.pls.le
 have kth:=hr.ths
 have lth:=hr.ths.le
 have kpr:=hr.prs
 have lpr:=hr.prs.le
 have kwy:=hr.wys
 have lwy:=hr.wys.le
 have kac:=hr.acs
 have lac:=hr.acs.le
 have kau:=hr.aus
 have lau:=hr.aus.le
 have kgl:=hr.gl
 have lgl:=hr.gl.le
 have n1:=hn.pls
 have n2:=hn.ths
 have n3:=hn.prs
 have n4:=hn.wys
 have n5:=hn.acs
 have n6:=hn.aus
 have n7:=hn.gl
 refine enter Tryz.func11 rfl rfl (Nat.le_of_ble_eq_true rfl) ?_
 refine Nz 0 ?_
 refine Wb 0 rfl rfl (fun _=>rfl) (fun _=>rfl) fun b1 hb1=>?_
 refine Wl 0 zv32 (fun _=>rfl) (fun _=>rfl) fun b2 hb2=>?_
 refine Wd (Qc (Cs ?_))
 refine CS.drawnAll (k:=32) mixed rfl rfl ?_
 refine Ar [1] ?_
 refine Ak 2 [5] rfl (Ba 1) ?_
 refine Ak 6 [9] rfl (Ba 1) ?_
 refine Ak 10 [13] rfl (Ba 1) ?_
 refine Ak 14 [17] rfl (Ba 1) ?_
 refine Ak 18 [21] rfl (Ba 1) ?_
 refine Ak 22 [24] rfl (Ba 1) ?_
 refine Ak 25 [26] rfl (Ba 1) ?_
 refine Ak 27 [] rfl (Ba 1) ?_
 refine AS.many (nn:=15) (L':=fun vs=>[oT cStr 9 (vs 3) r.pls.l,oT cThing 65 (vs 7) r.ths.l,oT cPro 67 (vs 11) r.prs.l,oT cWay 69 (vs 15) r.wys.l,oT cAct 73 (vs 19) r.acs.l,oT cAuto 77 (vs 23) r.aus.l,roT cLit ⟨vs 28,r.gl.l⟩,blk (ptrB (vs 30)) [.slice none 0 0,.slice none 0 0,.slice none 0 0,.slice none 0 0,.slice none 0 0,.slice none 0 0,.int .i64 0,.slice none 0 0] 32,blk b2 [.slice none 0 0,.slice none 0 0,.slice none 0 0,.slice none 0 0,.slice none 0 0,.slice none 0 0,.int .i64 0,.slice none 0 0] 32,blk b1 [r.pls.v,r.ths.v,r.prs.v,r.wys.v,r.acs.v,r.aus.v,.int .i64 r.ply,r.gl.v] 32]) [0,3,4,7,8,11,12,15,16,19,20,23,28,29,30] (fun i=>match i with | 0=>9 | 3=>12 | 4=>13 | 7=>16 | 8=>17 | 11=>20 | 12=>21 | 15=>24 | 16=>25 | 19=>28 | 20=>29 | 23=>32 | 28=>37 | 29=>38 | 30=>3 | _=>0) (fun i=>match i with | 3=>[0] | 7=>[4,3] | 11=>[8,7] | 15=>[12,11] | 19=>[16,15] | 23=>[20,19] | 28=>[23] | 29=>[3,7,11,15,19,23,28] | _=>[]) (fun i=>match i with | 3=>some 0 | 7=>some 4 | 11=>some 8 | 15=>some 12 | 19=>some 16 | 23=>some 20 | _=>none) (fun i v=>match i with | 0=>[osl 9 cStr.k v 0 []] | 4=>[osl 65 cThing.k v 0 []] | 8=>[osl 67 cPro.k v 0 []] | 12=>[osl 69 cWay.k v 0 []] | 16=>[osl 73 cAct.k v 0 []] | 20=>[osl 77 cAuto.k v 0 []] | 3=>[osl 9 cStr.k v r.pls.l.length (Jax cStr r.pls.l)] | 7=>[osl 65 cThing.k v r.ths.l.length (Jax cThing r.ths.l)] | 11=>[osl 67 cPro.k v r.prs.l.length (Jax cPro r.prs.l)] | 15=>[osl 69 cWay.k v r.wys.l.length (Jax cWay r.wys.l)] | 19=>[osl 73 cAct.k v r.acs.l.length (Jax cAct r.acs.l)] | 23=>[osl 77 cAuto.k v r.aus.l.length (Jax cAuto r.aus.l)] | 28=>[roT cLit ⟨v,r.gl.l⟩] | 30=>[blk (ptrB v) [.slice none 0 0,.slice none 0 0,.slice none 0 0,.slice none 0 0,.slice none 0 0,.slice none 0 0,.int .i64 0,.slice none 0 0] 32] | _=>[]) (fun i vs=>match i with | 3=>(vs 3).oneCell'=true | 7=>(vs 7).oneCell'=true | 11=>(vs 11).oneCell'=true | 15=>(vs 15).oneCell'=true | 19=>(vs 19).oneCell'=true | 23=>(vs 23).oneCell'=true | 28=>(vs 28).oneCell'=true | 29=>vs 29 = .agg #[vs 3,vs 7,vs 11,vs 15,vs 19,vs 23,.int .i64 r.ply,vs 28] | 30=>∃ b,vs 30 = .pointer (some ⟨b,0,none⟩) | _=>True) (by kernel_rfl) (by decide) rfl rfl (by first | exact fun _ h=>h | exact fun _ h=>h.sub (by repeat first | exact List.Sublist.refl _ | apply List.Sublist.cons_cons | apply List.Sublist.cons)) ?_ (fun _=>rfl) (fun _=>rfl) ?_ ?_
 ·
  intro i hi vs vs' hv h
  simp only [List.mem_cons,List.not_mem_nil,or_false] at hi
  rcases hi with rfl | rfl | rfl | rfl | rfl | rfl | rfl | rfl | rfl | rfl | rfl | rfl | rfl | rfl | rfl
  ·
   trivial
  ·
   have e:=fun j hj=>(hv j hj).symm; simp only [upd] at h ⊢; rw [e 3 (by decide)]; exact h
  ·
   trivial
  ·
   have e:=fun j hj=>(hv j hj).symm; simp only [upd] at h ⊢; rw [e 7 (by decide)]; exact h
  ·
   trivial
  ·
   have e:=fun j hj=>(hv j hj).symm; simp only [upd] at h ⊢; rw [e 11 (by decide)]; exact h
  ·
   trivial
  ·
   have e:=fun j hj=>(hv j hj).symm; simp only [upd] at h ⊢; rw [e 15 (by decide)]; exact h
  ·
   trivial
  ·
   have e:=fun j hj=>(hv j hj).symm; simp only [upd] at h ⊢; rw [e 19 (by decide)]; exact h
  ·
   trivial
  ·
   have e:=fun j hj=>(hv j hj).symm; simp only [upd] at h ⊢; rw [e 23 (by decide)]; exact h
  ·
   have e:=fun j hj=>(hv j hj).symm; simp only [upd] at h ⊢; rw [e 28 (by decide)]; exact h
  ·
   have e:=fun j hj=>(hv j hj).symm; simp only [upd] at h ⊢; rw [e 29 (by decide),e 3 (by decide),e 7 (by decide),e 11 (by decide),e 15 (by decide),e 19 (by decide),e 23 (by decide),e 28 (by decide)]; exact h
  have e:=fun j hj=>(hv j hj).symm; simp only [upd] at h ⊢; rw [e 30 (by decide)]; exact h
 ·
  intro i hi o ho
  simp only [List.mem_cons,List.not_mem_nil,or_false] at hi
  rcases hi with rfl | rfl | rfl | rfl | rfl | rfl | rfl | rfl | rfl | rfl | rfl | rfl | rfl | rfl | rfl
  ·
   obtain rfl:=Option.some.inj ho -- text.go:409
   intro Q vs l' M hn hd hb k
   refine WS.build0 sl23 zv9 (l':=fun v=>l'.set 9 v) (fun v=>Jac _ _ _) ?_; intro v; refine WS.done ?_; exact k v trivial
  ·
   obtain rfl:=Option.some.inj ho -- text.go:409
   intro Q vs l' M hn hd hb k
   refine WS.append0 (j:=0) (news:=Jax cStr r.pls.l) (m:=r.pls.l.length) sl23 zv9 rfl (by decide) (hd 0 (by decide)).1 rfl ((hb 11 (by decide)).trans rfl) (fun u hu=>(kpl.st hu).sp) kpl.one (by omega) (by omega) (l':=fun v=>l'.set 12 v) (fun v=>Jac _ _ _) (fun _=>rfl) ?_; intro v; refine WS.oc (j:=0) rfl (fun hv=>?_); refine WS.done ?_; exact k v hv
  ·
   obtain rfl:=Option.some.inj ho -- text.go:409
   intro Q vs l' M hn hd hb k
   refine WS.build0 sl24 zv65 (l':=fun v=>l'.set 13 v) (fun v=>Jac _ _ _) ?_; intro v; refine WS.done ?_; exact k v trivial
  ·
   obtain rfl:=Option.some.inj ho -- text.go:409
   intro Q vs l' M hn hd hb k
   refine WS.append0 (j:=0) (news:=Jax cThing r.ths.l) (m:=r.ths.l.length) sl24 zv65 rfl (by decide) (hd 4 (by decide)).1 rfl ((hb 15 (by decide)).trans rfl) (fun u hu=>(kth.st hu).sp) kth.one (by omega) (by omega) (l':=fun v=>l'.set 16 v) (fun v=>Jac _ _ _) (fun _=>rfl) ?_; intro v; refine WS.oc (j:=0) rfl (fun hv=>?_); refine WS.done ?_; exact k v hv
  ·
   obtain rfl:=Option.some.inj ho -- text.go:409
   intro Q vs l' M hn hd hb k
   refine WS.build0 sl25 zv67 (l':=fun v=>l'.set 17 v) (fun v=>Jac _ _ _) ?_; intro v; refine WS.done ?_; exact k v trivial
  ·
   obtain rfl:=Option.some.inj ho -- text.go:409
   intro Q vs l' M hn hd hb k
   refine WS.append0 (j:=0) (news:=Jax cPro r.prs.l) (m:=r.prs.l.length) sl25 zv67 rfl (by decide) (hd 8 (by decide)).1 rfl ((hb 19 (by decide)).trans rfl) (fun u hu=>(kpr.st hu).sp) kpr.one (by omega) (by omega) (l':=fun v=>l'.set 20 v) (fun v=>Jac _ _ _) (fun _=>rfl) ?_; intro v; refine WS.oc (j:=0) rfl (fun hv=>?_); refine WS.done ?_; exact k v hv
  ·
   obtain rfl:=Option.some.inj ho -- text.go:409
   intro Q vs l' M hn hd hb k
   refine WS.build0 sl26 zv69 (l':=fun v=>l'.set 21 v) (fun v=>Jac _ _ _) ?_; intro v; refine WS.done ?_; exact k v trivial
  ·
   obtain rfl:=Option.some.inj ho -- text.go:409
   intro Q vs l' M hn hd hb k
   refine WS.append0 (j:=0) (news:=Jax cWay r.wys.l) (m:=r.wys.l.length) sl26 zv69 rfl (by decide) (hd 12 (by decide)).1 rfl ((hb 23 (by decide)).trans rfl) (fun u hu=>(kwy.st hu).sp) kwy.one (by omega) (by omega) (l':=fun v=>l'.set 24 v) (fun v=>Jac _ _ _) (fun _=>rfl) ?_; intro v; refine WS.oc (j:=0) rfl (fun hv=>?_); refine WS.done ?_; exact k v hv
  ·
   obtain rfl:=Option.some.inj ho -- text.go:409
   intro Q vs l' M hn hd hb k
   refine WS.build0 sl27 zv73 (l':=fun v=>l'.set 25 v) (fun v=>Jac _ _ _) ?_; intro v; refine WS.done ?_; exact k v trivial
  ·
   obtain rfl:=Option.some.inj ho -- text.go:409
   intro Q vs l' M hn hd hb k
   refine WS.append0 (j:=0) (news:=Jax cAct r.acs.l) (m:=r.acs.l.length) sl27 zv73 rfl (by decide) (hd 16 (by decide)).1 rfl ((hb 27 (by decide)).trans rfl) (fun u hu=>(kac.st hu).sp) kac.one (by omega) (by omega) (l':=fun v=>l'.set 28 v) (fun v=>Jac _ _ _) (fun _=>rfl) ?_; intro v; refine WS.oc (j:=0) rfl (fun hv=>?_); refine WS.done ?_; exact k v hv
  ·
   obtain rfl:=Option.some.inj ho -- text.go:409
   intro Q vs l' M hn hd hb k
   refine WS.build0 sl28 zv77 (l':=fun v=>l'.set 29 v) (fun v=>Jac _ _ _) ?_; intro v; refine WS.done ?_; exact k v trivial
  ·
   obtain rfl:=Option.some.inj ho -- text.go:409
   intro Q vs l' M hn hd hb k
   refine WS.append0 (j:=0) (news:=Jax cAuto r.aus.l) (m:=r.aus.l.length) sl28 zv77 rfl (by decide) (hd 20 (by decide)).1 rfl ((hb 31 (by decide)).trans rfl) (fun u hu=>(kau.st hu).sp) kau.one (by omega) (by omega) (l':=fun v=>l'.set 32 v) (fun v=>Jac _ _ _) (fun _=>rfl) ?_; intro v; refine WS.oc (j:=0) rfl (fun hv=>?_); refine WS.done ?_; exact k v hv
  ·
   obtain rfl:=Option.some.inj ho -- text.go:409
   intro Q vs l' M hn hd hb k
   refine Wc (l':=fun v=>l'.set 37 v) rfl (vs:=[r.gl.v]) (by simp only [evs,(hb 36 (by decide)).trans rfl,evo]; rfl) Js0 (fun u hu=>Jd8 r.gl u (kgl.st hu) (by omega)) (fun v=>Jac _ _ _) ?_; rintro v ⟨u0,hv⟩; refine WS.done ?_; exact k v (Sl.one hv)
  ·
   obtain rfl:=Option.some.inj ho -- text.go:409
   intro Q vs l' M hn hd hb k
   have q0:∀ {j:Nat},j∈([3,7,11,15,19,23,28]:List Nat)→_:=fun {j} hj=>hd j hj
   have a3:l'[12]? = _∧_:=hd 3 (by decide)
   have a7:l'[16]? = _∧_:=hd 7 (by decide)
   have a11:l'[20]? = _∧_:=hd 11 (by decide)
   have a15:l'[24]? = _∧_:=hd 15 (by decide)
   have a19:l'[28]? = _∧_:=hd 19 (by decide)
   have a23:l'[32]? = _∧_:=hd 23 (by decide)
   have a28:l'[37]? = _∧_:=hd 28 (by decide)
   have a34:l'[34]? = some (.int .i64 r.ply):=(hb 34 (by decide)).trans rfl
   obtain ⟨c3,c7,c11,c15,c19,c23,c28⟩:=(⟨a3.2,a7.2,a11.2,a15.2,a19.2,a23.2,a28.2⟩:(vs 3).oneCell'=true∧(vs 7).oneCell'=true∧(vs 11).oneCell'=true∧(vs 15).oneCell'=true∧(vs 19).oneCell'=true∧(vs 23).oneCell'=true∧(vs 28).oneCell'=true)
   refine WS.det rfl rfl rfl (Jj3 Jp7 zv32 (parts:=[(0,vs 3),(1,vs 7),(2,vs 11),(3,vs 15),(4,vs 19),(5,vs 23),(6,.int .i64 r.ply),(7,vs 28)]) (by simp [evp,evo,a3.1,a7.1,a11.1,a15.1,a19.1,a23.1,a28.1,a34]) rfl (by (repeat (refine List.forall_mem_cons.2 ⟨by first | rfl | assumption,?_⟩)); exact fun _ h=>absurd h List.not_mem_nil)) (Jac _ _ _) ?_
   refine Wd ?_
   exact k _ (by simp [upd])
  obtain rfl:=Option.some.inj ho -- text.go:409
  intro Q vs l' M hn hd hb k
  refine WS.alloc (l':=fun b=>l'.set 3 (.pointer (some ⟨b,0,none⟩))) zv32 (fun v=>Jac _ _ _) ?_; intro b hbb; refine WS.done ?_; exact k _ ⟨b,rfl⟩
 intro vs hvs
 -- on
 obtain ⟨b3,hb3⟩:∃ b,vs 30 = .pointer (some ⟨b,0,none⟩):=hvs 30 (by decide)
 have c29:vs 29 = .agg #[vs 3,vs 7,vs 11,vs 15,vs 19,vs 23,.int .i64 r.ply,vs 28]:=hvs 29 (by decide)
 obtain ⟨c3,c7,c11,c15,c19,c23,c28⟩:=(⟨hvs 3 (by decide),hvs 7 (by decide),hvs 11 (by decide),hvs 15 (by decide),hvs 19 (by decide),hvs 23 (by decide),hvs 28 (by decide)⟩:(vs 3).oneCell'=true∧(vs 7).oneCell'=true∧(vs 11).oneCell'=true∧(vs 15).oneCell'=true∧(vs 19).oneCell'=true∧(vs 23).oneCell'=true∧(vs 28).oneCell'=true)
 rw [c29,hb3]
 refine Ao 31 rfl ?_
 refine Wv 0 7 ?_
 refine Wd (Qa ?_)
 refine Ae ?_
 refine Qc (Cs (Nz 1 ?_))
 refine Wd (Qc (Ce ?_))
 refine CS.weak (L':=(roS fun u=>∀ j:Int,0≤j→j < (0:Int)→SlT cLit u (nth r.prs.l j).wh)::_) (fun u hu=>St.roTrue hu (p:=fun u=>∀ j:Int,0≤j→j < (0:Int)→SlT cLit u (nth r.prs.l j).wh) fun u j a b=>by omega) ?_
 refine CS.sel [0,2,2,2,2,0,0,0,0,0,0] rfl ?_
 refine CS.loopM (σ:=Int × List Pro) [39,40,41,42,43,44,45,46,47,48,49,50,51,52,53,54,55,56,57] (fun s=>[(4,.int .i64 s.1)]) (fun s=>[roS fun u=>∀ j:Int,0≤j→j < s.1→SlT cLit u (nth s.2 j).wh,oT cPro 67 (vs 11) s.2,oT cWay 69 (vs 15) r.wys.l,oT cAct 73 (vs 19) r.acs.l,oT cAuto 77 (vs 23) r.aus.l,oT cStr 9 (vs 3) r.pls.l,oT cThing 65 (vs 7) r.ths.l,roT cLit ⟨vs 28,r.gl.l⟩,blk b3 [vs 3,vs 7,vs 11,vs 15,vs 19,vs 23,.int .i64 r.ply,vs 28] 32,blk b2 [.slice none 0 0,.slice none 0 0,.slice none 0 0,.slice none 0 0,.slice none 0 0,.slice none 0 0,.int .i64 0,.slice none 0 0] 32,blk b1 [r.pls.v,r.ths.v,r.prs.v,r.wys.v,r.acs.v,r.aus.v,.int .i64 r.ply,r.gl.v] 32]) (fun s=>0≤s.1∧s.1≤r.prs.l.length∧s.2.map Pro.e=r.prs.l.map Pro.e∧∀ j:Int,s.1≤j→j < r.prs.l.length→nth s.2 j=nth r.prs.l j) (fun s=>(r.prs.l.length - s.1).toNat) (0,r.prs.l) (fun _ _=>rfl) rfl rfl ⟨by simp,by simp,rfl,fun _ _ _=>rfl⟩ ?_
 intro a t hs
 obtain ⟨ha1,ha2,ha3,ha4⟩:=hs
 have hlna:=Je5 ha3
 refine Cs (Nz 2 ?_)
 refine Wk 0 (Ba 8) ?_
 refine Wk 1 (Jes (j:=1) sl25 rfl rfl) ?_
 refine Wd (Qc (CS.cond rfl ?_ ?_))<;>intro hc1<;>try simp only [bq] at hc1
 ·
  have hnp:=hn.pr _ (Jak (i:=a.1) (xs:=r.prs.l) ha1 (by omega))
  have hel:=ha4 a.1 (by omega) (by omega)
  have hwh:SlT cLit w (nth a.2 a.1).wh:=by rw [hel]; exact hr.prs.at ha1 (by omega)
  rw [← hel] at hnp
  refine Ck (Qc (Cs (Ce ?_)))
  refine CS.drawnTill 12 (k:=13) mixed rfl rfl ?_
  refine Tr 13 [0] ?_
  refine Tk 13 1 [2,3] rfl (Ba 8) ?_
  refine Tk 13 4 [5] rfl (Ba 8) ?_
  refine Tk 13 6 [7] rfl (Jc7 (j:=1) sl25 rfl rfl rfl rfl (by omega) (by omega)) ?_
  refine Tk 13 8 [] rfl (Ji3 3 2 (j:=1) rfl rfl rfl ⟨by omega,by omega⟩ (by decide) rfl tk30) ?_
  refine To 9 rfl ?_
  refine Wc rfl rfl Js0 (fun u hu=>Jd8 (nth a.2 a.1).wh u (hwh.st hu) (by omega)) (fun _=>rfl) ?_; rintro v55 ⟨u55,hv55⟩
  refine Wd (Qt ?_)
  refine Tk 13 10 [11] rfl (Jc7 (j:=1) sl25 rfl rfl rfl rfl (by omega) (by omega)) ?_
  refine To 12 rfl ?_
  refine WS.storeTc (C:=cPro) 3 2 { nth a.2 a.1 with wh:=⟨v55,(nth a.2 a.1).wh.l⟩ } (j:=2) rfl rfl rfl ⟨by omega,by omega⟩ (by decide) rfl (Sl.one hv55) tk30 rfl rfl ?_
  refine Wd (Qt ?_)
  refine Te ?_
  refine Qb (Qc (Ny 1 ?_))
  refine Wk 1 Za ?_
  refine Wd ?_
  refine QS.weak (L':=(roS fun u=>∀ j:Int,0≤j→j < a.1+1→SlT cLit u (nth (a.2.set a.1.toNat { nth a.2 a.1 with wh:=⟨v55,(nth a.2 a.1).wh.l⟩ }) j).wh)::_) (fun u hu=>St.ro2 (fun S u h=>roS.now h) (fun S u h=>roS.now h) (fun u hp hq=>Jh0 (q:=fun u (x:Pro)=>SlT cLit u x.wh) ha1 (by omega) hp hq) hu) ?_
  exact QS.head ((a.1+1,a.2.set a.1.toNat { nth a.2 a.1 with wh:=⟨v55,(nth a.2 a.1).wh.l⟩ })) rfl rfl ⟨⟨by simp; omega,by simp; omega,by simp only; rw [Jdy Pro.e ha1 (by omega) (by rfl)]; exact ha3,fun j a0 a1=>by
      simp only at a0
      rw [Jcu ha1 (by omega) (by omega)]; exact ha4 j (by omega) a1⟩,by simp; omega⟩
 refine Cv (Qe (Qe (Qx (Qc (Cs (Nz 1 ?_))))))
 refine Wd (Qc (Ce ?_))
 refine CS.weak (L':=roT cPro ⟨vs 11,a.2⟩::_) (fun u hu=>St.ro2 (A:=roS fun u=>∀ j:Int,0≤j→j < a.1→SlT cLit u (nth a.2 j).wh) (B:=oT cPro 67 (vs 11) a.2) (fun S u h=>roS.now h) (fun S u h=>Jbt h.2) (fun u hp hq=>(⟨hq,Jkr (l:=a.2) (q:=fun u x=>cPro.ok u x) (i:=a.1) (by omega) hp⟩:SlT cPro u ⟨vs 11,a.2⟩)) hu) ?_
 refine CS.weak (L':=(roS fun u=>∀ j:Int,0≤j→j < (0:Int)→SlT cLit u (nth r.wys.l j).wh)::_) (fun u hu=>St.roTrue hu (p:=fun u=>∀ j:Int,0≤j→j < (0:Int)→SlT cLit u (nth r.wys.l j).wh) fun u j a b=>by omega) ?_
 refine CS.sel [0,1,0,0,0,0,0,0,0,0,0] rfl ?_
 refine CS.loopM (σ:=Int × List Way) [58,59,60,61,62,63,64,65,66,67,68,69,70,71,72,73,74,75,76] (fun s=>[(5,.int .i64 s.1)]) (fun s=>[roS fun u=>∀ j:Int,0≤j→j < s.1→SlT cLit u (nth s.2 j).wh,oT cWay 69 (vs 15) s.2,roT cPro ⟨vs 11,a.2⟩,oT cAct 73 (vs 19) r.acs.l,oT cAuto 77 (vs 23) r.aus.l,oT cStr 9 (vs 3) r.pls.l,oT cThing 65 (vs 7) r.ths.l,roT cLit ⟨vs 28,r.gl.l⟩,blk b3 [vs 3,vs 7,vs 11,vs 15,vs 19,vs 23,.int .i64 r.ply,vs 28] 32,blk b2 [.slice none 0 0,.slice none 0 0,.slice none 0 0,.slice none 0 0,.slice none 0 0,.slice none 0 0,.int .i64 0,.slice none 0 0] 32,blk b1 [r.pls.v,r.ths.v,r.prs.v,r.wys.v,r.acs.v,r.aus.v,.int .i64 r.ply,r.gl.v] 32]) (fun s=>0≤s.1∧s.1≤r.wys.l.length∧s.2.map Way.e=r.wys.l.map Way.e∧∀ j:Int,s.1≤j→j < r.wys.l.length→nth s.2 j=nth r.wys.l j) (fun s=>(r.wys.l.length - s.1).toNat) (0,r.wys.l) (fun _ _=>rfl) rfl rfl ⟨by simp,by simp,rfl,fun _ _ _=>rfl⟩ ?_
 intro d t hs
 obtain ⟨hd1,hd2,hd3,hd4⟩:=hs
 have hlnd:=Je5 hd3
 refine Cs (Nz 2 ?_)
 refine Wk 0 (Ba 8) ?_
 refine Wk 1 (Jes (j:=1) sl26 rfl rfl) ?_
 refine Wd (Qc (CS.cond rfl ?_ ?_))<;>intro hc2<;>try simp only [bq] at hc2
 ·
  have hnp:=hn.wy _ (Jak (i:=d.1) (xs:=r.wys.l) hd1 (by omega))
  have hel:=hd4 d.1 (by omega) (by omega)
  have hwh:SlT cLit w (nth d.2 d.1).wh:=by rw [hel]; exact hr.wys.at hd1 (by omega)
  rw [← hel] at hnp
  refine Ck (Qc (Cs (Ce ?_)))
  refine CS.drawnTill 12 (k:=13) mixed rfl rfl ?_
  refine Tr 13 [0] ?_
  refine Tk 13 1 [2,3] rfl (Ba 8) ?_
  refine Tk 13 4 [5] rfl (Ba 8) ?_
  refine Tk 13 6 [7] rfl (Jc7 (j:=1) sl26 rfl rfl rfl rfl (by omega) (by omega)) ?_
  refine Tk 13 8 [] rfl (Ji3 3 2 (j:=1) rfl rfl rfl ⟨by omega,by omega⟩ (by decide) rfl tk30) ?_
  refine To 9 rfl ?_
  refine Wc rfl rfl Js0 (fun u hu=>Jd8 (nth d.2 d.1).wh u (hwh.st hu) (by omega)) (fun _=>rfl) ?_; rintro v74 ⟨u74,hv74⟩
  refine Wd (Qt ?_)
  refine Tk 13 10 [11] rfl (Jc7 (j:=1) sl26 rfl rfl rfl rfl (by omega) (by omega)) ?_
  refine To 12 rfl ?_
  refine WS.storeTc (C:=cWay) 3 2 { nth d.2 d.1 with wh:=⟨v74,(nth d.2 d.1).wh.l⟩ } (j:=2) rfl rfl rfl ⟨by omega,by omega⟩ (by decide) rfl (Sl.one hv74) tk30 rfl rfl ?_
  refine Wd (Qt ?_)
  refine Te ?_
  refine Qb (Qc (Ny 1 ?_))
  refine Wk 1 Za ?_
  refine Wd ?_
  refine QS.weak (L':=(roS fun u=>∀ j:Int,0≤j→j < d.1+1→SlT cLit u (nth (d.2.set d.1.toNat { nth d.2 d.1 with wh:=⟨v74,(nth d.2 d.1).wh.l⟩ }) j).wh)::_) (fun u hu=>St.ro2 (fun S u h=>roS.now h) (fun S u h=>roS.now h) (fun u hp hq=>Jh0 (q:=fun u (x:Way)=>SlT cLit u x.wh) hd1 (by omega) hp hq) hu) ?_
  exact QS.head ((d.1+1,d.2.set d.1.toNat { nth d.2 d.1 with wh:=⟨v74,(nth d.2 d.1).wh.l⟩ })) rfl rfl ⟨⟨by simp; omega,by simp; omega,by simp only; rw [Jdy Way.e hd1 (by omega) (by rfl)]; exact hd3,fun j a0 a1=>by
      simp only at a0
      rw [Jcu hd1 (by omega) (by omega)]; exact hd4 j (by omega) a1⟩,by simp; omega⟩
 refine Cv (Qe (Qe (Qx (Qc (Cs (Nz 1 ?_))))))
 refine Wd (Qc (Ce ?_))
 refine CS.weak (L':=roT cWay ⟨vs 15,d.2⟩::_) (fun u hu=>St.ro2 (A:=roS fun u=>∀ j:Int,0≤j→j < d.1→SlT cLit u (nth d.2 j).wh) (B:=oT cWay 69 (vs 15) d.2) (fun S u h=>roS.now h) (fun S u h=>Jbt h.2) (fun u hp hq=>(⟨hq,Jkr (l:=d.2) (q:=fun u x=>cWay.ok u x) (i:=d.1) (by omega) hp⟩:SlT cWay u ⟨vs 15,d.2⟩)) hu) ?_
 refine CS.weak (L':=(roS fun u=>∀ j:Int,0≤j→j < (0:Int)→ActOk u (nth r.acs.l j))::_) (fun u hu=>St.roTrue hu (p:=fun u=>∀ j:Int,0≤j→j < (0:Int)→ActOk u (nth r.acs.l j)) fun u j a b=>by omega) ?_
 refine CS.sel [0,2,1,0,0,0,0,0,0,0,0] rfl ?_
 refine CS.loopM (σ:=Int × List Actn) [7,77,78,79,80,81,82,83,84,85,86,87,88,89,90,91,92,93,94,95,96,97,98,99,100,101,102,103,104,105,106,107,108,109,110,111,112,113,114] (fun s=>[(6,.int .i64 s.1)]) (fun s=>[roS fun u=>∀ j:Int,0≤j→j < s.1→ActOk u (nth s.2 j),oT cAct 73 (vs 19) s.2,roT cPro ⟨vs 11,a.2⟩,roT cWay ⟨vs 15,d.2⟩,oT cAuto 77 (vs 23) r.aus.l,oT cStr 9 (vs 3) r.pls.l,oT cThing 65 (vs 7) r.ths.l,roT cLit ⟨vs 28,r.gl.l⟩,blk b3 [vs 3,vs 7,vs 11,vs 15,vs 19,vs 23,.int .i64 r.ply,vs 28] 32,blk b2 [.slice none 0 0,.slice none 0 0,.slice none 0 0,.slice none 0 0,.slice none 0 0,.slice none 0 0,.int .i64 0,.slice none 0 0] 32,blk b1 [r.pls.v,r.ths.v,r.prs.v,r.wys.v,r.acs.v,r.aus.v,.int .i64 r.ply,r.gl.v] 32]) (fun s=>0≤s.1∧s.1≤r.acs.l.length∧s.2.map Actn.e=r.acs.l.map Actn.e∧∀ j:Int,s.1≤j→j < r.acs.l.length→nth s.2 j=nth r.acs.l j) (fun s=>(r.acs.l.length - s.1).toNat) (0,r.acs.l) (fun _ _=>rfl) rfl rfl ⟨by simp,by simp,rfl,fun _ _ _=>rfl⟩ ?_
 intro p t hs
 obtain ⟨hp1,hp2,hp3,hp4⟩:=hs
 have hlnp:=Je5 hp3
 refine Cs (Nz 2 ?_)
 refine Wk 0 (Ba 8) ?_
 refine Wk 1 (Jes (j:=1) sl27 rfl rfl) ?_
 refine Wd (Qc (CS.cond rfl ?_ ?_))<;>intro hc3<;>try simp only [bq] at hc3
 ·
  have hnp:=hn.ac _ (Jak (i:=p.1) (xs:=r.acs.l) hp1 (by omega))
  have hel:=hp4 p.1 (by omega) (by omega)
  have hak:ActOk w (nth p.2 p.1):=by rw [hel]; exact hr.acs.at hp1 (by omega)
  rw [← hel] at hnp
  obtain ⟨m1,m2,m3,m4,m5,m6⟩:=hnp
  refine Ck (Qc (Cs (Ce (Nz 1 ?_))))
  refine Wk 1 (Ba 8) ?_
  refine Wk 0 (Jc7 (j:=1) sl27 rfl rfl rfl rfl (by omega) (by omega)) ?_
  refine Wk 0 (Ju4 (j:=1) rfl rfl rfl ⟨by omega,by omega⟩ rfl tk73) ?_
  refine Wl 0 zv73 (fun _=>rfl) (fun _=>rfl) fun b7 hb7=>?_
  refine Wv 0 0 ?_
  refine Wd (Qc (Nz 1 ?_))
  refine Wk 0 (Ba 0) ?_
  refine Wc rfl rfl Jy6 (fun u hu=>Jf8 (nth p.2 p.1).us u (hak.us.st hu) (by omega)) (fun _=>rfl) ?_; rintro v91 ⟨uv91,hv91⟩
  have hwv91:=Sl.one hv91
  refine Wz 1 ?_
  refine Ws 0 1 ?_
  refine Wd (Qc (Nz 1 ?_))
  refine Wk 0 (Ba 1) ?_
  refine Wc rfl rfl Jy6 (fun u hu=>Jf8 (nth p.2 p.1).sp u (hak.sp.st hu) (by omega)) (fun _=>rfl) ?_; rintro v95 ⟨uv95,hv95⟩
  have hwv95:=Sl.one hv95
  refine Wz 1 ?_
  refine Ws 0 2 ?_
  refine Wd (Qc (Nz 1 ?_))
  refine Wk 0 (Ba 2) ?_
  refine Wc rfl rfl Jy6 (fun u hu=>Jf8 (nth p.2 p.1).br u (hak.br.st hu) (by omega)) (fun _=>rfl) ?_; rintro v99 ⟨uv99,hv99⟩
  have hwv99:=Sl.one hv99
  refine Wz 1 ?_
  refine Ws 0 3 ?_
  refine Wd (Qc (Nz 1 ?_))
  refine Wk 0 (Ba 3) ?_
  refine Wc rfl rfl Js0 (fun u hu=>Jd8 (nth p.2 p.1).wh u (hak.wh.st hu) (by omega)) (fun _=>rfl) ?_; rintro v103 ⟨u103,hv103⟩
  have hw103:=Sl.one hv103
  refine Wz 1 ?_
  refine Ws 0 4 ?_
  refine Wd (Qc (Nz 0 ?_))
  refine WS.build0 sl71 zv75 (fun _=>rfl) ?_; intro v105
  refine Wz 1 ?_
  refine Wk 0 (Ba 5) ?_
  refine WS.append0 (j:=0) (news:=Jax cPut (nth p.2 p.1).se.l) (m:=(nth p.2 p.1).se.l.length) sl71 zv75 rfl (by decide) rfl rfl rfl (fun u hu=>(hak.se.st hu).sp) hak.se.one (by omega) (by omega) (fun _=>rfl) (fun _=>rfl) ?_; intro v108; refine WS.oc (j:=0) rfl (fun hv108=>?_)
  refine Wz 1 ?_
  refine Ws 0 5 ?_
  refine Wd (Qc (Ny 1 ?_))
  refine Wk 1 (Ba 14) ?_
  refine Wk 0 (Bb 5) ?_
  refine Wk 0 (Jc7 (j:=7) sl27 rfl rfl rfl rfl (by omega) (by omega)) ?_
  refine WS.storeTw (C:=cAct) { nth p.2 p.1 with us:=⟨v91,(nth p.2 p.1).us.l⟩,wh:=⟨v103,(nth p.2 p.1).wh.l⟩,se:=⟨v108,(nth p.2 p.1).se.l⟩,sp:=⟨v95,(nth p.2 p.1).sp.l⟩,br:=⟨v99,(nth p.2 p.1).br.l⟩ } (j:=7) rfl rfl rfl ⟨by omega,by omega⟩ rfl (by (repeat (refine List.forall_mem_cons.2 ⟨by first | rfl | assumption,?_⟩)); exact fun _ h=>absurd h List.not_mem_nil) (by decide) tk73 rfl ?_
  refine Wd (Qb (Qc (Ny 1 ?_)))
  refine Wk 1 Za ?_
  refine Wd ?_
  refine QS.sel [4,1,0,1,0,1,1,1,1,1,1,1,1,1,1,1] rfl ?_
  refine QS.weak (L':=(roS fun u=>∀ j:Int,0≤j→j < p.1+1→ActOk u (nth (p.2.set p.1.toNat { nth p.2 p.1 with us:=⟨v91,(nth p.2 p.1).us.l⟩,wh:=⟨v103,(nth p.2 p.1).wh.l⟩,se:=⟨v108,(nth p.2 p.1).se.l⟩,sp:=⟨v95,(nth p.2 p.1).sp.l⟩,br:=⟨v99,(nth p.2 p.1).br.l⟩ }) j))::_) (fun u hu=>Jzs (a:={ nth p.2 p.1 with us:=⟨v91,(nth p.2 p.1).us.l⟩,wh:=⟨v103,(nth p.2 p.1).wh.l⟩,se:=⟨v108,(nth p.2 p.1).se.l⟩,sp:=⟨v95,(nth p.2 p.1).sp.l⟩,br:=⟨v99,(nth p.2 p.1).br.l⟩ }) hu (fun u hp hq=>Jh0 (q:=fun u x=>ActOk u x) hp1 (by omega) hp hq)) ?_
  exact QS.head ((p.1+1,p.2.set p.1.toNat { nth p.2 p.1 with us:=⟨v91,(nth p.2 p.1).us.l⟩,wh:=⟨v103,(nth p.2 p.1).wh.l⟩,se:=⟨v108,(nth p.2 p.1).se.l⟩,sp:=⟨v95,(nth p.2 p.1).sp.l⟩,br:=⟨v99,(nth p.2 p.1).br.l⟩ })) rfl rfl ⟨⟨by simp; omega,by simp; omega,by simp only; rw [Jdy Actn.e hp1 (by omega) (by rfl)]; exact hp3,fun j a0 a1=>by
      simp only at a0
      rw [Jcu hp1 (by omega) (by omega)]; exact hp4 j (by omega) a1⟩,by simp; omega⟩
 refine Cv (Qe (Qe (Qx (Qc (Cs (Nz 1 ?_))))))
 refine Wd (Qc (Ce ?_))
 refine CS.weak (L':=roT cAct ⟨vs 19,p.2⟩::_) (fun u hu=>St.ro2 (A:=roS fun u=>∀ j:Int,0≤j→j < p.1→ActOk u (nth p.2 j)) (B:=oT cAct 73 (vs 19) p.2) (fun S u h=>roS.now h) (fun S u h=>Jbt h.2) (fun u hp hq=>(⟨hq,Jkr (l:=p.2) (q:=fun u x=>cAct.ok u x) (i:=p.1) (by omega) hp⟩:SlT cAct u ⟨vs 19,p.2⟩)) hu) ?_
 refine CS.weak (L':=(roS fun u=>∀ j:Int,0≤j→j < (0:Int)→SlT cLit u (nth r.aus.l j).wh)::_) (fun u hu=>St.roTrue hu (p:=fun u=>∀ j:Int,0≤j→j < (0:Int)→SlT cLit u (nth r.aus.l j).wh) fun u j a b=>by omega) ?_
 refine CS.sel [0,3,1,1,0,0,0,0,0,0,0] rfl ?_
 refine CS.loopM (σ:=Int × List Auto) [115,116,117,118,119,120,121,122,123,124,125,126,127,128,129,130,131,132,133] (fun s=>[(8,.int .i64 s.1)]) (fun s=>[roS fun u=>∀ j:Int,0≤j→j < s.1→SlT cLit u (nth s.2 j).wh,oT cAuto 77 (vs 23) s.2,roT cPro ⟨vs 11,a.2⟩,roT cWay ⟨vs 15,d.2⟩,roT cAct ⟨vs 19,p.2⟩,oT cStr 9 (vs 3) r.pls.l,oT cThing 65 (vs 7) r.ths.l,roT cLit ⟨vs 28,r.gl.l⟩,blk b3 [vs 3,vs 7,vs 11,vs 15,vs 19,vs 23,.int .i64 r.ply,vs 28] 32,blk b2 [.slice none 0 0,.slice none 0 0,.slice none 0 0,.slice none 0 0,.slice none 0 0,.slice none 0 0,.int .i64 0,.slice none 0 0] 32,blk b1 [r.pls.v,r.ths.v,r.prs.v,r.wys.v,r.acs.v,r.aus.v,.int .i64 r.ply,r.gl.v] 32]) (fun s=>0≤s.1∧s.1≤r.aus.l.length∧s.2.map Auto.e=r.aus.l.map Auto.e∧∀ j:Int,s.1≤j→j < r.aus.l.length→nth s.2 j=nth r.aus.l j) (fun s=>(r.aus.l.length - s.1).toNat) (0,r.aus.l) (fun _ _=>rfl) rfl rfl ⟨by simp,by simp,rfl,fun _ _ _=>rfl⟩ ?_
 intro q t hs
 obtain ⟨hq1,hq2,hq3,hq4⟩:=hs
 have hlnq:=Je5 hq3
 refine Cs (Nz 2 ?_)
 refine Wk 0 (Ba 8) ?_
 refine Wk 1 (Jes (j:=1) sl28 rfl rfl) ?_
 refine Wd (Qc (CS.cond rfl ?_ ?_))<;>intro hc4<;>try simp only [bq] at hc4
 ·
  have hnp:=hn.au _ (Jak (i:=q.1) (xs:=r.aus.l) hq1 (by omega))
  have hel:=hq4 q.1 (by omega) (by omega)
  have hwh:SlT cLit w (nth q.2 q.1).wh:=by rw [hel]; exact hr.aus.at hq1 (by omega)
  rw [← hel] at hnp
  refine Ck (Qc (Cs (Ce ?_)))
  refine CS.drawnTill 12 (k:=13) mixed rfl rfl ?_
  refine Tr 13 [0] ?_
  refine Tk 13 1 [2,3] rfl (Ba 8) ?_
  refine Tk 13 4 [5] rfl (Ba 8) ?_
  refine Tk 13 6 [7] rfl (Jc7 (j:=1) sl28 rfl rfl rfl rfl (by omega) (by omega)) ?_
  refine Tk 13 8 [] rfl (Ji3 3 0 (j:=1) rfl rfl rfl ⟨by omega,by omega⟩ (by decide) rfl tk30) ?_
  refine To 9 rfl ?_
  refine Wc rfl rfl Js0 (fun u hu=>Jd8 (nth q.2 q.1).wh u (hwh.st hu) (by omega)) (fun _=>rfl) ?_; rintro v131 ⟨u131,hv131⟩
  refine Wd (Qt ?_)
  refine Tk 13 10 [11] rfl (Jc7 (j:=1) sl28 rfl rfl rfl rfl (by omega) (by omega)) ?_
  refine To 12 rfl ?_
  refine WS.storeTc (C:=cAuto) 3 0 { nth q.2 q.1 with wh:=⟨v131,(nth q.2 q.1).wh.l⟩ } (j:=2) rfl rfl rfl ⟨by omega,by omega⟩ (by decide) rfl (Sl.one hv131) tk30 rfl rfl ?_
  refine Wd (Qt ?_)
  refine Te ?_
  refine Qb (Qc (Ny 1 ?_))
  refine Wk 1 Za ?_
  refine Wd ?_
  refine QS.weak (L':=(roS fun u=>∀ j:Int,0≤j→j < q.1+1→SlT cLit u (nth (q.2.set q.1.toNat { nth q.2 q.1 with wh:=⟨v131,(nth q.2 q.1).wh.l⟩ }) j).wh)::_) (fun u hu=>St.ro2 (fun S u h=>roS.now h) (fun S u h=>roS.now h) (fun u hp hq=>Jh0 (q:=fun u (x:Auto)=>SlT cLit u x.wh) hq1 (by omega) hp hq) hu) ?_
  exact QS.head ((q.1+1,q.2.set q.1.toNat { nth q.2 q.1 with wh:=⟨v131,(nth q.2 q.1).wh.l⟩ })) rfl rfl ⟨⟨by simp; omega,by simp; omega,by simp only; rw [Jdy Auto.e hq1 (by omega) (by rfl)]; exact hq3,fun j a0 a1=>by
      simp only at a0
      rw [Jcu hq1 (by omega) (by omega)]; exact hq4 j (by omega) a1⟩,by simp; omega⟩
 refine Cv (Qe (Qe (Qx (Qc (Nz 0 ?_)))))
 refine Wk 0 (Bb 8) ?_
 refine Wv 0 9 ?_
 exact Wd (Qc (Cr (outR (resc rfl (Jbl (j:=9) rfl rfl tk32)) (fun u hu=>(fun h2:RetF w _ (roS fun u=>RoomOk u ⟨⟨vs 3,r.pls.l⟩,⟨vs 7,r.ths.l⟩,⟨vs 11,a.2⟩,⟨vs 15,d.2⟩,⟨vs 19,p.2⟩,⟨vs 23,q.2⟩,r.ply,⟨vs 28,r.gl.l⟩⟩) _ u=>(⟨⟨⟨vs 3,r.pls.l⟩,⟨vs 7,r.ths.l⟩,⟨vs 11,a.2⟩,⟨vs 15,d.2⟩,⟨vs 19,p.2⟩,⟨vs 23,q.2⟩,r.ply,⟨vs 28,r.gl.l⟩⟩,⟨by simp only [Room.e,Sl.e,ha3,hd3,hp3,hq3],u,h2.now⟩,h2⟩:Jxf w r _ u)) (retR (fun S u h=>⟨⟨Star.osl (j:=5) rfl h,fun _ _=>trivial⟩,⟨Star.osl (j:=6) rfl h,fun _ _=>trivial⟩,Star.ro (j:=2) rfl h,Star.ro (j:=3) rfl h,Star.ro (j:=4) rfl h,⟨Star.osl (j:=1) rfl h,Jkr (l:=q.2) (q:=fun u x=>cAuto.ok u x) (i:=q.1) (by omega) (Star.ro (j:=0) rfl h)⟩,Star.ro (j:=7) rfl h⟩) u hu)))))
def GOk (w:World) (g:Sl ByteArray):Prop:=g.l=wordL∧∀ u,Below w.heap.size w u→u.cell? ⟨1,0,none⟩=some g.v∧SlT cStr u g
theorem GOk.ext {w u:World} {g:Sl ByteArray} (h:GOk w g) (hb:Below w.heap.size w u):GOk u g:=⟨h.1,fun v hv=>h.2 v (Jbd hb hv)⟩
theorem GOk.st {w u:World} {L:List SA} {g:Sl ByteArray} (h:GOk w g) (hu:St w.heap.size w L u):GOk u g:=h.ext hu.below
theorem GOk.sl {w:World} {g:Sl ByteArray} (h:GOk w g):SlT cStr w g:=(h.2 w (Below.refl _ _)).2
theorem GOk.cell {w u:World} {L:List SA} {g:Sl ByteArray} (h:GOk w g) (hu:St w.heap.size w L u):u.cell? ⟨1,0,none⟩=some g.v:=(h.2 u hu.below).1
theorem Jpd (s0:Sl ByteArray) (tx:ByteArray) (w:World) (hk:SlT cStr w s0) :
  Calls Tryz.prog 64 #[s0.v,.string tx] w (RetB w (.int .i64 (idxF (fun x=>seq tx x) s0.l))):=by
 have hl1:=hk.le
 refine enter Tryz.func64 rfl rfl (Nat.le_of_ble_eq_true rfl) ?_
 refine Nz 1 ?_
 refine Wd (Qc (Cs (Nz 1 ?_)))
 refine Wk 1 Nc ?_
 refine Wd (Qc (Ce ?_))
 refine CS.loopM (σ:=Int) [4,5,9,10,11,12,13,14,15,16,17,18] (fun s=>[(8,.int .i64 s)]) (fun _=>_) (fun s=>0≤s∧s≤s0.l.length∧∀ j:Int,0≤j→j < s→seq tx (nth s0.l j)=false) (fun s=>(s0.l.length - s).toNat) 0 (fun _ _=>rfl) rfl rfl ⟨by omega,by omega,fun j h1 h2=>by omega⟩ ?_
 intro s t hs
 obtain ⟨hs1,hs2,hs3⟩:=hs
 refine Nz 1 ?_
 refine Wd (Qc (Cs (CS.cond rfl ?_ ?_)))<;>intro hc1<;>try simp only [bq] at hc1
 ·
  refine Ck (Qc (Cs (Ce (Nz 2 ?_))))
  refine Wd (Qc (Nz 3 ?_))
  refine Wk 0 Xc ?_
  refine Wk 0 Ub ?_
  refine Wk 0 (Ja2 rfl rfl) ?_
  refine Wd (Qc (CS.cond rfl ?_ ?_))<;>intro hc2<;>try simp only [bq] at hc2
  ·
   refine Nz 2 ?_
   exact Wd (Qc (Cr (Qs (Qr (Qr (Qs (Qr (out1 rfl rfl (Jah (by rw [Jbp (p:=fun x=>seq tx x) hs1 (by omega) hs3 hc2]))))))))))
  refine Ck (Qb (Qc (Ny 0 ?_)))
  refine Wk 1 Za ?_
  exact Wd (QS.head (s+1) rfl rfl ⟨⟨by omega,by omega,fun j h1 h2=>if hj:j=s then by rw [hj]; exact hc2 else hs3 j h1 (by omega)⟩,by omega⟩)
 refine Cv (Qe (Qe (Qx (Qc (Nz 1 ?_)))))
 exact Wd (Qc (Cr (out1 rfl rfl (Jah (by rw [Jch (p:=fun x=>seq tx x) fun j h1 h2=>hs3 j h1 (by omega)])))))
theorem Jf3 (s0:Sl ByteArray) (tx:ByteArray) (w:World) (hk:SlT cStr w s0) :
  Calls Tryz.prog 126 #[s0.v,.string tx] w (RetB w (.bool (s0.l.any fun x=>seq tx x))):=by
 refine enter Tryz.func126 rfl rfl (Nat.le_of_ble_eq_true rfl) ?_
 refine Nz 1 ?_
 refine Wd (Qc (Nz 2 ?_))
 refine Wk 2 (Cb rfl rfl J19 (fun u hu=>Jpd s0 _ u (hk.st hu))) ?_
 exact Wd (Qc (Cr (out1 rfl rfl (Jah (by rw [Jdj])))))
theorem Jj4 (tx:ByteArray) (w:World) (g:Sl ByteArray) (hG:GOk w g) (hm:(tx.size:Int)≤9223372036854775806) :
  Calls Tryz.prog 122 #[.string tx] w (RetB w (.bool (Ja7 tx))):=by
 refine enter Tryz.func122 rfl rfl (Nat.le_of_ble_eq_true rfl) ?_
 refine Nz 1 ?_
 refine Wd (Qc (Cs (Nz 1 ?_)))
 refine Wk 1 (Jbb Tryz.underlying9 rfl) ?_
 refine Wd (Qc (Ce ?_))
 refine CS.loopM (σ:=Int) [2,3,7,8,9,10,11,12,13,14,15,16,17,18,19] (fun s=>[(6,.int .i64 s)]) (fun _=>_) (fun s=>0≤s∧s≤tx.size∧∀ j:Int,0≤j→j < s→97≤byt tx j∧byt tx j≤122) (fun s=>(tx.size - s).toNat) 0 (fun _ _=>rfl) rfl rfl ⟨by omega,by omega,fun j _ _=>by omega⟩ ?_
 intro s t hs
 obtain ⟨hs1,hs2,hs3⟩:=hs
 refine Nz 1 ?_
 refine Wd (Qc (Cs (CS.cond rfl ?_ ?_)))<;>intro hc1<;>try simp only [bq] at hc1
 ·
  refine Ck (Qc (Cs (Ce (Nz 2 ?_))))
  refine Wd (Qc (Nz 2 ?_))
  refine Wk 2 (Jcl Tryz.underlying9 rfl rfl (by omega) (by omega)) ?_
  refine Wf 0 rfl rfl (fun hg=>Fm) ?_
  refine Wf 0 rfl rfl (fun hg=>Fm) ?_
  refine Wf 0 rfl rfl (fun hg=>Jcl Tryz.underlying9 (eg_ hg rfl) (eg_ hg rfl) (by (try simp only [bq] at hg); omega) (by (try simp only [bq] at hg); omega)) ?_
  refine Wf 0 rfl rfl (fun hg=>Fg) ?_
  refine Wk 0 Po ?_
  refine Wd (Qc (CS.cond rfl ?_ ?_))<;>intro hc2<;>try simp only [bq] at hc2
  ·
   refine Nz 1 ?_
   exact Wd (Qc (Cr (Qs (Qr (Qr (Qs (Qr (out1 rfl rfl (Jah (by unfold Ja7; rw [Js7 hs1 (by omega) (by omega)]; rfl))))))))))
  refine Ck (Qb (Qc (Ny 0 ?_)))
  refine Wk 1 Za ?_
  refine Wd ?_
  exact QS.head (s+1) rfl rfl ⟨⟨by omega,by omega,fun j h0 h1=>by
     rcases (show j < s∨j=s by omega) with h | h
     ·
      exact hs3 j h0 h
     rw [h]; omega⟩,by omega⟩
 refine Cv (Qe (Qe (Qx (Qc (Nz 1 ?_)))))
 refine Wk 1 (Jcm rfl rfl) ?_
 refine Wt 0 rfl rfl (fun hg=>Jdx tk23 rfl fun u hu=>hG.cell hu) ?_
 refine Wt 0 rfl rfl (fun hg=>Fm) ?_
 refine Wt 0 rfl rfl (fun hg=>Cb rfl (ec_ (eg_ hg rfl) (ec_ (eg_ hg rfl) en_)) Jt2 (fun u hu=>Jf3 g _ u (hG.sl.st hu))) ?_
 refine Wt 0 rfl rfl (fun hg=>Fn) ?_
 refine Wk 1 Pa ?_
 refine Wd (Qc (Cr ?_))
 exact out1 rfl rfl (Jah (by
    have h1:lowB tx=true:=Jn8 fun j h0 h1=>hs3 j h0 (by omega)
    have h2:(g.l.any fun x=>seq tx x)=(wordL.any fun x=>seq x tx):=by rw [hG.1]; congr 1; funext x; exact Jkv _ _
    unfold Ja7; rw [h1,h2,Bool.true_and,Bool.and_comm]))
theorem Jp9 (s0:Sl ByteArray) (w:World) (hk:SlT cStr w s0) (g:Nat) (lb:List Value) (p:ByteArray→Bool) (hg:Ent Tryz.prog g)
  (hp:∀ u,Below w.heap.size w u→∀ i:Int,0≤i→i < s0.l.length→Calls Tryz.prog g ([.string (nth s0.l i)]++lb:List Value).toArray u (RetB u (.bool (p (nth s0.l i))))) :
  Calls Tryz.prog 176 #[s0.v,.func (.func g) #[] lb.toArray] w (RetB w (.int .i64 (idxF p s0.l))):=by
 have hl1:=hk.le
 refine enter Tryz.func176 rfl rfl (Nat.le_of_ble_eq_true rfl) ?_
 refine Nz 1 ?_
 refine Wd (Qc (Cs (Nz 1 ?_)))
 refine Wk 1 Nc ?_
 refine Wd (Qc (Ce ?_))
 refine CS.loopM (σ:=Int) [4,5,9,10,11,12,13,14,15,16,17,18] (fun s=>[(8,.int .i64 s)]) (fun _=>_) (fun s=>0≤s∧s≤s0.l.length∧∀ j:Int,0≤j→j < s→p (nth s0.l j)=false) (fun s=>(s0.l.length - s).toNat) 0 (fun _ _=>rfl) rfl rfl ⟨by omega,by omega,fun j h1 h2=>by omega⟩ ?_
 intro s t hs
 obtain ⟨hs1,hs2,hs3⟩:=hs
 refine Nz 1 ?_
 refine Wd (Qc (Cs (CS.cond rfl ?_ ?_)))<;>intro hc1<;>try simp only [bq] at hc1
 ·
  refine Ck (Qc (Cs (Ce (Nz 2 ?_))))
  refine Wd (Qc (Nz 3 ?_))
  refine Wk 0 Xc ?_
  refine Wk 0 Ub ?_
  refine Wk 0 (Cb rfl rfl hg (fun u hu=>hp u hu.below s (by omega) (by omega))) ?_
  refine Wd (Qc (CS.cond rfl ?_ ?_))<;>intro hc2<;>try simp only [bq] at hc2
  ·
   refine Nz 2 ?_
   exact Wd (Qc (Cr (Qs (Qr (Qr (Qs (Qr (out1 rfl rfl (Jah (by rw [Jbp hs1 (by omega) hs3 hc2]))))))))))
  refine Ck (Qb (Qc (Ny 0 ?_)))
  refine Wk 1 Za ?_
  exact Wd (QS.head (s+1) rfl rfl ⟨⟨by omega,by omega,fun j h1 h2=>if hj:j=s then by rw [hj]; exact hc2 else hs3 j h1 (by omega)⟩,by omega⟩)
 refine Cv (Qe (Qe (Qx (Qc (Nz 1 ?_)))))
 exact Wd (Qc (Cr (out1 rfl rfl (Jah (by rw [Jch fun j h1 h2=>hs3 j h1 (by omega)])))))
theorem Juy (s0:Sl Thing) (w:World) (hk:SlT cThing w s0) (g:Nat) (lb:List Value) (p:Thing→Bool) (hg:Ent Tryz.prog g)
  (hp:∀ u,Below w.heap.size w u→∀ i:Int,0≤i→i < s0.l.length→Calls Tryz.prog g ([.agg #[.string (nth s0.l i).nm,.int .i64 (nth s0.l i).pl,.int .i64 (nth s0.l i).st,.int .i64 (nth s0.l i).sr]]++lb:List Value).toArray u (RetB u (.bool (p (nth s0.l i))))) :
  Calls Tryz.prog 174 #[s0.v,.func (.func g) #[] lb.toArray] w (RetB w (.int .i64 (idxF p s0.l))):=by
 have hl1:=hk.le
 refine enter Tryz.func174 rfl rfl (Nat.le_of_ble_eq_true rfl) ?_
 refine Nz 1 ?_
 refine Wd (Qc (Cs (Nz 1 ?_)))
 refine Wk 1 Nc ?_
 refine Wd (Qc (Ce ?_))
 refine CS.loopM (σ:=Int) [4,5,9,10,11,12,13,14,15,16,17,18] (fun s=>[(8,.int .i64 s)]) (fun _=>_) (fun s=>0≤s∧s≤s0.l.length∧∀ j:Int,0≤j→j < s→p (nth s0.l j)=false) (fun s=>(s0.l.length - s).toNat) 0 (fun _ _=>rfl) rfl rfl ⟨by omega,by omega,fun j h1 h2=>by omega⟩ ?_
 intro s t hs
 obtain ⟨hs1,hs2,hs3⟩:=hs
 refine Nz 1 ?_
 refine Wd (Qc (Cs (CS.cond rfl ?_ ?_)))<;>intro hc1<;>try simp only [bq] at hc1
 ·
  refine Ck (Qc (Cs (Ce (Nz 2 ?_))))
  refine Wd (Qc (Nz 3 ?_))
  refine Wk 0 Xc ?_
  refine Wk 0 Ua ?_
  refine Wk 0 (Cb rfl rfl hg (fun u hu=>hp u hu.below s (by omega) (by omega))) ?_
  refine Wd (Qc (CS.cond rfl ?_ ?_))<;>intro hc2<;>try simp only [bq] at hc2
  ·
   refine Nz 2 ?_
   exact Wd (Qc (Cr (Qs (Qr (Qr (Qs (Qr (out1 rfl rfl (Jah (by rw [Jbp hs1 (by omega) hs3 hc2]))))))))))
  refine Ck (Qb (Qc (Ny 0 ?_)))
  refine Wk 1 Za ?_
  exact Wd (QS.head (s+1) rfl rfl ⟨⟨by omega,by omega,fun j h1 h2=>if hj:j=s then by rw [hj]; exact hc2 else hs3 j h1 (by omega)⟩,by omega⟩)
 refine Cv (Qe (Qe (Qx (Qc (Nz 1 ?_)))))
 exact Wd (Qc (Cr (out1 rfl rfl (Jah (by rw [Jch fun j h1 h2=>hs3 j h1 (by omega)])))))
theorem Jr6 (s0:Sl Pro) (w:World) (hk:SlT cPro w s0) (g:Nat) (lb:List Value) (p:Pro→Bool) (hg:Ent Tryz.prog g)
  (hp:∀ u,Below w.heap.size w u→∀ i:Int,0≤i→i < s0.l.length→Calls Tryz.prog g ([.agg #[.string (nth s0.l i).nm,.int .i64 (nth s0.l i).pl,(nth s0.l i).wh.v]]++lb:List Value).toArray u (RetB u (.bool (p (nth s0.l i))))) :
  Calls Tryz.prog 178 #[s0.v,.func (.func g) #[] lb.toArray] w (RetB w (.int .i64 (idxF p s0.l))):=by
 have hl1:=hk.le
 refine enter Tryz.func178 rfl rfl (Nat.le_of_ble_eq_true rfl) ?_
 refine Nz 1 ?_
 refine Wd (Qc (Cs (Nz 1 ?_)))
 refine Wk 1 Nc ?_
 refine Wd (Qc (Ce ?_))
 refine CS.loopM (σ:=Int) [4,5,9,10,11,12,13,14,15,16,17,18] (fun s=>[(8,.int .i64 s)]) (fun _=>_) (fun s=>0≤s∧s≤s0.l.length∧∀ j:Int,0≤j→j < s→p (nth s0.l j)=false) (fun s=>(s0.l.length - s).toNat) 0 (fun _ _=>rfl) rfl rfl ⟨by omega,by omega,fun j h1 h2=>by omega⟩ ?_
 intro s t hs
 obtain ⟨hs1,hs2,hs3⟩:=hs
 refine Nz 1 ?_
 refine Wd (Qc (Cs (CS.cond rfl ?_ ?_)))<;>intro hc1<;>try simp only [bq] at hc1
 ·
  refine Ck (Qc (Cs (Ce (Nz 2 ?_))))
  refine Wd (Qc (Nz 3 ?_))
  refine Wk 0 Xc ?_
  refine Wk 0 Ua ?_
  refine Wk 0 (Cb rfl rfl hg (fun u hu=>hp u hu.below s (by omega) (by omega))) ?_
  refine Wd (Qc (CS.cond rfl ?_ ?_))<;>intro hc2<;>try simp only [bq] at hc2
  ·
   refine Nz 2 ?_
   exact Wd (Qc (Cr (Qs (Qr (Qr (Qs (Qr (out1 rfl rfl (Jah (by rw [Jbp hs1 (by omega) hs3 hc2]))))))))))
  refine Ck (Qb (Qc (Ny 0 ?_)))
  refine Wk 1 Za ?_
  exact Wd (QS.head (s+1) rfl rfl ⟨⟨by omega,by omega,fun j h1 h2=>if hj:j=s then by rw [hj]; exact hc2 else hs3 j h1 (by omega)⟩,by omega⟩)
 refine Cv (Qe (Qe (Qx (Qc (Nz 1 ?_)))))
 exact Wd (Qc (Cr (out1 rfl rfl (Jah (by rw [Jch fun j h1 h2=>hs3 j h1 (by omega)])))))
theorem Jr4 (s0:Sl Actn) (w:World) (hk:SlT cAct w s0) (g:Nat) (lb:List Value) (p:Actn→Bool) (hg:Ent Tryz.prog g)
  (hp:∀ u,Below w.heap.size w u→∀ i:Int,0≤i→i < s0.l.length→Calls Tryz.prog g ([.agg #[.string (nth s0.l i).nm,.int .i64 (nth s0.l i).pl,.int .i64 (nth s0.l i).lk,(nth s0.l i).us.v,(nth s0.l i).wh.v,(nth s0.l i).se.v,(nth s0.l i).sp.v,(nth s0.l i).br.v]]++lb:List Value).toArray u (RetB u (.bool (p (nth s0.l i))))) :
  Calls Tryz.prog 205 #[s0.v,.func (.func g) #[] lb.toArray] w (RetB w (.int .i64 (idxF p s0.l))):=by
 have hl1:=hk.le
 refine enter Tryz.func205 rfl rfl (Nat.le_of_ble_eq_true rfl) ?_
 refine Nz 1 ?_
 refine Wd (Qc (Cs (Nz 1 ?_)))
 refine Wk 1 Nc ?_
 refine Wd (Qc (Ce ?_))
 refine CS.loopM (σ:=Int) [4,5,9,10,11,12,13,14,15,16,17,18] (fun s=>[(8,.int .i64 s)]) (fun _=>_) (fun s=>0≤s∧s≤s0.l.length∧∀ j:Int,0≤j→j < s→p (nth s0.l j)=false) (fun s=>(s0.l.length - s).toNat) 0 (fun _ _=>rfl) rfl rfl ⟨by omega,by omega,fun j h1 h2=>by omega⟩ ?_
 intro s t hs
 obtain ⟨hs1,hs2,hs3⟩:=hs
 refine Nz 1 ?_
 refine Wd (Qc (Cs (CS.cond rfl ?_ ?_)))<;>intro hc1<;>try simp only [bq] at hc1
 ·
  refine Ck (Qc (Cs (Ce (Nz 2 ?_))))
  refine Wd (Qc (Nz 3 ?_))
  refine Wk 0 Xc ?_
  refine Wk 0 Ua ?_
  refine Wk 0 (Cb rfl rfl hg (fun u hu=>hp u hu.below s (by omega) (by omega))) ?_
  refine Wd (Qc (CS.cond rfl ?_ ?_))<;>intro hc2<;>try simp only [bq] at hc2
  ·
   refine Nz 2 ?_
   exact Wd (Qc (Cr (Qs (Qr (Qr (Qs (Qr (out1 rfl rfl (Jah (by rw [Jbp hs1 (by omega) hs3 hc2]))))))))))
  refine Ck (Qb (Qc (Ny 0 ?_)))
  refine Wk 1 Za ?_
  exact Wd (QS.head (s+1) rfl rfl ⟨⟨by omega,by omega,fun j h1 h2=>if hj:j=s then by rw [hj]; exact hc2 else hs3 j h1 (by omega)⟩,by omega⟩)
 refine Cv (Qe (Qe (Qx (Qc (Nz 1 ?_)))))
 exact Wd (Qc (Cr (out1 rfl rfl (Jah (by rw [Jch fun j h1 h2=>hs3 j h1 (by omega)])))))
theorem Juq (s0:Sl Auto) (w:World) (hk:SlT cAuto w s0) (g:Nat) (lb:List Value) (p:Auto→Bool) (hg:Ent Tryz.prog g)
  (hp:∀ u,Below w.heap.size w u→∀ i:Int,0≤i→i < s0.l.length→Calls Tryz.prog g ([.agg #[(nth s0.l i).wh.v,.int .i64 (nth s0.l i).t,.int .i64 (nth s0.l i).s]]++lb:List Value).toArray u (RetB u (.bool (p (nth s0.l i))))) :
  Calls Tryz.prog 151 #[s0.v,.func (.func g) #[] lb.toArray] w (RetB w (.int .i64 (idxF p s0.l))):=by
 have hl1:=hk.le
 refine enter Tryz.func151 rfl rfl (Nat.le_of_ble_eq_true rfl) ?_
 refine Nz 1 ?_
 refine Wd (Qc (Cs (Nz 1 ?_)))
 refine Wk 1 Nc ?_
 refine Wd (Qc (Ce ?_))
 refine CS.loopM (σ:=Int) [4,5,9,10,11,12,13,14,15,16,17,18] (fun s=>[(8,.int .i64 s)]) (fun _=>_) (fun s=>0≤s∧s≤s0.l.length∧∀ j:Int,0≤j→j < s→p (nth s0.l j)=false) (fun s=>(s0.l.length - s).toNat) 0 (fun _ _=>rfl) rfl rfl ⟨by omega,by omega,fun j h1 h2=>by omega⟩ ?_
 intro s t hs
 obtain ⟨hs1,hs2,hs3⟩:=hs
 refine Nz 1 ?_
 refine Wd (Qc (Cs (CS.cond rfl ?_ ?_)))<;>intro hc1<;>try simp only [bq] at hc1
 ·
  refine Ck (Qc (Cs (Ce (Nz 2 ?_))))
  refine Wd (Qc (Nz 3 ?_))
  refine Wk 0 Xc ?_
  refine Wk 0 Ua ?_
  refine Wk 0 (Cb rfl rfl hg (fun u hu=>hp u hu.below s (by omega) (by omega))) ?_
  refine Wd (Qc (CS.cond rfl ?_ ?_))<;>intro hc2<;>try simp only [bq] at hc2
  ·
   refine Nz 2 ?_
   exact Wd (Qc (Cr (Qs (Qr (Qr (Qs (Qr (out1 rfl rfl (Jah (by rw [Jbp hs1 (by omega) hs3 hc2]))))))))))
  refine Ck (Qb (Qc (Ny 0 ?_)))
  refine Wk 1 Za ?_
  exact Wd (QS.head (s+1) rfl rfl ⟨⟨by omega,by omega,fun j h1 h2=>if hj:j=s then by rw [hj]; exact hc2 else hs3 j h1 (by omega)⟩,by omega⟩)
 refine Cv (Qe (Qe (Qx (Qc (Nz 1 ?_)))))
 exact Wd (Qc (Cr (out1 rfl rfl (Jah (by rw [Jch fun j h1 h2=>hs3 j h1 (by omega)])))))
theorem Jrq (s0:Sl Lit) (w:World) (hk:SlT cLit w s0) (g:Nat) (lb:List Value) (p:Lit→Bool) (hg:Ent Tryz.prog g)
  (hp:∀ u,Below w.heap.size w u→∀ i:Int,0≤i→i < s0.l.length→Calls Tryz.prog g ([.agg #[.int .i64 (nth s0.l i).t,.int .i64 (nth s0.l i).s,.bool (nth s0.l i).nt]]++lb:List Value).toArray u (RetB u (.bool (p (nth s0.l i))))) :
  Calls Tryz.prog 180 #[s0.v,.func (.func g) #[] lb.toArray] w (RetB w (.int .i64 (idxF p s0.l))):=by
 have hl1:=hk.le
 refine enter Tryz.func180 rfl rfl (Nat.le_of_ble_eq_true rfl) ?_
 refine Nz 1 ?_
 refine Wd (Qc (Cs (Nz 1 ?_)))
 refine Wk 1 Nc ?_
 refine Wd (Qc (Ce ?_))
 refine CS.loopM (σ:=Int) [4,5,9,10,11,12,13,14,15,16,17,18] (fun s=>[(8,.int .i64 s)]) (fun _=>_) (fun s=>0≤s∧s≤s0.l.length∧∀ j:Int,0≤j→j < s→p (nth s0.l j)=false) (fun s=>(s0.l.length - s).toNat) 0 (fun _ _=>rfl) rfl rfl ⟨by omega,by omega,fun j h1 h2=>by omega⟩ ?_
 intro s t hs
 obtain ⟨hs1,hs2,hs3⟩:=hs
 refine Nz 1 ?_
 refine Wd (Qc (Cs (CS.cond rfl ?_ ?_)))<;>intro hc1<;>try simp only [bq] at hc1
 ·
  refine Ck (Qc (Cs (Ce (Nz 2 ?_))))
  refine Wd (Qc (Nz 3 ?_))
  refine Wk 0 Xc ?_
  refine Wk 0 Ua ?_
  refine Wk 0 (Cb rfl rfl hg (fun u hu=>hp u hu.below s (by omega) (by omega))) ?_
  refine Wd (Qc (CS.cond rfl ?_ ?_))<;>intro hc2<;>try simp only [bq] at hc2
  ·
   refine Nz 2 ?_
   exact Wd (Qc (Cr (Qs (Qr (Qr (Qs (Qr (out1 rfl rfl (Jah (by rw [Jbp hs1 (by omega) hs3 hc2]))))))))))
  refine Ck (Qb (Qc (Ny 0 ?_)))
  refine Wk 1 Za ?_
  exact Wd (QS.head (s+1) rfl rfl ⟨⟨by omega,by omega,fun j h1 h2=>if hj:j=s then by rw [hj]; exact hc2 else hs3 j h1 (by omega)⟩,by omega⟩)
 refine Cv (Qe (Qe (Qx (Qc (Nz 1 ?_)))))
 exact Wd (Qc (Cr (out1 rfl rfl (Jah (by rw [Jch fun j h1 h2=>hs3 j h1 (by omega)])))))
theorem Jhu (s0:Sl Lit) (w:World) (hk:SlT cLit w s0) (g:Nat) (lb:List Value) (p:Lit→Bool) (hg:Ent Tryz.prog g)
  (hp:∀ u,Below w.heap.size w u→∀ i:Int,0≤i→i < s0.l.length→Calls Tryz.prog g ([.agg #[.int .i64 (nth s0.l i).t,.int .i64 (nth s0.l i).s,.bool (nth s0.l i).nt]]++lb:List Value).toArray u (RetB u (.bool (p (nth s0.l i))))) :
  Calls Tryz.prog 133 #[s0.v,.func (.func g) #[] lb.toArray] w (RetB w (.bool (s0.l.any p))):=by
 refine enter Tryz.func133 rfl rfl (Nat.le_of_ble_eq_true rfl) ?_
 refine Nz 1 ?_
 refine Wd (Qc (Nz 2 ?_))
 refine Wk 2 (Cb rfl rfl J2q (fun u hu=>Jrq s0 u (hk.st hu) g lb p hg (fun u2 h2=>hp u2 (Jbd hu.below h2)))) ?_
 exact Wd (Qc (Cr (out1 rfl rfl (Jah (by rw [Jdj])))))
theorem Jtn (s0:Sl Put) (w:World) (hk:SlT cPut w s0) (g:Nat) (lb:List Value) (p:Put→Bool) (hg:Ent Tryz.prog g)
  (hp:∀ u,Below w.heap.size w u→∀ i:Int,0≤i→i < s0.l.length→Calls Tryz.prog g ([.agg #[.int .i64 (nth s0.l i).t,.int .i64 (nth s0.l i).s]]++lb:List Value).toArray u (RetB u (.bool (p (nth s0.l i))))) :
  Calls Tryz.prog 183 #[s0.v,.func (.func g) #[] lb.toArray] w (RetB w (.int .i64 (idxF p s0.l))):=by
 have hl1:=hk.le
 refine enter Tryz.func183 rfl rfl (Nat.le_of_ble_eq_true rfl) ?_
 refine Nz 1 ?_
 refine Wd (Qc (Cs (Nz 1 ?_)))
 refine Wk 1 Nc ?_
 refine Wd (Qc (Ce ?_))
 refine CS.loopM (σ:=Int) [4,5,9,10,11,12,13,14,15,16,17,18] (fun s=>[(8,.int .i64 s)]) (fun _=>_) (fun s=>0≤s∧s≤s0.l.length∧∀ j:Int,0≤j→j < s→p (nth s0.l j)=false) (fun s=>(s0.l.length - s).toNat) 0 (fun _ _=>rfl) rfl rfl ⟨by omega,by omega,fun j h1 h2=>by omega⟩ ?_
 intro s t hs
 obtain ⟨hs1,hs2,hs3⟩:=hs
 refine Nz 1 ?_
 refine Wd (Qc (Cs (CS.cond rfl ?_ ?_)))<;>intro hc1<;>try simp only [bq] at hc1
 ·
  refine Ck (Qc (Cs (Ce (Nz 2 ?_))))
  refine Wd (Qc (Nz 3 ?_))
  refine Wk 0 Xc ?_
  refine Wk 0 Ua ?_
  refine Wk 0 (Cb rfl rfl hg (fun u hu=>hp u hu.below s (by omega) (by omega))) ?_
  refine Wd (Qc (CS.cond rfl ?_ ?_))<;>intro hc2<;>try simp only [bq] at hc2
  ·
   refine Nz 2 ?_
   exact Wd (Qc (Cr (Qs (Qr (Qr (Qs (Qr (out1 rfl rfl (Jah (by rw [Jbp hs1 (by omega) hs3 hc2]))))))))))
  refine Ck (Qb (Qc (Ny 0 ?_)))
  refine Wk 1 Za ?_
  exact Wd (QS.head (s+1) rfl rfl ⟨⟨by omega,by omega,fun j h1 h2=>if hj:j=s then by rw [hj]; exact hc2 else hs3 j h1 (by omega)⟩,by omega⟩)
 refine Cv (Qe (Qe (Qx (Qc (Nz 1 ?_)))))
 exact Wd (Qc (Cr (out1 rfl rfl (Jah (by rw [Jch fun j h1 h2=>hs3 j h1 (by omega)])))))
theorem Jmq (s0:Sl Put) (w:World) (hk:SlT cPut w s0) (g:Nat) (lb:List Value) (p:Put→Bool) (hg:Ent Tryz.prog g)
  (hp:∀ u,Below w.heap.size w u→∀ i:Int,0≤i→i < s0.l.length→Calls Tryz.prog g ([.agg #[.int .i64 (nth s0.l i).t,.int .i64 (nth s0.l i).s]]++lb:List Value).toArray u (RetB u (.bool (p (nth s0.l i))))) :
  Calls Tryz.prog 140 #[s0.v,.func (.func g) #[] lb.toArray] w (RetB w (.bool (s0.l.any p))):=by
 refine enter Tryz.func140 rfl rfl (Nat.le_of_ble_eq_true rfl) ?_
 refine Nz 1 ?_
 refine Wd (Qc (Nz 2 ?_))
 refine Wk 2 (Cb rfl rfl J1g (fun u hu=>Jtn s0 u (hk.st hu) g lb p hg (fun u2 h2=>hp u2 (Jbd hu.below h2)))) ?_
 exact Wd (Qc (Cr (out1 rfl rfl (Jah (by rw [Jdj])))))
theorem Jul (s0:Sl Int) (w:World) (hk:SlT cInt w s0) (g:Nat) (lb:List Value) (p:Int→Bool) (hg:Ent Tryz.prog g)
  (hp:∀ u,Below w.heap.size w u→∀ i:Int,0≤i→i < s0.l.length→Calls Tryz.prog g ([.int .i64 (nth s0.l i)]++lb:List Value).toArray u (RetB u (.bool (p (nth s0.l i))))) :
  Calls Tryz.prog 153 #[s0.v,.func (.func g) #[] lb.toArray] w (RetB w (.int .i64 (idxF p s0.l))):=by
 have hl1:=hk.le
 have hki:=hk.ints
 refine enter Tryz.func153 rfl rfl (Nat.le_of_ble_eq_true rfl) ?_
 refine Nz 1 ?_
 refine Wd (Qc (Cs (Nz 1 ?_)))
 refine Wk 1 Na ?_
 refine Wd (Qc (Ce ?_))
 refine CS.loopM (σ:=Int) [4,5,9,10,11,12,13,14,15,16,17,18] (fun s=>[(8,.int .i64 s)]) (fun _=>_) (fun s=>0≤s∧s≤s0.l.length∧∀ j:Int,0≤j→j < s→p (nth s0.l j)=false) (fun s=>(s0.l.length - s).toNat) 0 (fun _ _=>rfl) rfl rfl ⟨by omega,by omega,fun j h1 h2=>by omega⟩ ?_
 intro s t hs
 obtain ⟨hs1,hs2,hs3⟩:=hs
 refine Nz 1 ?_
 refine Wd (Qc (Cs (CS.cond rfl ?_ ?_)))<;>intro hc1<;>try simp only [bq] at hc1
 ·
  refine Ck (Qc (Cs (Ce (Nz 2 ?_))))
  refine Wd (Qc (Nz 3 ?_))
  refine Wk 0 Xa ?_
  refine Wk 0 Ia ?_
  refine Wk 0 (Cb rfl rfl hg (fun u hu=>hp u hu.below s (by omega) (by omega))) ?_
  refine Wd (Qc (CS.cond rfl ?_ ?_))<;>intro hc2<;>try simp only [bq] at hc2
  ·
   refine Nz 2 ?_
   exact Wd (Qc (Cr (Qs (Qr (Qr (Qs (Qr (out1 rfl rfl (Jah (by rw [Jbp hs1 (by omega) hs3 hc2]))))))))))
  refine Ck (Qb (Qc (Ny 0 ?_)))
  refine Wk 1 Za ?_
  exact Wd (QS.head (s+1) rfl rfl ⟨⟨by omega,by omega,fun j h1 h2=>if hj:j=s then by rw [hj]; exact hc2 else hs3 j h1 (by omega)⟩,by omega⟩)
 refine Cv (Qe (Qe (Qx (Qc (Nz 1 ?_)))))
 exact Wd (Qc (Cr (out1 rfl rfl (Jah (by rw [Jch fun j h1 h2=>hs3 j h1 (by omega)])))))
theorem Je7 (s0:Sl Int) (w:World) (hk:SlT cInt w s0) (g:Nat) (lb:List Value) (p:Int→Bool) (hg:Ent Tryz.prog g)
  (hp:∀ u,Below w.heap.size w u→∀ i:Int,0≤i→i < s0.l.length→Calls Tryz.prog g ([.int .i64 (nth s0.l i)]++lb:List Value).toArray u (RetB u (.bool (p (nth s0.l i))))) :
  Calls Tryz.prog 115 #[s0.v,.func (.func g) #[] lb.toArray] w (RetB w (.bool (s0.l.any p))):=by
 refine enter Tryz.func115 rfl rfl (Nat.le_of_ble_eq_true rfl) ?_
 refine Nz 1 ?_
 refine Wd (Qc (Nz 2 ?_))
 refine Wk 2 (Cb rfl rfl J00 (fun u hu=>Jul s0 u (hk.st hu) g lb p hg (fun u2 h2=>hp u2 (Jbd hu.below h2)))) ?_
 exact Wd (Qc (Cr (out1 rfl rfl (Jah (by rw [Jdj])))))
theorem Jcp {n0:Nat} {w0:World} {L:List SA} (b:Bool):∀ u,St n0 w0 L u→Calls Tryz.prog 66 #[.bool b] u (fun e u'=>(∃ x:Unit,b=true∧e = .returned (.tuple #[])∧St n0 w0 L u')∨(b=false∧e = .panicked pchain∧St n0 w0 L u')):=fun u hu =>
 Calls.two (args:=[.bool b]) hu (fun h=>by subst h; exact J3f u) (fun h=>by subst h; exact J01 u)
structure RdS where
 r:Room
 kd:Int
 ws:Sl ByteArray
def Jnl (s:RdS):List Value:=[s.r.pls.v,s.r.ths.v,s.r.prs.v,s.r.wys.v,s.r.acs.v,s.r.aus.v,.int .i64 s.r.ply,s.r.gl.v,.int .i64 s.kd,s.ws.v]
def elOk (r:Room) (u:World):Prop:=(∀ x∈r.prs.l,cPro.ok u x)∧(∀ x∈r.wys.l,cWay.ok u x)∧(∀ x∈r.acs.l,cAct.ok u x)∧(∀ x∈r.aus.l,cAuto.ok u x)∧SlT cLit u r.gl
def Jam (xb:Nat) (s:RdS):List SA:=[blk xb (Jnl s) 56,oT cStr 9 s.r.pls.v s.r.pls.l,oT cThing 65 s.r.ths.v s.r.ths.l,oT cPro 67 s.r.prs.v s.r.prs.l,oT cWay 69 s.r.wys.v s.r.wys.l,oT cAct 73 s.r.acs.v s.r.acs.l,
 oT cAuto 77 s.r.aus.v s.r.aus.l,roS (elOk s.r),roT cStr s.ws]
def rdr (xb:Nat) (s:RdS):SA:=star (Jam xb s)
def RdTo (s s':RdS):Prop:=s'.r=s.r∧s'.kd=s.kd∧s'.ws.l <:+ s.ws.l
theorem Jtt (w:Sl ByteArray):(w.cut 1 1 w.l.length).l <:+ w.l:=by
 show (w.l.drop 1).take (w.l.length - 1) <:+ w.l
 rw [Jk0]
 exact List.tail_suffix _
theorem RdTo.refl (s:RdS):RdTo s s:=⟨rfl,rfl,List.suffix_refl _⟩
theorem RdTo.trans {a b c:RdS} (h1:RdTo a b) (h2:RdTo b c):RdTo a c:=⟨h2.1.trans h1.1,h2.2.1.trans h1.2.1,h2.2.2.trans h1.2.2⟩
structure RdS.ok (s:RdS):Prop where
 sz:∀ y∈s.ws.l,y.size≤65536
 len:s.ws.l.length≤65537
theorem RdTo.ok {a b:RdS} (h:RdTo a b) (hz:a.ok):b.ok:=⟨fun y hy=>hz.sz y (h.2.2.subset hy),Nat.le_trans h.2.2.length_le hz.len⟩
def RdX {γ:Type} (w:World) (R:SA) (xb:Nat) (s:RdS) (spec:Option (γ × Wds)) (val:γ→Value):Ending→World→Prop :=
 RetX (β:=RdS × γ) w R pchain (fun x=>RdTo s x.1∧spec=some (x.2,x.1.ws.l)) (spec=none) (fun x=>val x.2) (fun x=>rdr xb x.1)
theorem Jrd {l:Wds} (h:0 < l.length):Jec l=some (nth l 0,l.tail):=by
 cases l with
 | nil=>simp at h
 | cons a l=>rfl
theorem Jdo {l r:Wds} {t:ByteArray} (h:Jec l=some (t,r)):t∈l:=by
 cases l with
 | nil=>cases h
 | cons a l=>cases h; exact List.mem_cons_self
theorem J0r {t:ByteArray} {l:Wds} (h:l.length=0):isW t l=false:=by
 cases l with
 | nil=>rfl
 | cons a l=>simp at h
theorem Jru {t:ByteArray} {l:Wds} (h:0 < l.length):isW t l=seq (nth l 0) t:=by
 cases l with
 | nil=>simp at h
 | cons a l=>rfl
theorem J2k {n0:Nat} {w0 u:World} {L:List SA} {xb:Nat} {s:RdS} (h:St n0 w0 (rdr xb s::L) u):SlT cStr u s.r.pls:=Jaw (St.unpack (L1:=Jam xb s) h) (j:=1) rfl fun _ _=>trivial
theorem J17 {n0:Nat} {w0 u:World} {L:List SA} {xb:Nat} {s:RdS} (h:St n0 w0 (rdr xb s::L) u):SlT cPro u s.r.prs:=Jaw (St.unpack (L1:=Jam xb s) h) (j:=3) rfl (((St.unpack (L1:=Jam xb s) h).ro (j:=7) rfl:elOk s.r u).1)
theorem J1z {n0:Nat} {w0 u:World} {L:List SA} {xb:Nat} {s:RdS} (h:St n0 w0 (rdr xb s::L) u):SlT cStr u s.ws:=(St.unpack (L1:=Jam xb s) h).ro (j:=8) rfl
theorem Jhr {w u:World} (R:SA) (xb:Nat) (s:RdS) (hu:St w.heap.size w [rdr xb s,R] u) :
  Calls Tryz.prog 65 #[.pointer (some ⟨xb,0,none⟩)] u (RdX w R xb s (Jec s.ws.l) .string):=by
 have hw:=J1z hu
 refine Jdd hu Tryz.func65 rfl rfl (Nat.le_of_ble_eq_true rfl) ?_
 refine CS.unpack (L1:=Jam xb s) ?_
 refine Nz 1 ?_
 refine Wd (Qc (Nz 3 ?_))
 refine Wk 0 (by first | exact Jaa (j:=0) rfl rfl rfl tk23 | exact Jaa (j:=1) rfl rfl rfl tk23 | exact Jaa (j:=2) rfl rfl rfl tk23 | exact Jaa (j:=3) rfl rfl rfl tk23 | exact Jaa (j:=4) rfl rfl rfl tk23 | exact Jaa (j:=5) rfl rfl rfl tk23 | exact Jaa (j:=6) rfl rfl rfl tk23 | exact Jaa (j:=7) rfl rfl rfl tk23 | exact Jaa (j:=8) rfl rfl rfl tk23 | exact Jaa (j:=9) rfl rfl rfl tk23 | exact Jab rfl (by assumption) rfl tk23) ?_
 refine Wk 1 (Nc (s:=s.ws)) ?_
 refine WS.callP rfl rfl Jej (Jcp _) (fun _=>rfl) (fun hq u hu=>And.intro rfl (Or.inr ⟨by simp at hq; rw [hq]; rfl,rfl,hu.sel [9] rfl⟩)) ?_; rintro ⟨⟩ hm
 have hl:0 < s.ws.l.length:=by simpa using hm
 have hoc:(sub2 1 s.ws.v 1 s.ws.l.length).oneCell'=true:=Sl.one (hw.cut (lo:=1) (hi:=s.ws.l.length) (by omega) (Nat.le_refl _))
 refine Wd (Qc (Nz 3 ?_))
 refine Wk 0 (by first | exact Jaa (j:=0) rfl rfl rfl tk23 | exact Jaa (j:=1) rfl rfl rfl tk23 | exact Jaa (j:=2) rfl rfl rfl tk23 | exact Jaa (j:=3) rfl rfl rfl tk23 | exact Jaa (j:=4) rfl rfl rfl tk23 | exact Jaa (j:=5) rfl rfl rfl tk23 | exact Jaa (j:=6) rfl rfl rfl tk23 | exact Jaa (j:=7) rfl rfl rfl tk23 | exact Jaa (j:=8) rfl rfl rfl tk23 | exact Jaa (j:=9) rfl rfl rfl tk23 | exact Jab rfl (by assumption) rfl tk23) ?_
 refine Wk 0 (Xc (s:=s.ws)) ?_
 refine Wk 1 (Vb 8 rfl (s:=s.ws)) ?_
 refine Wd (Qc (Nz 4 ?_))
 refine Wk 0 (by first | exact Jaa (j:=0) rfl rfl rfl tk23 | exact Jaa (j:=1) rfl rfl rfl tk23 | exact Jaa (j:=2) rfl rfl rfl tk23 | exact Jaa (j:=3) rfl rfl rfl tk23 | exact Jaa (j:=4) rfl rfl rfl tk23 | exact Jaa (j:=5) rfl rfl rfl tk23 | exact Jaa (j:=6) rfl rfl rfl tk23 | exact Jaa (j:=7) rfl rfl rfl tk23 | exact Jaa (j:=8) rfl rfl rfl tk23 | exact Jaa (j:=9) rfl rfl rfl tk23 | exact Jab rfl (by assumption) rfl tk23) ?_
 refine Wk 2 (Jjl sl23 rfl rfl hw.sp (by decide) (by omega)) ?_
 first | refine WS.store (j:=0) rfl rfl (by first | decide | omega | (simp; done) | (simp; omega) | exact Nat.le_of_ble_eq_true rfl) rfl (by first | rfl | assumption) tk23 rfl rfl ?_ | refine WS.store (j:=0) rfl rfl (by first | decide | omega | (simp; done) | (simp; omega) | exact Nat.le_of_ble_eq_true rfl) rfl (by first | rfl | assumption) tk23 (Jac _ _ _) rfl ?_ | refine WS.store (j:=1) rfl rfl (by first | decide | omega | (simp; done) | (simp; omega) | exact Nat.le_of_ble_eq_true rfl) rfl (by first | rfl | assumption) tk23 rfl rfl ?_ | refine WS.store (j:=1) rfl rfl (by first | decide | omega | (simp; done) | (simp; omega) | exact Nat.le_of_ble_eq_true rfl) rfl (by first | rfl | assumption) tk23 (Jac _ _ _) rfl ?_ | refine WS.store (j:=2) rfl rfl (by first | decide | omega | (simp; done) | (simp; omega) | exact Nat.le_of_ble_eq_true rfl) rfl (by first | rfl | assumption) tk23 rfl rfl ?_ | refine WS.store (j:=2) rfl rfl (by first | decide | omega | (simp; done) | (simp; omega) | exact Nat.le_of_ble_eq_true rfl) rfl (by first | rfl | assumption) tk23 (Jac _ _ _) rfl ?_ | refine WS.store (j:=3) rfl rfl (by first | decide | omega | (simp; done) | (simp; omega) | exact Nat.le_of_ble_eq_true rfl) rfl (by first | rfl | assumption) tk23 rfl rfl ?_ | refine WS.store (j:=3) rfl rfl (by first | decide | omega | (simp; done) | (simp; omega) | exact Nat.le_of_ble_eq_true rfl) rfl (by first | rfl | assumption) tk23 (Jac _ _ _) rfl ?_ | refine WS.store (j:=4) rfl rfl (by first | decide | omega | (simp; done) | (simp; omega) | exact Nat.le_of_ble_eq_true rfl) rfl (by first | rfl | assumption) tk23 rfl rfl ?_ | refine WS.store (j:=4) rfl rfl (by first | decide | omega | (simp; done) | (simp; omega) | exact Nat.le_of_ble_eq_true rfl) rfl (by first | rfl | assumption) tk23 (Jac _ _ _) rfl ?_ | refine WS.store (j:=5) rfl rfl (by first | decide | omega | (simp; done) | (simp; omega) | exact Nat.le_of_ble_eq_true rfl) rfl (by first | rfl | assumption) tk23 rfl rfl ?_ | refine WS.store (j:=5) rfl rfl (by first | decide | omega | (simp; done) | (simp; omega) | exact Nat.le_of_ble_eq_true rfl) rfl (by first | rfl | assumption) tk23 (Jac _ _ _) rfl ?_ | refine WS.store (j:=6) rfl rfl (by first | decide | omega | (simp; done) | (simp; omega) | exact Nat.le_of_ble_eq_true rfl) rfl (by first | rfl | assumption) tk23 rfl rfl ?_ | refine WS.store (j:=6) rfl rfl (by first | decide | omega | (simp; done) | (simp; omega) | exact Nat.le_of_ble_eq_true rfl) rfl (by first | rfl | assumption) tk23 (Jac _ _ _) rfl ?_ | refine WS.store (j:=7) rfl rfl (by first | decide | omega | (simp; done) | (simp; omega) | exact Nat.le_of_ble_eq_true rfl) rfl (by first | rfl | assumption) tk23 rfl rfl ?_ | refine WS.store (j:=7) rfl rfl (by first | decide | omega | (simp; done) | (simp; omega) | exact Nat.le_of_ble_eq_true rfl) rfl (by first | rfl | assumption) tk23 (Jac _ _ _) rfl ?_ | refine WS.store (j:=8) rfl rfl (by first | decide | omega | (simp; done) | (simp; omega) | exact Nat.le_of_ble_eq_true rfl) rfl (by first | rfl | assumption) tk23 rfl rfl ?_ | refine WS.store (j:=8) rfl rfl (by first | decide | omega | (simp; done) | (simp; omega) | exact Nat.le_of_ble_eq_true rfl) rfl (by first | rfl | assumption) tk23 (Jac _ _ _) rfl ?_ | refine WS.store (j:=9) rfl rfl (by first | decide | omega | (simp; done) | (simp; omega) | exact Nat.le_of_ble_eq_true rfl) rfl (by first | rfl | assumption) tk23 rfl rfl ?_ | refine WS.store (j:=9) rfl rfl (by first | decide | omega | (simp; done) | (simp; omega) | exact Nat.le_of_ble_eq_true rfl) rfl (by first | rfl | assumption) tk23 (Jac _ _ _) rfl ?_
 refine Wd (Qc (Nz 2 ?_))
 refine Wd (Qc (Cr ?_))
 refine QS.sel [8,0,0,0,0,0,0,0,0,0] rfl ?_
 refine QS.weak (fun u hu=>St.roCut (lo:=1) (hi:=s.ws.l.length) hu (by omega) (Nat.le_refl _)) ?_
 refine QS.sel [1,1,1,1,1,1,1,1,0,0] rfl ?_
 exact out1 rfl rfl (fun u hu=>.inl ⟨({ s with ws:=s.ws.cut 1 1 s.ws.l.length },nth s.ws.l 0),⟨⟨rfl,rfl,Jtt s.ws⟩,by rw [Jrd hl]; exact congrArg _ (congrArg _ (Jk0 _).symm)⟩,rfl,St.pack (L1:=Jam xb { s with ws:=s.ws.cut 1 1 s.ws.l.length }) hu⟩)
theorem Jfs {w u:World} (R:SA) (xb:Nat) (s:RdS) (hu:St w.heap.size w [rdr xb s,R] u) (t:ByteArray) :
  Calls Tryz.prog 68 #[.pointer (some ⟨xb,0,none⟩),.string t] u (RdX w R xb s (some (isW t s.ws.l,if isW t s.ws.l then s.ws.l.tail else s.ws.l)) .bool):=by
 have hw:=J1z hu
 refine Jdd hu Tryz.func68 rfl rfl (Nat.le_of_ble_eq_true rfl) ?_
 refine CS.unpack (L1:=Jam xb s) ?_
 refine Nz 1 ?_
 refine Wd (Qc (Cs (Nz 3 ?_)))
 refine Wk 0 (by first | exact Jaa (j:=0) rfl rfl rfl tk23 | exact Jaa (j:=1) rfl rfl rfl tk23 | exact Jaa (j:=2) rfl rfl rfl tk23 | exact Jaa (j:=3) rfl rfl rfl tk23 | exact Jaa (j:=4) rfl rfl rfl tk23 | exact Jaa (j:=5) rfl rfl rfl tk23 | exact Jaa (j:=6) rfl rfl rfl tk23 | exact Jaa (j:=7) rfl rfl rfl tk23 | exact Jaa (j:=8) rfl rfl rfl tk23 | exact Jaa (j:=9) rfl rfl rfl tk23 | exact Jab rfl (by assumption) rfl tk23) ?_
 refine Wk 2 (Nc (s:=s.ws)) ?_
 refine Wf 0 rfl rfl (fun hg=>Fm) ?_
 refine Wf 0 rfl rfl (fun hg=>Fc) ?_
 refine Wf 0 rfl rfl (fun hg=>Ff) ?_
 refine Wf 0 rfl rfl (fun hg=>by first | exact Jaa (j:=0) (eg_ hg rfl) rfl rfl tk23 | exact Jaa (j:=1) (eg_ hg rfl) rfl rfl tk23 | exact Jaa (j:=2) (eg_ hg rfl) rfl rfl tk23 | exact Jaa (j:=3) (eg_ hg rfl) rfl rfl tk23 | exact Jaa (j:=4) (eg_ hg rfl) rfl rfl tk23 | exact Jaa (j:=5) (eg_ hg rfl) rfl rfl tk23 | exact Jaa (j:=6) (eg_ hg rfl) rfl rfl tk23 | exact Jaa (j:=7) (eg_ hg rfl) rfl rfl tk23 | exact Jaa (j:=8) (eg_ hg rfl) rfl rfl tk23 | exact Jaa (j:=9) (eg_ hg rfl) rfl rfl tk23 | exact Jab (eg_ hg rfl) (by assumption) rfl tk23) ?_
 refine Wf 0 rfl rfl (fun hg=>Xc (s:=s.ws)) ?_
 refine Wf 0 rfl rfl (fun hg=>Vb 8 rfl (s:=s.ws)) ?_
 refine Wf 0 rfl rfl (fun hg=>Fm) ?_
 refine Wf 0 rfl rfl (fun hg=>Jcm (eg_ hg rfl) (eg_ hg rfl)) ?_
 refine Wk 0 Po ?_
 refine Wd (Qc (CS.cond rfl ?_ ?_))<;>intro hc1<;>try simp only [bq] at hc1
 ·
  have hno:isW t s.ws.l=false:=by
   rcases Nat.eq_zero_or_pos s.ws.l.length with h0 | h0
   ·
    exact J0r h0
   rw [Jru h0]; rcases hc1 with h | h
   ·
    omega
   exact h
  refine Nz 1 ?_
  exact Wd (Qc (Cr (Qr (out1 rfl rfl (fun u hu=>.inl ⟨(s,false),⟨RdTo.refl s,by rw [hno]; rfl⟩,rfl,St.pack (L1:=Jam xb s) hu⟩)))))
 have hl:0 < s.ws.l.length:=by omega
 have hyes:isW t s.ws.l=true:=by rw [Jru hl]; exact hc1.2
 have hoc:(sub2 1 s.ws.v 1 s.ws.l.length).oneCell'=true:=Sl.one (hw.cut (lo:=1) (hi:=s.ws.l.length) (by omega) (Nat.le_refl _))
 refine Ck (Qc (Nz 4 ?_))
 refine Wk 0 (by first | exact Jaa (j:=0) rfl rfl rfl tk23 | exact Jaa (j:=1) rfl rfl rfl tk23 | exact Jaa (j:=2) rfl rfl rfl tk23 | exact Jaa (j:=3) rfl rfl rfl tk23 | exact Jaa (j:=4) rfl rfl rfl tk23 | exact Jaa (j:=5) rfl rfl rfl tk23 | exact Jaa (j:=6) rfl rfl rfl tk23 | exact Jaa (j:=7) rfl rfl rfl tk23 | exact Jaa (j:=8) rfl rfl rfl tk23 | exact Jaa (j:=9) rfl rfl rfl tk23 | exact Jab rfl (by assumption) rfl tk23) ?_
 refine Wk 2 (Jjl sl23 rfl rfl hw.sp (by decide) (by omega)) ?_
 first | refine WS.store (j:=0) rfl rfl (by first | decide | omega | (simp; done) | (simp; omega) | exact Nat.le_of_ble_eq_true rfl) rfl (by first | rfl | assumption) tk23 rfl rfl ?_ | refine WS.store (j:=0) rfl rfl (by first | decide | omega | (simp; done) | (simp; omega) | exact Nat.le_of_ble_eq_true rfl) rfl (by first | rfl | assumption) tk23 (Jac _ _ _) rfl ?_ | refine WS.store (j:=1) rfl rfl (by first | decide | omega | (simp; done) | (simp; omega) | exact Nat.le_of_ble_eq_true rfl) rfl (by first | rfl | assumption) tk23 rfl rfl ?_ | refine WS.store (j:=1) rfl rfl (by first | decide | omega | (simp; done) | (simp; omega) | exact Nat.le_of_ble_eq_true rfl) rfl (by first | rfl | assumption) tk23 (Jac _ _ _) rfl ?_ | refine WS.store (j:=2) rfl rfl (by first | decide | omega | (simp; done) | (simp; omega) | exact Nat.le_of_ble_eq_true rfl) rfl (by first | rfl | assumption) tk23 rfl rfl ?_ | refine WS.store (j:=2) rfl rfl (by first | decide | omega | (simp; done) | (simp; omega) | exact Nat.le_of_ble_eq_true rfl) rfl (by first | rfl | assumption) tk23 (Jac _ _ _) rfl ?_ | refine WS.store (j:=3) rfl rfl (by first | decide | omega | (simp; done) | (simp; omega) | exact Nat.le_of_ble_eq_true rfl) rfl (by first | rfl | assumption) tk23 rfl rfl ?_ | refine WS.store (j:=3) rfl rfl (by first | decide | omega | (simp; done) | (simp; omega) | exact Nat.le_of_ble_eq_true rfl) rfl (by first | rfl | assumption) tk23 (Jac _ _ _) rfl ?_ | refine WS.store (j:=4) rfl rfl (by first | decide | omega | (simp; done) | (simp; omega) | exact Nat.le_of_ble_eq_true rfl) rfl (by first | rfl | assumption) tk23 rfl rfl ?_ | refine WS.store (j:=4) rfl rfl (by first | decide | omega | (simp; done) | (simp; omega) | exact Nat.le_of_ble_eq_true rfl) rfl (by first | rfl | assumption) tk23 (Jac _ _ _) rfl ?_ | refine WS.store (j:=5) rfl rfl (by first | decide | omega | (simp; done) | (simp; omega) | exact Nat.le_of_ble_eq_true rfl) rfl (by first | rfl | assumption) tk23 rfl rfl ?_ | refine WS.store (j:=5) rfl rfl (by first | decide | omega | (simp; done) | (simp; omega) | exact Nat.le_of_ble_eq_true rfl) rfl (by first | rfl | assumption) tk23 (Jac _ _ _) rfl ?_ | refine WS.store (j:=6) rfl rfl (by first | decide | omega | (simp; done) | (simp; omega) | exact Nat.le_of_ble_eq_true rfl) rfl (by first | rfl | assumption) tk23 rfl rfl ?_ | refine WS.store (j:=6) rfl rfl (by first | decide | omega | (simp; done) | (simp; omega) | exact Nat.le_of_ble_eq_true rfl) rfl (by first | rfl | assumption) tk23 (Jac _ _ _) rfl ?_ | refine WS.store (j:=7) rfl rfl (by first | decide | omega | (simp; done) | (simp; omega) | exact Nat.le_of_ble_eq_true rfl) rfl (by first | rfl | assumption) tk23 rfl rfl ?_ | refine WS.store (j:=7) rfl rfl (by first | decide | omega | (simp; done) | (simp; omega) | exact Nat.le_of_ble_eq_true rfl) rfl (by first | rfl | assumption) tk23 (Jac _ _ _) rfl ?_ | refine WS.store (j:=8) rfl rfl (by first | decide | omega | (simp; done) | (simp; omega) | exact Nat.le_of_ble_eq_true rfl) rfl (by first | rfl | assumption) tk23 rfl rfl ?_ | refine WS.store (j:=8) rfl rfl (by first | decide | omega | (simp; done) | (simp; omega) | exact Nat.le_of_ble_eq_true rfl) rfl (by first | rfl | assumption) tk23 (Jac _ _ _) rfl ?_ | refine WS.store (j:=9) rfl rfl (by first | decide | omega | (simp; done) | (simp; omega) | exact Nat.le_of_ble_eq_true rfl) rfl (by first | rfl | assumption) tk23 rfl rfl ?_ | refine WS.store (j:=9) rfl rfl (by first | decide | omega | (simp; done) | (simp; omega) | exact Nat.le_of_ble_eq_true rfl) rfl (by first | rfl | assumption) tk23 (Jac _ _ _) rfl ?_
 refine Wd (Qc (Nz 1 ?_))
 refine Wd (Qc (Cr ?_))
 refine QS.sel [8,0,0,0,0,0,0,0,0,0] rfl ?_
 refine QS.weak (fun u hu=>St.roCut (lo:=1) (hi:=s.ws.l.length) hu (by omega) (Nat.le_refl _)) ?_
 refine QS.sel [1,1,1,1,1,1,1,1,0,0] rfl ?_
 exact out1 rfl rfl (fun u hu=>.inl ⟨({ s with ws:=s.ws.cut 1 1 s.ws.l.length },true),⟨⟨rfl,rfl,Jtt s.ws⟩,by rw [hyes]; exact congrArg _ (congrArg _ (Jk0 _).symm)⟩,rfl,St.pack (L1:=Jam xb { s with ws:=s.ws.cut 1 1 s.ws.l.length }) hu⟩)
end Go.Proofs.YtkekjhcmephhjaaGreatDoor
