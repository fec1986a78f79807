/- Merged texts of this proof (walks and plain laws), printed by a program of the prover. -/
import Derived.Test.YtfbfdnoodccgiaaGreatDoorXa
import Derived.Test.YtfbfdnoodccgiaaGreatDoorZb
set_option maxHeartbeats 8000000
namespace Go.Proofs.YtfbfdnoodccgiaaGreatDoor
open Go.RowKit Go.Proofs
set_option maxRecDepth 100000
set_option linter.unusedVariables false
set_option linter.unusedSimpArgs false
theorem Jlm:agq2 Tryz.prog 56=some [(0,0),(1,0),(2,0),(3,0),(4,0),(5,0),(6,0)]:=by kernel_rfl
theorem Jg0 (x y:Entr):cmps (cEntry.cells x) (cEntry.cells y) [(0,0),(1,0),(2,0),(3,0),(4,0),(5,0),(6,0)]=some (decide (x=y)):=by
 cases x with
 | mk xt xk xm xa xb =>
  cases y with
  | mk yt yk ym ya yb =>
   cases xm; cases ym
   simp only [cmps,cmp1,cEntry,List.getElem?_cons_zero,List.getElem?_cons_succ,Entr.mk.injEq,Move.mk.injEq]
   simp [and_assoc]
def Jdo:List Entr→List Entr→Int→Int
 | [],[],_ => -1
 | x::xs,y::ys,i=>if x=y then Jdo xs ys (i+1) else i
 | [],_::_,i=>i
 | _::_,[],i=>i
theorem Jo2:∀ (xs ys:List Entr) (i:Int),0≤i→(Jdo xs ys i < 0 ↔ xs=ys)
 | [],[],i,h=>by simp [Jdo]
 | x::xs,y::ys,i,h=>by
  unfold Jdo
  by_cases e:x=y
  ·
   rw [if_pos e,Jo2 xs ys (i+1) (by omega),e]; simp
  rw [if_neg e]
  constructor
  ·
   intro q; omega
  intro q; exact absurd (List.cons.inj q).1 e
 | [],y::ys,i,h=>by simp [Jdo]; omega
 | x::xs,[],i,h=>by simp [Jdo]; omega
theorem Jo9 {xs ys:List Entr} {s:Int} (h0:0≤s) (h1:s < xs.length) (h2:s < ys.length) (he:nth xs s=nth ys s):Jdo (xs.drop s.toNat) (ys.drop s.toNat) s=Jdo (xs.drop (s+1).toNat) (ys.drop (s+1).toNat) (s+1):=by
 rw [Jbd h0 h1,Jbd h0 h2,Jdo,if_pos he]
theorem Jxb {xs ys:List Entr} {s:Int} (h0:0≤s) (h1:s < xs.length) (h2:s < ys.length) (he:¬ nth xs s=nth ys s):Jdo (xs.drop s.toNat) (ys.drop s.toNat) s=s:=by
 rw [Jbd h0 h1,Jbd h0 h2,Jdo,if_neg he]
theorem Jjw {xs ys:List Entr} {s:Int} (h0:0≤s) (h:(s < xs.length∧¬ s < ys.length)∨(¬ s < xs.length∧s < ys.length)):Jdo (xs.drop s.toNat) (ys.drop s.toNat) s=s:=by
 rcases h with ⟨h1,h2⟩ | ⟨h1,h2⟩
 ·
  rw [Jbd h0 h1,List.drop_of_length_le (l:=ys) (by omega),Jdo]
 rw [Jbd h0 h2,List.drop_of_length_le (l:=xs) (by omega),Jdo]
theorem Jrn {xs ys:List Entr} {s:Int} (h1:¬ s < xs.length) (h2:¬ s < ys.length):Jdo (xs.drop s.toNat) (ys.drop s.toNat) s = -1:=by
 rw [List.drop_of_length_le (l:=xs) (by omega),List.drop_of_length_le (l:=ys) (by omega),Jdo]
def RetT {α:Type} (C:Cel α) (w:World) (x:List α) (f:Value→Value):Ending→World→Prop:=fun e w'=>∃ v:Value,(∃ u0,SlT C u0 ⟨v,x⟩)∧RetF w (f v) (roT C ⟨v,x⟩) e w'
theorem retT {α:Type} {C:Cel α} {w0 u:World} {L:List SA} {e:TypeId} {j:Nat} {v:Value} {xs:List α} {f:Value→Value} (hC:∀ u,∀ a∈xs,C.ok u a) (hj:L[j]? = some (oT C e v xs)) (hu:St w0.heap.size w0 L u):RetT C w0 xs f (.returned (f v)) u :=
 ⟨v,⟨u,Jim hu hj (hC u)⟩,retR (fun S u h=>⟨Star.osl hj h,hC u⟩) u hu⟩
theorem Jqj {α:Type} {C:Cel α} {w0 u:World} {L:List SA} {f:Value→Value} (hu:St w0.heap.size w0 L u):RetT C w0 [] f (.returned (f (.slice none 0 0))) u :=
 ⟨_,⟨u,SlT.nil C u⟩,retR (fun S u h=>SlT.nil C u) u hu⟩
theorem Jff (n lo hi:Int) (w:World) :
  Calls Tryz.prog 21 #[.int .i64 n,.int .i64 lo,.int .i64 hi] w (RetB w (.bool (decide (lo≤n) && decide (n≤hi)))):=by
 refine enter Tryz.func21 rfl rfl (Nat.le_of_ble_eq_true rfl) ?_
 refine Nz 1 ?_
 refine Wd (Qc (Nz 4 ?_))
 refine Wt 0 rfl rfl (fun hg=>Fm) ?_
 refine Wt 0 rfl rfl (fun hg=>Fm) ?_
 refine Wt 0 rfl rfl (fun hg=>Fk) ?_
 refine Wk 1 Pa ?_
 exact Wd (Qc (Cr (out1 rfl rfl (Jac (by simp)))))
theorem Jqw (n lo hi:Int) (w:World) :
  Calls Tryz.prog 27 #[.int .i64 n,.int .i64 lo,.int .i64 hi] w (RetB w (.bool (decide (lo≤n) && decide (n≤hi)))):=by
 refine enter Tryz.func27 rfl rfl (Nat.le_of_ble_eq_true rfl) ?_
 refine Nz 1 ?_
 refine Wd (Qc (Nz 4 ?_))
 refine Wt 0 rfl rfl (fun hg=>Fm) ?_
 refine Wt 0 rfl rfl (fun hg=>Fm) ?_
 refine Wt 0 rfl rfl (fun hg=>Fk) ?_
 refine Wk 1 Pa ?_
 exact Wd (Qc (Cr (out1 rfl rfl (Jac (by simp)))))
theorem Jda (x:Entr) (w:World) :
  Calls Tryz.prog 42 #[.agg #[.int .i64 x.t,.int .i64 x.k,.int .i64 x.m.p,.int .i64 x.m.k,.int .i64 x.m.n,.int .i64 x.a,.int .i64 x.b]] w (RetB w (.bool (decide (x.m=mv0)))):=by
 refine enter Tryz.func42 rfl rfl (Nat.le_of_ble_eq_true rfl) ?_
 refine Nz 0 ?_
 refine Wb 1 rfl rfl (fun _=>rfl) (fun _=>rfl) fun b1 hb1=>?_
 refine Wd (Qc (Nz 1 ?_))
 refine Wk 0 (Bc 0) ?_
 refine Wk 0 (Db J42 zv51) ?_
 refine Wk 1 (Jtu J43 rfl rfl (Jvy x.m mv0)) ?_
 exact Wd (Qc (Cr (out1 rfl rfl (Jac rfl))))
theorem Jvq (x:Entr) (w:World) :
  Calls Tryz.prog 26 #[.agg #[.int .i64 x.t,.int .i64 x.k,.int .i64 x.m.p,.int .i64 x.m.k,.int .i64 x.m.n,.int .i64 x.a,.int .i64 x.b]] w (RetB w (.bool (Jci x))):=by
 refine enter Tryz.func26 rfl rfl (Nat.le_of_ble_eq_true rfl) ?_
 refine Nz 0 ?_
 refine Wb 1 rfl rfl (fun _=>rfl) (fun _=>rfl) fun b1 hb1=>?_
 refine Wd (Qc (Cs (Nz 1 ?_)))
 refine Wk 0 (Ba 0) ?_
 refine Wd (Qc (Ce (Nz 2 ?_)))
 refine Wd (Qc (CS.cond rfl ?_ ?_))<;>intro hc1<;>try simp only [bq] at hc1
 ·
  refine Nz 1 ?_
  refine Wk 2 (Ba 0) ?_
  refine Wt 0 rfl rfl (fun hg=>Ff) ?_
  refine Wt 0 rfl rfl (fun hg=>Ba 0) ?_
  refine Wt 0 rfl rfl (fun hg=>Fq) ?_
  refine Wk 1 Pa ?_
  exact Wd (Qc (Cr (Qs (Qr (out1 rfl rfl (Jac (by unfold Jci; grind)))))))
 refine Nz 2 ?_
 refine Wd (Qc (CS.cond rfl ?_ ?_))<;>intro hc2<;>try simp only [bq] at hc2
 ·
  refine Nz 0 ?_
  refine Wk 0 (Bb 0) ?_
  refine Wk 1 (Cb rfl rfl Jt0 (fun u hu=>Jda x u)) ?_
  refine Wt 0 rfl rfl (fun hg=>Ff) ?_
  refine Wt 0 rfl rfl (fun hg=>Ba 0) ?_
  refine Wt 0 rfl rfl (fun hg=>Fq) ?_
  refine Wk 1 Pa ?_
  exact Wd (Qc (Cr (Qs (Qr (out1 rfl rfl (Jac (by unfold Jci; grind)))))))
 refine Cs (Nz 2 ?_)
 refine Wd (Qc (CS.cond rfl ?_ ?_))<;>intro hc3<;>try simp only [bq] at hc3
 ·
  refine Ck (Qc (CS.cond rfl ?_ ?_))<;>intro hc4<;>try simp only [bq] at hc4
  ·
   refine Nz 0 ?_
   refine Wk 0 (Bb 0) ?_
   refine Wk 1 (Cb rfl rfl Jt0 (fun u hu=>Jda x u)) ?_
   refine Wt 0 rfl rfl (fun hg=>Ff) ?_
   refine Wt 0 rfl rfl (fun hg=>Ba 0) ?_
   refine Wt 0 rfl rfl (fun hg=>Fq) ?_
   refine Wk 1 Pa ?_
   refine Wt 0 rfl rfl (fun hg=>Ff) ?_
   refine Wt 0 rfl rfl (fun hg=>Ba 0) ?_
   refine Wt 0 rfl rfl (fun hg=>Fq) ?_
   refine Wk 1 Pa ?_
   exact Wd (Qc (Cr (Qs (Qr (out1 rfl rfl (Jac (by unfold Jci; grind)))))))
  refine Nz 2 ?_
  refine Wd (Qc (CS.cond rfl ?_ ?_))<;>intro hc5<;>try simp only [bq] at hc5
  ·
   refine Nz 0 ?_
   refine Wk 0 (Bb 0) ?_
   refine Wk 1 (Cb rfl rfl Jt0 (fun u hu=>Jda x u)) ?_
   exact Wd (Qc (Cr (Qs (Qr (out1 rfl rfl (Jac (by unfold Jci; grind)))))))
  refine Ck (Qb (Qc (Nz 1 ?_)))
  exact Wd (Qc (Cr (out1 rfl rfl (Jac (by unfold Jci; grind)))))
 refine Ny 2 ?_
 refine Wd (Qc (CS.cond rfl ?_ ?_))<;>intro hc6<;>try simp only [bq] at hc6
 ·
  refine Nz 0 ?_
  refine Wk 0 (Bb 0) ?_
  refine Wk 1 (Cb rfl rfl Jt0 (fun u hu=>Jda x u)) ?_
  refine Wt 0 rfl rfl (fun hg=>Ff) ?_
  refine Wt 0 rfl rfl (fun hg=>Ba 0) ?_
  refine Wt 0 rfl rfl (fun hg=>Fq) ?_
  refine Wk 1 Pa ?_
  refine Wt 0 rfl rfl (fun hg=>Ff) ?_
  refine Wt 0 rfl rfl (fun hg=>Ba 0) ?_
  refine Wt 0 rfl rfl (fun hg=>Fq) ?_
  refine Wk 1 Pa ?_
  exact Wd (Qc (Cr (Qs (Qr (out1 rfl rfl (Jac (by unfold Jci; grind)))))))
 refine Nz 2 ?_
 refine Wd (Qc (CS.cond rfl ?_ ?_))<;>intro hc7<;>try simp only [bq] at hc7
 ·
  refine Nz 0 ?_
  refine Wk 0 (Bb 0) ?_
  refine Wk 1 (Cb rfl rfl Jt0 (fun u hu=>Jda x u)) ?_
  exact Wd (Qc (Cr (Qs (Qr (out1 rfl rfl (Jac (by unfold Jci; grind)))))))
 refine Ck (Qb (Qc (Nz 1 ?_)))
 exact Wd (Qc (Cr (out1 rfl rfl (Jac (by unfold Jci; grind)))))
theorem J1r (x y:Sl Entr) (w:World) (hx:SlT cEntry w x) (hy:SlT cEntry w y) :
  Calls Tryz.prog 20 #[x.v,y.v] w (RetB w (.int .i64 (Jdo x.l y.l 0))):=by
 have lx:=hx.le
 have ly:=hy.le
 refine enter Tryz.func20 rfl rfl (Nat.le_of_ble_eq_true rfl) ?_
 refine Nz 1 ?_
 refine Wd (Qc (Cs (Nz 1 ?_)))
 refine Wd (Qc (Ce ?_))
 refine CS.loopM (σ:=Int) [4,6,7,8,9,10,11,12,13,14,15,16,17,18,19,20,21,22,23,24,25,26,27,28,29,30,31,32,33,34,35,36,37,38,39] (fun s=>[(5,.int .i64 s)]) (fun _=>_) (fun s=>0≤s∧s≤x.l.length∧s≤y.l.length∧Jdo x.l y.l 0=Jdo (x.l.drop s.toNat) (y.l.drop s.toNat) s) (fun s=>(x.l.length - s).toNat) 0 (fun _ _=>rfl) rfl rfl ⟨by omega,by omega,by omega,by simp⟩ ?_
 intro s t hs
 obtain ⟨hs1,hs2,hs3,hs4⟩:=hs
 refine Cs (Nz 2 ?_)
 refine Wk 2 Nc ?_
 refine Wf 0 rfl rfl (fun hg=>Fm) ?_
 refine Wf 0 rfl rfl (fun hg=>Fm) ?_
 refine Wf 0 rfl rfl (fun hg=>Nc (eg_ hg rfl)) ?_
 refine Wf 0 rfl rfl (fun hg=>Fl) ?_
 refine Wk 0 Po ?_
 refine Wd (Qc (CS.cond rfl ?_ ?_))<;>intro hc1<;>try simp only [bq] at hc1
 ·
  refine Ck (Qc (Cs (Ce (Cs (Dr mixed 2 ?_)))))
  refine Dk 2 Nc ?_
  refine Df 0 rfl rfl (fun hg=>Fm) ?_
  refine Df 0 rfl rfl (fun hg=>Fm) ?_
  refine Df 0 rfl rfl (fun hg=>Nc (eg_ hg rfl)) ?_
  refine Df 0 rfl rfl (fun hg=>Fh) ?_
  refine Dk 1 Po ?_
  refine Df 0 rfl rfl (fun hg=>Fm) ?_
  refine Df 0 rfl rfl (fun hg=>Fm) ?_
  refine Df 0 rfl rfl (fun hg=>Xc (eg_ hg rfl)) ?_
  refine Df 0 rfl rfl (fun hg=>Ua) ?_
  refine Df 0 rfl rfl (fun hg=>Fm) ?_
  refine Df 0 rfl rfl (fun hg=>Fm) ?_
  refine Df 0 rfl rfl (fun hg=>Xc (eg_ hg rfl)) ?_
  refine Df 0 rfl rfl (fun hg=>Ua) ?_
  refine Df 0 rfl rfl (fun hg=>Jik Jlm (eg_ hg rfl) (eg_ hg rfl) (Jg0 (nth x.l s) (nth y.l s))) ?_
  refine Dk 0 Po ?_
  refine Dd (Qc (CS.cond rfl ?_ ?_))<;>intro hc2<;>try simp only [bq] at hc2
  ·
   refine Nz 2 ?_
   refine Wd (Qc (Cr (Qs (Qr (Qr (Qs (Qr ?_)))))))
   exact out1 rfl rfl (Jac (by
      rw [hs4]
      by_cases h1:s < (x.l.length:Int)
      ·
       by_cases h2:s < (y.l.length:Int)
       ·
        rw [Jxb hs1 h1 h2 (by grind)]
       rw [Jjw hs1 (.inl ⟨h1,h2⟩)]
      rw [Jjw hs1 (.inr ⟨h1,by grind⟩)]))
  have hbb:(s < (x.l.length:Int)∧s < (y.l.length:Int))∧nth x.l s=nth y.l s:=by grind
  refine Ck (Qb (Qc (Ny 1 ?_)))
  refine Wk 1 Za ?_
  exact Wd (QS.head (s+1) rfl rfl ⟨⟨by omega,by omega,by omega,by rw [hs4,Jo9 hs1 hbb.1.1 hbb.1.2 hbb.2]⟩,by omega⟩)
 refine Cv (Qe (Qe (Qx (Qc (Nz 1 ?_)))))
 exact Wd (Qc (Cr (out1 rfl rfl (Jac (by rw [hs4,Jrn (by omega) (by omega)])))))
theorem J1p (x y:Sl Entr) (w:World) (hx:SlT cEntry w x) (hy:SlT cEntry w y) :
  Calls Tryz.prog 8 #[x.v,y.v] w (RetB w (.bool (decide (x.l=y.l)))):=by
 refine enter Tryz.func8 rfl rfl (Nat.le_of_ble_eq_true rfl) ?_
 refine Nz 1 ?_
 refine Wd (Qc (Nz 2 ?_))
 refine Wk 2 (Cb rfl rfl J5z (fun u hu=>J1r _ _ u (hx.st hu) (hy.st hu))) ?_
 exact Wd (Qc (Cr (out1 rfl rfl (Jac (congrArg Value.bool (decide_eq_decide.2 (Jo2 _ _ _ (Int.le_refl 0))))))))
theorem Jtj (l:Sl Entr) (w:World) (hk:SlT cEntry w l) (hm:(l.l.length:Int)≤1000000) :
  Calls Tryz.prog 10 #[l.v] w (RetT cEntry w l.l fun v=>v):=by
 have hls:=hk.sp
 have hone:=hk.one
 refine enter Tryz.func10 rfl rfl (Nat.le_of_ble_eq_true rfl) ?_
 refine Nz 1 ?_
 refine Wd (Qc (Nz 0 ?_))
 refine WS.build0 sl23 zv56 (fun _=>rfl) ?_; intro v3
 refine Wz 1 ?_
 refine WS.append0 (j:=0) (news:=Ja5 cEntry l.l) (m:=l.l.length) sl23 zv56 rfl (by decide) rfl rfl rfl (fun u hu=>(hk.st hu).sp) hone (by omega) (by omega) (fun _=>rfl) (fun _=>rfl) ?_; intro v5
 refine Wz 1 ?_
 exact Wd (Qc (Cr (out1 rfl rfl (fun u hu=>retT (C:=cEntry) (f:=fun v=>v) (e:=56) (j:=0) (fun _ _ _=>trivial) rfl hu))))
theorem J16 (G:Game) (w:World) (hG:GameOk w G) (hn:NearG G) (g:Sl ByteArray) (hW:GOk w g) (y:Pos) (hy:PosOk w y) (f:Film) (hyx:y.x=f.x) (hq:posG G.p f.x=0) (fb:Nat) (e:TypeId) (hb:BlkAt w fb [G.rm.pls.v,G.rm.ths.v,G.rm.prs.v,G.rm.wys.v,G.rm.acs.v,G.rm.aus.v,.int .i64 G.rm.ply,G.rm.gl.v,G.lks.v,G.cds.v,G.nts.v,.int .i64 G.tr,y.st.ths.v,y.st.prs.v,y.st.pls.v,y.rd.v,.bool f.st,.int .i64 f.si,.int .i64 f.pa,.int .i64 f.en,.int .i64 f.hi] e) :
  Calls Tryz.prog 44 #[.pointer (some ⟨fb,0,none⟩)] w (RetB w (.bool (Jke G.p f.x))):=by
 have hP:=Jeu (p:=y) (by rw [hyx]; exact hq)
 have hS:stL G.rm y.st.x=0:=Jd0.2 ⟨hP.ck,hP.inn⟩
 have hgc:Jev G.rm.ths.l G.rm.gl.l=true:=Jkr (Jbt (Jgz hP.ck)).2
 have hhv:HoldsV G.rm y.st.x G.rm.gl.l=(0,Jcq y.st.x.1 G.rm.gl.l):=(if_pos hS).trans (if_pos hgc)
 have hdx:Jke G.p f.x=Jcq y.st.x.1 G.rm.gl.l:=by unfold Jke; rw [← hyx, ← G.p_alike.gl]; rfl
 refine enter Tryz.func44 rfl rfl (Nat.le_of_ble_eq_true rfl) ?_
 refine Nz 1 ?_
 refine Wd (Qc (Cs (Dr mixed 4 ?_)))
 refine Dk 4 (Jfh (n:=8) (cs:=[G.rm.pls.v,G.rm.ths.v,G.rm.prs.v,G.rm.wys.v,G.rm.acs.v,G.rm.aus.v,.int .i64 G.rm.ply,G.rm.gl.v]) rfl hb rfl rfl tk43) ?_
 refine Dk 0 (Jfh (n:=3) (cs:=[y.st.ths.v,y.st.prs.v,y.st.pls.v]) rfl hb rfl rfl tk94) ?_
 refine Dk 5 (Cb rfl rfl J5n (fun u hu=>(by have q:=Jy8 G.rm u (hG.rm.st hu) g (hW.st hu) hn.rm y.st (hy.st.st hu); rw [hhv] at q; exact q))) ?_
 refine Dd (Qc (Nz 3 ?_))
 refine Wt 0 rfl rfl (fun hg=>Fm) ?_
 refine Wk 1 Pa ?_
 exact Wd (Qc (Cr (out1 rfl rfl (Jac (by rw [hdx]; simp)))))
theorem Jzz {w u:World} (R:SA) (G:Game) (hG:GameOk w G) (hn:NearG G) (g:Sl ByteArray) (hW:GOk w g) (fb:Nat) (y:Pos) (f:Film) (hyx:y.x=f.x) (hq:posG G.p f.x=0) (m:Move) (hu:St w.heap.size w [blk fb [G.rm.pls.v,G.rm.ths.v,G.rm.prs.v,G.rm.wys.v,G.rm.acs.v,G.rm.aus.v,.int .i64 G.rm.ply,G.rm.gl.v,G.lks.v,G.cds.v,G.nts.v,.int .i64 G.tr,y.st.ths.v,y.st.prs.v,y.st.pls.v,y.rd.v,.bool f.st,.int .i64 f.si,.int .i64 f.pa,.int .i64 f.en,.int .i64 f.hi] 99,roS fun u=>PosOk u y,R] u) :
  Calls Tryz.prog 32 #[.pointer (some ⟨fb,0,none⟩),.agg #[.int .i64 m.p,.int .i64 m.k,.int .i64 m.n]] u (fun e u'=>∃ z:Pos,(z.x=(if (Jam G.p f.x m).1=0 then (Jam G.p f.x m).2 else f.x)∧∃ u0,PosOk u0 z)∧e = .returned (.bool (decide ((Jam G.p f.x m).1=0)))∧St w.heap.size w [blk fb [G.rm.pls.v,G.rm.ths.v,G.rm.prs.v,G.rm.wys.v,G.rm.acs.v,G.rm.aus.v,.int .i64 G.rm.ply,G.rm.gl.v,G.lks.v,G.cds.v,G.nts.v,.int .i64 G.tr,z.st.ths.v,z.st.prs.v,z.st.pls.v,z.rd.v,.bool f.st,.int .i64 f.si,.int .i64 f.pa,.int .i64 f.en,.int .i64 f.hi] 99,roS fun u=>PosOk u z,R] u'):=by
 refine Jd9 hu Tryz.func32 rfl rfl (Nat.le_of_ble_eq_true rfl) ?_
 refine Nz 0 ?_
 refine Wb 1 rfl rfl (fun _=>rfl) (fun _=>rfl) fun b3 hb3=>?_
 refine Wd (Qc (Cs ?_))
 refine CS.drawnAll (k:=16) mixed rfl rfl ?_
 refine Ar [0,1,2] ?_
 refine Ak 3 [4,5,6] rfl (Bc 1) ?_
 refine Ak 7 [] rfl (Bc 1) ?_
 refine Ak 8 [] rfl (Bb 0) ?_
 refine AS.two (i:=9) (j:=13) (by kernel_rfl) rfl rfl (by first | exact fun _ h=>h | exact fun _ h=>h.sub (by repeat first | exact List.Sublist.refl _ | apply List.Sublist.cons_cons | apply List.Sublist.cons)) rfl rfl ?_ ?_
 ·
  refine Wc rfl rfl J1x (fun u hu=>(by have q:=Jsf G u (hG.st hu) g (hW.st hu) hn y (hu.ro (j:=2) rfl) m; rw [hyx] at q; exact q)) (fun _=>rfl) ?_; rintro z ⟨hzx,uz,hzok⟩
  obtain ⟨hza,hzb,hzc⟩:=hzok.st.ones
  have hzd:=Sl.one hzok.rd
  refine Wd (Qa ?_)
  refine Ar [10,11,12] ?_
  refine Ao 13 rfl ?_
  refine Wl 0 zv97 (fun _=>rfl) (fun _=>rfl) fun b5 hb5=>?_
  refine Wd (Qa ?_)
  refine Ao 14 rfl ?_
  refine Wv 0 0 ?_
  refine Wd (Qa ?_)
  refine Ar [15] ?_
  refine Ae ?_
  refine Qc (Cs (Nz 2 ?_))
  refine Wd (Qc (CS.cond rfl ?_ ?_))<;>intro hc1<;>try simp only [bq] at hc1
  ·
   refine Nz 1 ?_
   exact Wd (Qc (Cr (Qr (out1 rfl rfl (fun u hu=>⟨y,⟨by rw [if_neg hc1]; exact hyx,u,hu.ro (j:=4) rfl⟩,by rw [decide_eq_false hc1],hu.sel [3,3,3] rfl⟩)))))
  refine Ck (Qc (Nz 1 ?_))
  refine Wk 2 (Bb 0) ?_
  refine WS.storeP rfl (j:=3) rfl rfl rfl (by simp [hza,hzb,hzc,hzd]) tk97 rfl rfl ?_
  refine Wd (Qc (Nz 1 ?_))
  exact Wd (Qc (Cr (out1 rfl rfl (fun u hu=>⟨z,⟨by rw [if_pos hc1]; exact hzx,u,hu.ro (j:=1) rfl⟩,by rw [decide_eq_true hc1],hu.sel [3,1,3] rfl⟩))))
 refine Wl 0 zv97 (fun _=>rfl) (fun _=>rfl) fun b5 hb5=>?_
 refine Wd (Qa ?_)
 refine Ao 9 rfl ?_
 refine Wc rfl rfl J1x (fun u hu=>(by have q:=Jsf G u (hG.st hu) g (hW.st hu) hn y (hu.ro (j:=3) rfl) m; rw [hyx] at q; exact q)) (fun _=>rfl) ?_; rintro z ⟨hzx,uz,hzok⟩
 obtain ⟨hza,hzb,hzc⟩:=hzok.st.ones
 have hzd:=Sl.one hzok.rd
 refine Wd (Qa ?_)
 refine Ar [10,11,12] ?_
 refine Ao 14 rfl ?_
 refine Wv 0 1 ?_
 refine Wd (Qa ?_)
 refine Ar [15] ?_
 refine Ae ?_
 refine Qc (Cs (Nz 2 ?_))
 refine Wd (Qc (CS.cond rfl ?_ ?_))<;>intro hc2<;>try simp only [bq] at hc2
 ·
  refine Nz 1 ?_
  exact Wd (Qc (Cr (Qr (out1 rfl rfl (fun u hu=>⟨y,⟨by rw [if_neg hc2]; exact hyx,u,hu.ro (j:=4) rfl⟩,by rw [decide_eq_false hc2],hu.sel [3,3,3] rfl⟩)))))
 refine Ck (Qc (Nz 1 ?_))
 refine Wk 2 (Bb 1) ?_
 refine WS.storeP rfl (j:=3) rfl rfl rfl (by simp [hza,hzb,hzc,hzd]) tk97 rfl rfl ?_
 refine Wd (Qc (Nz 1 ?_))
 exact Wd (Qc (Cr (out1 rfl rfl (fun u hu=>⟨z,⟨by rw [if_pos hc2]; exact hzx,u,hu.ro (j:=0) rfl⟩,by rw [decide_eq_true hc2],hu.sel [3,0,3] rfl⟩))))
end Go.Proofs.YtfbfdnoodccgiaaGreatDoor
