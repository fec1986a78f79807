/- Merged texts of this proof (walks and plain laws), printed by a program of the prover. -/
import Derived.Test.YtbboikncaihafaaGreatDoorXa
import Derived.Test.YtbboikncaihafaaGreatDoorZb
set_option maxHeartbeats 8000000
namespace Go.Proofs.YtbboikncaihafaaGreatDoor
open Go.RowKit Go.Proofs
set_option maxRecDepth 100000
set_option linter.unusedVariables false
set_option linter.unusedSimpArgs false
theorem Jfi:agq2 Tryz.prog 84=some [(0,0),(1,0),(2,0),(3,0),(4,0),(5,0),(6,0)]:=by kernel_rfl
theorem Jde (x y:Entr):cmps (cEntry.cells x) (cEntry.cells y) [(0,0),(1,0),(2,0),(3,0),(4,0),(5,0),(6,0)]=some (decide (x=y)):=by
 cases x with
 | mk xt xk xm xa xb =>
  cases y with
  | mk yt yk ym ya yb =>
   cases xm; cases ym
   simp only [cmps,cmp1,cEntry,List.getElem?_cons_zero,List.getElem?_cons_succ,Entr.mk.injEq,Move.mk.injEq]
   simp [and_assoc]
def RetT {α:Type} (C:Cel α) (w:World) (x:List α) (f:Value→Value):Ending→World→Prop:=fun e w'=>∃ v:Value,(∃ u0,SlT C u0 ⟨v,x⟩)∧RetF w (f v) (roT C ⟨v,x⟩) e w'
theorem retT {α:Type} {C:Cel α} {w0 u:World} {L:List SA} {e:TypeId} {j:Nat} {v:Value} {xs:List α} {f:Value→Value} (hC:∀ u,∀ a∈xs,C.ok u a) (hj:L[j]? = some (oT C e v xs)) (hu:St w0.heap.size w0 L u):RetT C w0 xs f (.returned (f v)) u :=
 ⟨v,⟨u,Jg1 hu hj (hC u)⟩,retR (fun S u h=>⟨Star.osl hj h,hC u⟩) u hu⟩
theorem Jgv {α:Type} {C:Cel α} {w0 u:World} {L:List SA} {f:Value→Value} (hu:St w0.heap.size w0 L u):RetT C w0 [] f (.returned (f (.slice none 0 0))) u :=
 ⟨_,⟨u,SlT.nil C u⟩,retR (fun S u h=>SlT.nil C u) u hu⟩
theorem Jc3 (n lo hi:Int) (w:World) :
  Calls Tryz.prog 77 #[.int .i64 n,.int .i64 lo,.int .i64 hi] w (RetB w (.bool (decide (lo≤n) && decide (n≤hi)))):=by
 refine enter Tryz.func77 rfl rfl (Nat.le_of_ble_eq_true rfl) ?_
 refine Nz 1 ?_
 refine Wd (Qc (Nz 4 ?_))
 refine Wt 0 rfl rfl (fun hg=>Fm) ?_
 refine Wt 0 rfl rfl (fun hg=>Fm) ?_
 refine Wt 0 rfl rfl (fun hg=>Fk) ?_
 refine Wk 1 Pa ?_
 exact Wd (Qc (Cr (out1 rfl rfl (Jab (by simp)))))
theorem Jk2 (n lo hi:Int) (w:World) :
  Calls Tryz.prog 82 #[.int .i64 n,.int .i64 lo,.int .i64 hi] w (RetB w (.bool (decide (lo≤n) && decide (n≤hi)))):=by
 refine enter Tryz.func82 rfl rfl (Nat.le_of_ble_eq_true rfl) ?_
 refine Nz 1 ?_
 refine Wd (Qc (Nz 4 ?_))
 refine Wt 0 rfl rfl (fun hg=>Fm) ?_
 refine Wt 0 rfl rfl (fun hg=>Fm) ?_
 refine Wt 0 rfl rfl (fun hg=>Fk) ?_
 refine Wk 1 Pa ?_
 exact Wd (Qc (Cr (out1 rfl rfl (Jab (by simp)))))
theorem Jeq (x:Entr) (w:World) :
  Calls Tryz.prog 227 #[.agg #[.int .i64 x.t,.int .i64 x.k,.int .i64 x.m.p,.int .i64 x.m.k,.int .i64 x.m.n,.int .i64 x.a,.int .i64 x.b]] w (RetB w (.bool (decide (x.m=mv0)))):=by
 refine enter Tryz.func227 rfl rfl (Nat.le_of_ble_eq_true rfl) ?_
 refine Nz 0 ?_
 refine Wb 1 rfl rfl (fun _=>rfl) (fun _=>rfl) fun b1 hb1=>?_
 refine Wd (Qc (Nz 1 ?_))
 refine Wk 0 (Bc 0) ?_
 refine Wk 0 (Db J1t zv54) ?_
 refine Wk 1 (Jol J4j rfl rfl (Js7 x.m mv0)) ?_
 exact Wd (Qc (Cr (out1 rfl rfl (Jab rfl))))
theorem J2v (x:Entr) (w:World) :
  Calls Tryz.prog 183 #[.agg #[.int .i64 x.t,.int .i64 x.k,.int .i64 x.m.p,.int .i64 x.m.k,.int .i64 x.m.n,.int .i64 x.a,.int .i64 x.b]] w (RetB w (.bool (Jc8 x))):=by
 refine enter Tryz.func183 rfl rfl (Nat.le_of_ble_eq_true rfl) ?_
 refine Nz 0 ?_
 refine Wb 1 rfl rfl (fun _=>rfl) (fun _=>rfl) fun b1 hb1=>?_
 refine Wd (Qc (Cs (Nz 1 ?_)))
 refine Wk 0 (Ba 0) ?_
 refine Wd (Qc (Ce (Nz 2 ?_)))
 refine Wd (Qc (CS.cond rfl ?_ ?_))<;>intro hc1<;>try simp only [bq] at hc1
 ·
  refine Nz 1 ?_
  refine Wk 2 (Ba 0) ?_
  refine Wt 0 rfl rfl (fun hg=>Ff) ?_
  refine Wt 0 rfl rfl (fun hg=>Ba 0) ?_
  refine Wt 0 rfl rfl (fun hg=>Fq) ?_
  refine Wk 1 Pa ?_
  exact Wd (Qc (Cr (Qs (Qr (out1 rfl rfl (Jab (by unfold Jc8; grind)))))))
 refine Nz 2 ?_
 refine Wd (Qc (CS.cond rfl ?_ ?_))<;>intro hc2<;>try simp only [bq] at hc2
 ·
  refine Nz 0 ?_
  refine Wk 0 (Bb 0) ?_
  refine Wk 1 (Cb rfl rfl Jo8 (fun u hu=>Jeq x u)) ?_
  refine Wt 0 rfl rfl (fun hg=>Ff) ?_
  refine Wt 0 rfl rfl (fun hg=>Ba 0) ?_
  refine Wt 0 rfl rfl (fun hg=>Fq) ?_
  refine Wk 1 Pa ?_
  exact Wd (Qc (Cr (Qs (Qr (out1 rfl rfl (Jab (by unfold Jc8; grind)))))))
 refine Cs (Nz 2 ?_)
 refine Wd (Qc (CS.cond rfl ?_ ?_))<;>intro hc3<;>try simp only [bq] at hc3
 ·
  refine Ck (Qc (CS.cond rfl ?_ ?_))<;>intro hc4<;>try simp only [bq] at hc4
  ·
   refine Nz 0 ?_
   refine Wk 0 (Bb 0) ?_
   refine Wk 1 (Cb rfl rfl Jo8 (fun u hu=>Jeq x u)) ?_
   refine Wt 0 rfl rfl (fun hg=>Ff) ?_
   refine Wt 0 rfl rfl (fun hg=>Ba 0) ?_
   refine Wt 0 rfl rfl (fun hg=>Fq) ?_
   refine Wk 1 Pa ?_
   refine Wt 0 rfl rfl (fun hg=>Ff) ?_
   refine Wt 0 rfl rfl (fun hg=>Ba 0) ?_
   refine Wt 0 rfl rfl (fun hg=>Fq) ?_
   refine Wk 1 Pa ?_
   exact Wd (Qc (Cr (Qs (Qr (out1 rfl rfl (Jab (by unfold Jc8; grind)))))))
  refine Nz 2 ?_
  refine Wd (Qc (CS.cond rfl ?_ ?_))<;>intro hc5<;>try simp only [bq] at hc5
  ·
   refine Nz 0 ?_
   refine Wk 0 (Bb 0) ?_
   refine Wk 1 (Cb rfl rfl Jo8 (fun u hu=>Jeq x u)) ?_
   exact Wd (Qc (Cr (Qs (Qr (out1 rfl rfl (Jab (by unfold Jc8; grind)))))))
  refine Ck (Qb (Qc (Nz 1 ?_)))
  exact Wd (Qc (Cr (out1 rfl rfl (Jab (by unfold Jc8; grind)))))
 refine Ny 2 ?_
 refine Wd (Qc (CS.cond rfl ?_ ?_))<;>intro hc6<;>try simp only [bq] at hc6
 ·
  refine Nz 0 ?_
  refine Wk 0 (Bb 0) ?_
  refine Wk 1 (Cb rfl rfl Jo8 (fun u hu=>Jeq x u)) ?_
  refine Wt 0 rfl rfl (fun hg=>Ff) ?_
  refine Wt 0 rfl rfl (fun hg=>Ba 0) ?_
  refine Wt 0 rfl rfl (fun hg=>Fq) ?_
  refine Wk 1 Pa ?_
  refine Wt 0 rfl rfl (fun hg=>Ff) ?_
  refine Wt 0 rfl rfl (fun hg=>Ba 0) ?_
  refine Wt 0 rfl rfl (fun hg=>Fq) ?_
  refine Wk 1 Pa ?_
  exact Wd (Qc (Cr (Qs (Qr (out1 rfl rfl (Jab (by unfold Jc8; grind)))))))
 refine Nz 2 ?_
 refine Wd (Qc (CS.cond rfl ?_ ?_))<;>intro hc7<;>try simp only [bq] at hc7
 ·
  refine Nz 0 ?_
  refine Wk 0 (Bb 0) ?_
  refine Wk 1 (Cb rfl rfl Jo8 (fun u hu=>Jeq x u)) ?_
  exact Wd (Qc (Cr (Qs (Qr (out1 rfl rfl (Jab (by unfold Jc8; grind)))))))
 refine Ck (Qb (Qc (Nz 1 ?_)))
 exact Wd (Qc (Cr (out1 rfl rfl (Jab (by unfold Jc8; grind)))))
theorem Jb4 (l:Sl Entr) (w:World) (hk:SlT cEntry w l) (hm:(l.l.length:Int)≤1000000) :
  Calls Tryz.prog 23 #[l.v] w (RetT cEntry w l.l fun v=>v):=by
 have hls:=hk.sp
 have hone:=hk.one
 refine enter Tryz.func23 rfl rfl (Nat.le_of_ble_eq_true rfl) ?_
 refine Nz 1 ?_
 refine Wd (Qc (Nz 0 ?_))
 refine WS.build0 sl67 zv84 (fun _=>rfl) ?_; intro v3
 refine Wz 1 ?_
 refine WS.append0 (j:=0) (news:=Jau cEntry l.l) (m:=l.l.length) sl67 zv84 rfl (by decide) rfl rfl rfl (fun u hu=>(hk.st hu).sp) hone (by omega) (by omega) (fun _=>rfl) (fun _=>rfl) ?_; intro v5
 refine Wz 1 ?_
 exact Wd (Qc (Cr (out1 rfl rfl (fun u hu=>retT (C:=cEntry) (f:=fun v=>v) (e:=84) (j:=0) (fun _ _ _=>trivial) rfl hu))))
theorem Kc6 (G:Game) (y:Pos) (f:Film) (fb:Nat) (e:TypeId) (w:World) (hb:BlkAt w fb [G.rm.pls.v,G.rm.ths.v,G.rm.prs.v,G.rm.wys.v,G.rm.acs.v,G.rm.aus.v,.int .i64 G.rm.ply,G.rm.gl.v,G.lks.v,G.cds.v,G.nts.v,.int .i64 G.tr,y.st.ths.v,y.st.prs.v,y.st.pls.v,y.rd.v,.bool f.st,.int .i64 f.si,.int .i64 f.pa,.int .i64 f.en,.int .i64 f.hi] e) (n:Int) (h1:0≤f.pa∧f.pa≤1000000) (h2:0≤n∧n≤1000000) (h3:f.st=false) :
  Calls Tryz.prog 186 #[.pointer (some ⟨fb,0,none⟩),.int .i64 n] w (RetB w (.int .i64 (n - f.pa))):=by
 refine enter Tryz.func186 rfl rfl (Nat.le_of_ble_eq_true rfl) ?_
 refine Nz 1 ?_
 refine Wd (Qc (Cs (Nz 3 ?_)))
 refine Wk 0 Ga ?_
 refine Wd (Qc (CS.cond rfl ?_ ?_))<;>intro hc1<;>try simp only [bq] at hc1
 ·
  exact absurd (h3.symm.trans hc1) (by decide)
 refine Ck (Qc (Nz 4 ?_))
 refine Wk 0 Ga ?_
 refine Wk 1 Zb ?_
 exact Wd (Qc (Cr (out1 rfl rfl (Jab rfl))))
theorem J38 (G:Game) (w:World) (hG:GameOk w G) (hn:NearG G) (g:Sl ByteArray) (hW:GOk w g) (y:Pos) (hy:PosOk w y) (f:Film) (hyx:y.x=f.x) (hq:posG G.p f.x=0) (fb:Nat) (e:TypeId) (hb:BlkAt w fb [G.rm.pls.v,G.rm.ths.v,G.rm.prs.v,G.rm.wys.v,G.rm.acs.v,G.rm.aus.v,.int .i64 G.rm.ply,G.rm.gl.v,G.lks.v,G.cds.v,G.nts.v,.int .i64 G.tr,y.st.ths.v,y.st.prs.v,y.st.pls.v,y.rd.v,.bool f.st,.int .i64 f.si,.int .i64 f.pa,.int .i64 f.en,.int .i64 f.hi] e) :
  Calls Tryz.prog 134 #[.pointer (some ⟨fb,0,none⟩)] w (RetB w (.bool (Jdu G.p f.x))):=by
 have hP:=Jei (p:=y) (by rw [hyx]; exact hq)
 have hS:stL G.rm y.st.x=0:=Jfv.2 ⟨hP.ck,hP.inn⟩
 have hgc:Jfx G.rm.ths.l G.rm.gl.l=true:=Jm6 (Jcs (Jh6 hP.ck)).2
 have hhv:HoldsV G.rm y.st.x G.rm.gl.l=(0,Jcd y.st.x.1 G.rm.gl.l):=(if_pos hS).trans (if_pos hgc)
 have hdx:Jdu G.p f.x=Jcd y.st.x.1 G.rm.gl.l:=by unfold Jdu; rw [← hyx, ← G.p_alike.gl]; rfl
 refine enter Tryz.func134 rfl rfl (Nat.le_of_ble_eq_true rfl) ?_
 refine Nz 1 ?_
 refine Wd (Qc (Cs (Dr Jah 4 ?_)))
 refine Dk 4 (Jit (n:=8) (cs:=[G.rm.pls.v,G.rm.ths.v,G.rm.prs.v,G.rm.wys.v,G.rm.acs.v,G.rm.aus.v,.int .i64 G.rm.ply,G.rm.gl.v]) rfl hb rfl rfl tk31) ?_
 refine Dk 0 (Jit (n:=3) (cs:=[y.st.ths.v,y.st.prs.v,y.st.pls.v]) rfl hb rfl rfl tk44) ?_
 refine Dk 5 (Cb rfl rfl J7n (fun u hu=>(by have q:=J5r G.rm u (hG.rm.st hu) g (hW.st hu) hn.rm y.st (hy.st.st hu); rw [hhv] at q; exact q))) ?_
 refine Dd (Qc (Nz 3 ?_))
 refine Wt 0 rfl rfl (fun hg=>Fm) ?_
 refine Wk 1 Pa ?_
 exact Wd (Qc (Cr (out1 rfl rfl (Jab (by rw [hdx]; simp)))))
theorem J59 {w u:World} (R:SA) (G:Game) (hG:GameOk w G) (hn:NearG G) (g:Sl ByteArray) (hW:GOk w g) (fb:Nat) (y:Pos) (f:Film) (hyx:y.x=f.x) (hq:posG G.p f.x=0) (m:Move) (hu:St w.heap.size w [blk fb [G.rm.pls.v,G.rm.ths.v,G.rm.prs.v,G.rm.wys.v,G.rm.acs.v,G.rm.aus.v,.int .i64 G.rm.ply,G.rm.gl.v,G.lks.v,G.cds.v,G.nts.v,.int .i64 G.tr,y.st.ths.v,y.st.prs.v,y.st.pls.v,y.rd.v,.bool f.st,.int .i64 f.si,.int .i64 f.pa,.int .i64 f.en,.int .i64 f.hi] 166,roS fun u=>PosOk u y,R] u) :
  Calls Tryz.prog 129 #[.pointer (some ⟨fb,0,none⟩),.agg #[.int .i64 m.p,.int .i64 m.k,.int .i64 m.n]] u (fun e u'=>∃ z:Pos,(z.x=(if (Jan G.p f.x m).1=0 then (Jan G.p f.x m).2 else f.x)∧∃ u0,PosOk u0 z)∧e = .returned (.bool (decide ((Jan G.p f.x m).1=0)))∧St w.heap.size w [blk fb [G.rm.pls.v,G.rm.ths.v,G.rm.prs.v,G.rm.wys.v,G.rm.acs.v,G.rm.aus.v,.int .i64 G.rm.ply,G.rm.gl.v,G.lks.v,G.cds.v,G.nts.v,.int .i64 G.tr,z.st.ths.v,z.st.prs.v,z.st.pls.v,z.rd.v,.bool f.st,.int .i64 f.si,.int .i64 f.pa,.int .i64 f.en,.int .i64 f.hi] 166,roS fun u=>PosOk u z,R] u'):=by
 refine Jb0 hu Tryz.func129 rfl rfl (Nat.le_of_ble_eq_true rfl) ?_
 refine Nz 0 ?_
 refine Wb 1 rfl rfl (fun _=>rfl) (fun _=>rfl) fun b3 hb3=>?_
 refine Wd (Qc (Cs ?_))
 refine CS.drawnAll (k:=16) Jah rfl rfl ?_
 refine Ar [0,1,2] ?_
 refine Ak 3 [4,5,6] rfl (Bc 1) ?_
 refine Ak 7 [] rfl (Bc 1) ?_
 refine Ak 8 [] rfl (Bb 0) ?_
 refine AS.two (i:=9) (j:=13) (by kernel_rfl) rfl rfl (by first | exact fun _ h=>h | exact fun _ h=>h.sub (by repeat first | exact List.Sublist.refl _ | apply List.Sublist.cons_cons | apply List.Sublist.cons)) rfl rfl ?_ ?_
 ·
  refine Wc rfl rfl Kam (fun u hu=>(by have q:=Jwk G u (hG.st hu) g (hW.st hu) hn y (hu.ro (j:=2) rfl) m; rw [hyx] at q; exact q)) (fun _=>rfl) ?_; rintro z ⟨hzx,uz,hzok⟩
  obtain ⟨hza,hzb,hzc⟩:=hzok.st.ones
  have hzd:=Sl.one hzok.rd
  refine Wd (Qa ?_)
  refine Ar [10,11,12] ?_
  refine Ao 13 rfl ?_
  refine Wl 0 zv47 (fun _=>rfl) (fun _=>rfl) fun b5 hb5=>?_
  refine Wd (Qa ?_)
  refine Ao 14 rfl ?_
  refine Wv 0 0 ?_
  refine Wd (Qa ?_)
  refine Ar [15] ?_
  refine Ae ?_
  refine Qc (Cs (Nz 2 ?_))
  refine Wd (Qc (CS.cond rfl ?_ ?_))<;>intro hc1<;>try simp only [bq] at hc1
  ·
   refine Nz 1 ?_
   exact Wd (Qc (Cr (Qr (out1 rfl rfl (fun u hu=>⟨y,⟨by rw [if_neg hc1]; exact hyx,u,hu.ro (j:=4) rfl⟩,by rw [decide_eq_false hc1],hu.sel [3,3,3] rfl⟩)))))
  refine Ck (Qc (Nz 1 ?_))
  refine Wk 2 (Bb 0) ?_
  refine WS.storeP rfl (j:=3) rfl rfl rfl (by simp [hza,hzb,hzc,hzd]) tk47 rfl rfl ?_
  refine Wd (Qc (Nz 1 ?_))
  exact Wd (Qc (Cr (out1 rfl rfl (fun u hu=>⟨z,⟨by rw [if_pos hc1]; exact hzx,u,hu.ro (j:=1) rfl⟩,by rw [decide_eq_true hc1],hu.sel [3,1,3] rfl⟩))))
 refine Wl 0 zv47 (fun _=>rfl) (fun _=>rfl) fun b5 hb5=>?_
 refine Wd (Qa ?_)
 refine Ao 9 rfl ?_
 refine Wc rfl rfl Kam (fun u hu=>(by have q:=Jwk G u (hG.st hu) g (hW.st hu) hn y (hu.ro (j:=3) rfl) m; rw [hyx] at q; exact q)) (fun _=>rfl) ?_; rintro z ⟨hzx,uz,hzok⟩
 obtain ⟨hza,hzb,hzc⟩:=hzok.st.ones
 have hzd:=Sl.one hzok.rd
 refine Wd (Qa ?_)
 refine Ar [10,11,12] ?_
 refine Ao 14 rfl ?_
 refine Wv 0 1 ?_
 refine Wd (Qa ?_)
 refine Ar [15] ?_
 refine Ae ?_
 refine Qc (Cs (Nz 2 ?_))
 refine Wd (Qc (CS.cond rfl ?_ ?_))<;>intro hc2<;>try simp only [bq] at hc2
 ·
  refine Nz 1 ?_
  exact Wd (Qc (Cr (Qr (out1 rfl rfl (fun u hu=>⟨y,⟨by rw [if_neg hc2]; exact hyx,u,hu.ro (j:=4) rfl⟩,by rw [decide_eq_false hc2],hu.sel [3,3,3] rfl⟩)))))
 refine Ck (Qc (Nz 1 ?_))
 refine Wk 2 (Bb 1) ?_
 refine WS.storeP rfl (j:=3) rfl rfl rfl (by simp [hza,hzb,hzc,hzd]) tk47 rfl rfl ?_
 refine Wd (Qc (Nz 1 ?_))
 exact Wd (Qc (Cr (out1 rfl rfl (fun u hu=>⟨z,⟨by rw [if_pos hc2]; exact hzx,u,hu.ro (j:=0) rfl⟩,by rw [decide_eq_true hc2],hu.sel [3,0,3] rfl⟩))))
end Go.Proofs.YtbboikncaihafaaGreatDoor
