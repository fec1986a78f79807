/- Merged texts of this proof (walks and plain laws), printed by a program of the prover. -/
import Derived.Test.YtkekjhcmephhjaaGreatDoorZj
set_option maxHeartbeats 8000000
namespace Go.Proofs.YtkekjhcmephhjaaGreatDoor
open Go.RowKit Go.Proofs
set_option maxRecDepth 100000
set_option linter.unusedVariables false
set_option linter.unusedSimpArgs false
def RlL {α:Type} (C:Cel α) (w:World) (R:SA) (lb rb:Nat) (s:RlS) (spec:Option (List α × Wds)):Ending→World→Prop :=
 RetX (β:=RlS × Sl α) w R [] (fun x=>x.1.r=s.r∧x.1.ws.l <:+ s.ws.l∧Rel s.bad spec x.2.l x.1.ws.l x.1.bad∧∃ u0,SlT C u0 x.2) False (fun x=>x.2.v) (fun x=>star [rl lb rb x.1,roT C x.2])
theorem RlL.lw {α:Type} {C:Cel α} {w u:World} {Ls:List SA} {lb rb:Nat} {s:RlS} {spec:Option (List α × Wds)} {f:FuncId} {args:Array Value} (h:Calls Tryz.prog f args u (RlL C w (star Ls) lb rb s spec)) :
  Calls Tryz.prog f args u (fun e u'=>(∃ x:(Sl ByteArray × Bool) × Sl α,(Rel s.bad spec x.2.l x.1.1.l x.1.2∧x.1.1.l <:+ s.ws.l∧∃ u0,SlT C u0 x.2)∧e = .returned x.2.v∧St w.heap.size w (rl lb rb ⟨s.r,x.1.1,x.1.2⟩::roT C x.2::Ls) u')∨(False∧e = .panicked []∧St w.heap.size w Ls u')):=by
 refine (RetX.ls2 h).mono ?_
 rintro e u' (⟨⟨s1,x⟩,⟨h1,h2,h3,h6⟩,h4,h5⟩ | h)
 ·
  refine .inl ⟨((s1.ws,s1.bad),x),⟨h3,h2,h6⟩,h4,?_⟩
  rw [← show s1.r=s.r from h1]; exact h5
 exact .inr h
theorem Jmj {α:Type} {C:Cel α} {w0 u:World} {R:SA} {lb rb:Nat} {s:RlS} {spec:Option (List α × Wds)} {x:Sl α} {ws:Sl ByteArray} {b:Bool} (h:Rel s.bad spec x.l ws.l b) (hs:ws.l <:+ s.ws.l) (hx:∃ u0,SlT C u0 x) (hu:St w0.heap.size w0 [rl lb rb ⟨s.r,ws,b⟩,roT C x,R] u):RlL C w0 R lb rb s spec (.returned x.v) u :=
 .inl ⟨(⟨s.r,ws,b⟩,x),⟨rfl,hs,h,hx⟩,rfl,St.pack (L1:=[rl lb rb ⟨s.r,ws,b⟩,roT C x]) hu⟩
theorem Jw6 {α:Type} {C:Cel α} {n0:Nat} {w0 u:World} {e:TypeId} {v:Value} {xs:List α} {A R:SA} (hC:∀ u,∀ a∈xs,C.ok u a) (h:St n0 w0 [A,oT C e v xs,R] u):St n0 w0 [A,roT C ⟨v,xs⟩,R] u:=by
 have h2:=h.perm (.swap _ _ _)
 have h3:=St.toRo (p:=fun u=>SlT C u ⟨v,xs⟩) (fun S u h=>⟨Star.osl (L:=[oT C e v xs]) (j:=0) rfl ⟨S,fun _ h=>h,h,trivial⟩,hC u⟩) h2
 exact h3.perm (.swap _ _ _)
theorem RlS.sub {s:RlS} (hz:s.ok) {w:Sl ByteArray} (h:w.l <:+ s.ws.l) (b:Bool):RlS.ok ⟨s.r,w,b⟩:=⟨fun y hy=>hz.sz y (h.subset hy),Nat.le_trans h.length_le hz.len⟩
theorem Jx6 {ths:List Thing} {ws w:Wds} {a:Lit} (h:litW ths true ws=some (a,w)):∃ t,Jbq ws=some (t,w)∧litT ths t=some a:=by
 simp only [litW,Option.bind_eq_some_iff] at h
 obtain ⟨⟨t,r⟩,h1,a',h2,h3⟩:=h
 simp only [Bool.not_true,Bool.and_false,Bool.false_eq_true,if_false,Option.some.injEq,Prod.mk.injEq] at h3
 obtain ⟨rfl,rfl⟩:=h3
 exact ⟨t,h1,h2⟩
theorem Jhc {ths:List Thing} {bad b2:Bool} {ws w2:Wds} {a:Lit} (hm:Jhy bad ws=true) (h:Rel bad (litW ths true ws) a w2 b2) :
  (b2=false→Jbv ths ws=((Jbv ths w2).map fun x=>(a::x.1,x.2))∧ws.length=w2.length+1)∧(b2=true→Jbv ths ws=none):=by
 obtain ⟨h1,h2,h3⟩:=Jc4 hm
 refine ⟨fun hb=>?_,fun hb=>?_⟩
 ·
  obtain ⟨t,h4,h5⟩:=Jx6 (h.ok h1 hb)
  exact ⟨Jfy h4 h3 h5,Jgj h4⟩
 have h4:=h.no h1 hb
 have h5:=Jde h2
 refine Jh1 h5 h3 ?_
 rw [litW,h5] at h4
 cases hl:litT ths (nth ws 0) with
 | none=>rfl
 | some a=>simp [hl] at h4
theorem Jj7 {prs:List Pro} {bad b2:Bool} {ws w2:Wds} {i:Int} (hm:Jhy bad ws=true) (h:Rel bad (Jbc Pro.nm prs ws) i w2 b2) :
  (b2=false→Jbp prs ws=((Jbp prs w2).map fun x=>(i::x.1,x.2))∧ws.length=w2.length+1)∧(b2=true→Jbp prs ws=none):=by
 obtain ⟨h1,h2,h3⟩:=Jc4 hm
 exact ⟨fun hb=>⟨Jjg h3 (h.ok h1 hb),Jg5 (h.ok h1 hb)⟩,fun hb=>Jjr h2 h3 (h.no h1 hb)⟩
theorem Jrh {l:List Pro} {nm:ByteArray} {k:Int × Int} (hc:seq (nth l k.1).nm nm=false) (h:(k.2 = -1∧∀ j:Int,k.1 < j→j < l.length→seq (nth l j).nm nm=false)∨(k.1 < k.2∧k.2 < l.length∧seq (nth l k.2).nm nm=true∧∀ j:Int,k.1 < j→j < k.2→seq (nth l j).nm nm=false)) :
  (k.2 = -1∧∀ j:Int,k.1 - 1 < j→j < l.length→seq (nth l j).nm nm=false)∨(k.1 - 1 < k.2∧k.2 < l.length∧seq (nth l k.2).nm nm=true∧∀ j:Int,k.1 - 1 < j→j < k.2→seq (nth l j).nm nm=false):=by
 rcases h with ⟨h1,h2⟩ | ⟨h1,h2,h3,h4⟩
 ·
  refine .inl ⟨h1,fun j a b=>?_⟩
  rcases (show j=k.1∨k.1 < j by omega) with e | e
  ·
   rw [e]; exact hc
  exact h2 j e b
 refine .inr ⟨by omega,h2,h3,fun j a b=>?_⟩
 rcases (show j=k.1∨k.1 < j by omega) with e | e
 ·
  rw [e]; exact hc
 exact h4 j e b
theorem Jsi {l:List Pro} {nm:ByteArray} {k:Int × Int} (hk:k.1 = -1) (h:(k.2 = -1∧∀ j:Int,k.1 < j→j < l.length→seq (nth l j).nm nm=false)∨(k.1 < k.2∧k.2 < l.length∧seq (nth l k.2).nm nm=true∧∀ j:Int,k.1 < j→j < k.2→seq (nth l j).nm nm=false)) :
  (k.2 = -1∧idxN Pro.nm l nm = -1)∨(0≤k.2∧idxN Pro.nm l nm=k.2):=by
 rcases h with ⟨h1,h2⟩ | ⟨h1,h2,h3,h4⟩
 ·
  refine .inl ⟨h1,?_⟩
  unfold idxN
  exact Jba (p:=fun x:Pro=>seq x.nm nm) (xs:=l) fun j a b=>h2 j (by omega) b
 refine .inr ⟨by omega,?_⟩
 unfold idxN
 exact Ja4 (p:=fun x:Pro=>seq x.nm nm) (xs:=l) (by omega) h2 (fun j a b=>h4 j (by omega) b) h3
theorem Jh5 {bad b2:Bool} {ws w2:Wds} {p:Prop} (hb:bad=false) (h:b2=false→p∧ws.length=w2.length+1) (hs:w2 <:+ ws):2 * w2.length+(if b2 then 0 else 1) < 2 * ws.length+(if bad then 0 else 1):=by
 have:=hs.length_le
 subst hb
 cases hb2:b2 with
 | true=>simp; omega
 | false=>have:=(h hb2).2; simp; omega
theorem If_c {w u:World} (R:SA) (lb rb:Nat) (sx:RlS) (hu:St w.heap.size w [rl lb rb sx,R] u) (hz:sx.ok) :
  Calls Tryz.prog 94 #[.pointer (some ⟨lb,0,none⟩)] u (RlL cLit w R lb rb sx (Jfb sx.r.ths.l sx.ws.l)):=by
 refine Jbf hu Tryz.func94 rfl rfl (Nat.le_of_ble_eq_true rfl) ?_
 refine Nz 1 ?_
 refine Wd (Qc (Cs (Nz 1 ?_)))
 refine WS.callP rfl rfl Jmw (fun u hu=>RlX.lw (Is_c (star _) lb rb sx (St.tailPack hu) ifW)) (fun _=>rfl) (fun hq u hu=>hq.elim) ?_; rintro ⟨⟨w1,b1⟩,c⟩ ⟨hr1,hx1,_⟩
 refine Wz 1 ?_
 refine Wd (Qc (CS.cond rfl ?_ ?_))<;>intro hc1<;>try simp only [bq] at hc1
 ·
  subst hc1
  refine Nz 1 ?_
  exact Wd (Qc (Cr (Qr (out1 rfl rfl (fun u hu=>Jmj (x:=⟨.slice none 0 0,[]⟩) (Jgn hr1) hx1 ⟨u,SlT.nil _ _⟩ (Jrc cLit hu))))))
 subst hc1
 refine Ck (Qc (Nz 1 ?_))
 refine Wd (Qc (Cs (Ce ?_)))
 refine CS.weak (fun _ hu=>hu.osl0 (e:=96) (size:=3)) ?_
 refine CS.sel [1,0,0] rfl ?_
 refine CS.loopM (σ:=(Sl ByteArray × Bool) × Value × List Lit) [7,8,9,10,11,12,13] (fun s=>[(3,s.2.1)]) (fun s=>[rl lb rb ⟨sx.r,s.1.1,s.1.2⟩,oT cLit 96 s.2.1 s.2.2,R]) (fun s=>LoopI b1 (Jbv sx.r.ths.l) w1.l s.2.2 s.1.1.l s.1.2) (fun s=>2 * s.1.1.l.length+(if s.1.2 then 0 else 1)) ((w1,b1),.slice none 0 0,[]) (fun _ _=>rfl) rfl rfl (LoopI.start _ _ _) ?_
 intro q t hs
 have hqi:=hs
 have hzq:RlS.ok ⟨sx.r,q.1.1,q.1.2⟩:=RlS.sub hz (hqi.sf.trans hx1) q.1.2
 have hlm:=hqi.lm
 have hln:=(RlS.sub hz hx1 b1).len
 have hll:q.2.2.length≤65537:=Nat.le_trans hlm hln
 refine Cs (Nz 1 ?_)
 refine WS.callP rfl rfl Jq1 (fun u hu=>RetX.ls (Jlp (star _) lb rb ⟨sx.r,q.1.1,q.1.2⟩ (St.tailPack hu) hzq)) (fun _=>rfl) (fun hq u hu=>hq.elim) ?_; rintro ⟨⟩ _
 refine Wd (Qc (CS.cond rfl ?_ ?_))<;>intro hc2<;>try simp only [bq] at hc2
 ·
  refine Ck (Qc (Ce (Ny 2 ?_)))
  refine WS.callP rfl rfl Jr8 (fun u hu=>RlX.lw (Jet (star _) lb rb ⟨sx.r,q.1.1,q.1.2⟩ (St.tailPack hu) hzq true)) (fun _=>rfl) (fun hq u hu=>hq.elim) ?_; rintro ⟨⟨w2,b2⟩,a⟩ ⟨hr2,hx2,_⟩
  have hst:=Jhc hc2 hr2
  have hmy:=Jc4 hc2
  refine WS.buildT1 cLit (a:=a) sl29 zv96 rfl (by decide) (fun _=>rfl) ?_; intro v12
  refine WS.appendT1 (C:=cLit) (a:=a) (j:=2) (jz:=0) sl29 zv96 rfl (by decide) rfl rfl rfl rfl (w:=w) trivial (by omega) (by omega) (fun _=>rfl) (fun _=>rfl) ?_; intro v13 hv13
  refine Wz 1 ?_
  refine Wd (Qb ?_)
  refine QS.sel [1,1,1] rfl ?_
  exact QS.head (((w2,b2),v13,q.2.2++[a])) rfl rfl ⟨hqi.step hmy.1 hmy.2.1 hx2 hst.1 hst.2,Jh5 hmy.1 hst.1 hx2⟩
 have hfin:=hqi.fin fun hb=>Jdk (Jh6 hc2 hb)
 refine Cv (Qe (Qe (Qx (Qc ?_))))
 refine CS.cut (σ:=Bool) [14,15,16,17,18,19] (fun s=>[]) (fun s=>[rl lb rb ⟨sx.r,q.1.1,s⟩,oT cLit 96 q.2.1 q.2.2,R]) (fun s=>Rel sx.bad (Jfb sx.r.ths.l sx.ws.l) q.2.2 q.1.1.l s) (fun _ _=>rfl) ?_ ?_
 ·
  refine Nz 1 ?_
  refine Wk 1 (Jci (j:=1) sl29 rfl rfl) ?_
  refine Wd (Qc (CS.cond rfl ?_ ?_))<;>intro hc3<;>try simp only [bq] at hc3
  ·
   have hnl:q.2.2=[]:=List.length_eq_zero_iff.1 (by omega)
   refine Ny 3 ?_
   refine WS.weak (fun u hu=>St.unpack (L1:=Jaj lb rb ⟨sx.r,q.1.1,q.1.2⟩) hu) ?_
   first | refine WS.store (j:=0) rfl rfl (by first | decide | omega | (simp; done) | (simp; omega) | exact Nat.le_of_ble_eq_true rfl) rfl (by first | rfl | assumption) tk4 rfl rfl ?_ | refine WS.store (j:=0) rfl rfl (by first | decide | omega | (simp; done) | (simp; omega) | exact Nat.le_of_ble_eq_true rfl) rfl (by first | rfl | assumption) tk4 (Jab _ _ _) rfl ?_ | refine WS.store (j:=1) rfl rfl (by first | decide | omega | (simp; done) | (simp; omega) | exact Nat.le_of_ble_eq_true rfl) rfl (by first | rfl | assumption) tk4 rfl rfl ?_ | refine WS.store (j:=1) rfl rfl (by first | decide | omega | (simp; done) | (simp; omega) | exact Nat.le_of_ble_eq_true rfl) rfl (by first | rfl | assumption) tk4 (Jab _ _ _) rfl ?_ | refine WS.store (j:=2) rfl rfl (by first | decide | omega | (simp; done) | (simp; omega) | exact Nat.le_of_ble_eq_true rfl) rfl (by first | rfl | assumption) tk4 rfl rfl ?_ | refine WS.store (j:=2) rfl rfl (by first | decide | omega | (simp; done) | (simp; omega) | exact Nat.le_of_ble_eq_true rfl) rfl (by first | rfl | assumption) tk4 (Jab _ _ _) rfl ?_ | refine WS.store (j:=3) rfl rfl (by first | decide | omega | (simp; done) | (simp; omega) | exact Nat.le_of_ble_eq_true rfl) rfl (by first | rfl | assumption) tk4 rfl rfl ?_ | refine WS.store (j:=3) rfl rfl (by first | decide | omega | (simp; done) | (simp; omega) | exact Nat.le_of_ble_eq_true rfl) rfl (by first | rfl | assumption) tk4 (Jab _ _ _) rfl ?_ | refine WS.store (j:=4) rfl rfl (by first | decide | omega | (simp; done) | (simp; omega) | exact Nat.le_of_ble_eq_true rfl) rfl (by first | rfl | assumption) tk4 rfl rfl ?_ | refine WS.store (j:=4) rfl rfl (by first | decide | omega | (simp; done) | (simp; omega) | exact Nat.le_of_ble_eq_true rfl) rfl (by first | rfl | assumption) tk4 (Jab _ _ _) rfl ?_ | refine WS.store (j:=5) rfl rfl (by first | decide | omega | (simp; done) | (simp; omega) | exact Nat.le_of_ble_eq_true rfl) rfl (by first | rfl | assumption) tk4 rfl rfl ?_ | refine WS.store (j:=5) rfl rfl (by first | decide | omega | (simp; done) | (simp; omega) | exact Nat.le_of_ble_eq_true rfl) rfl (by first | rfl | assumption) tk4 (Jab _ _ _) rfl ?_ | refine WS.store (j:=6) rfl rfl (by first | decide | omega | (simp; done) | (simp; omega) | exact Nat.le_of_ble_eq_true rfl) rfl (by first | rfl | assumption) tk4 rfl rfl ?_ | refine WS.store (j:=6) rfl rfl (by first | decide | omega | (simp; done) | (simp; omega) | exact Nat.le_of_ble_eq_true rfl) rfl (by first | rfl | assumption) tk4 (Jab _ _ _) rfl ?_ | refine WS.store (j:=7) rfl rfl (by first | decide | omega | (simp; done) | (simp; omega) | exact Nat.le_of_ble_eq_true rfl) rfl (by first | rfl | assumption) tk4 rfl rfl ?_ | refine WS.store (j:=7) rfl rfl (by first | decide | omega | (simp; done) | (simp; omega) | exact Nat.le_of_ble_eq_true rfl) rfl (by first | rfl | assumption) tk4 (Jab _ _ _) rfl ?_ | refine WS.store (j:=8) rfl rfl (by first | decide | omega | (simp; done) | (simp; omega) | exact Nat.le_of_ble_eq_true rfl) rfl (by first | rfl | assumption) tk4 rfl rfl ?_ | refine WS.store (j:=8) rfl rfl (by first | decide | omega | (simp; done) | (simp; omega) | exact Nat.le_of_ble_eq_true rfl) rfl (by first | rfl | assumption) tk4 (Jab _ _ _) rfl ?_ | refine WS.store (j:=9) rfl rfl (by first | decide | omega | (simp; done) | (simp; omega) | exact Nat.le_of_ble_eq_true rfl) rfl (by first | rfl | assumption) tk4 rfl rfl ?_ | refine WS.store (j:=9) rfl rfl (by first | decide | omega | (simp; done) | (simp; omega) | exact Nat.le_of_ble_eq_true rfl) rfl (by first | rfl | assumption) tk4 (Jab _ _ _) rfl ?_ | refine WS.store (j:=10) rfl rfl (by first | decide | omega | (simp; done) | (simp; omega) | exact Nat.le_of_ble_eq_true rfl) rfl (by first | rfl | assumption) tk4 rfl rfl ?_ | refine WS.store (j:=10) rfl rfl (by first | decide | omega | (simp; done) | (simp; omega) | exact Nat.le_of_ble_eq_true rfl) rfl (by first | rfl | assumption) tk4 (Jab _ _ _) rfl ?_ | refine WS.store (j:=11) rfl rfl (by first | decide | omega | (simp; done) | (simp; omega) | exact Nat.le_of_ble_eq_true rfl) rfl (by first | rfl | assumption) tk4 rfl rfl ?_ | refine WS.store (j:=11) rfl rfl (by first | decide | omega | (simp; done) | (simp; omega) | exact Nat.le_of_ble_eq_true rfl) rfl (by first | rfl | assumption) tk4 (Jab _ _ _) rfl ?_ | refine WS.store (j:=12) rfl rfl (by first | decide | omega | (simp; done) | (simp; omega) | exact Nat.le_of_ble_eq_true rfl) rfl (by first | rfl | assumption) tk4 rfl rfl ?_ | refine WS.store (j:=12) rfl rfl (by first | decide | omega | (simp; done) | (simp; omega) | exact Nat.le_of_ble_eq_true rfl) rfl (by first | rfl | assumption) tk4 (Jab _ _ _) rfl ?_ | refine WS.store (j:=13) rfl rfl (by first | decide | omega | (simp; done) | (simp; omega) | exact Nat.le_of_ble_eq_true rfl) rfl (by first | rfl | assumption) tk4 rfl rfl ?_ | refine WS.store (j:=13) rfl rfl (by first | decide | omega | (simp; done) | (simp; omega) | exact Nat.le_of_ble_eq_true rfl) rfl (by first | rfl | assumption) tk4 (Jab _ _ _) rfl ?_
   refine WS.weak (fun u hu=>St.pack (L1:=Jaj lb rb ⟨sx.r,q.1.1,true⟩) hu) ?_
   exact Wd (QS.head (true) rfl rfl (Jh7 hr1 hfin hnl))
  have hnn:q.2.2≠[]:=fun h=>by rw [h] at hc3; exact hc3 rfl
  exact Ck (QS.head (q.1.2) rfl rfl (Jig hr1 hfin hnn))
 intro z t hs
 have hz9:=hs
 refine Nz 2 ?_
 exact Wd (Qc (Cr (out1 rfl rfl (fun u hu=>Jmj (x:=⟨q.2.1,q.2.2⟩) hz9 (hqi.sf.trans hx1) ⟨u,Jcp hu (j:=1) rfl fun _ _=>trivial⟩ (Jw6 (fun _ _ _=>trivial) hu)))))
theorem Jkj {w u:World} (R:SA) (lb rb:Nat) (sx:RlS) (hu:St w.heap.size w [rl lb rb sx,R] u) (hz:sx.ok) (t0:ByteArray) :
  Calls Tryz.prog 95 #[.pointer (some ⟨lb,0,none⟩),.string t0] u (RlL cInt w R lb rb sx (Jdq sx.r.prs.l t0 sx.ws.l)):=by
 refine Jbf hu Tryz.func95 rfl rfl (Nat.le_of_ble_eq_true rfl) ?_
 refine Nz 1 ?_
 refine Wd (Qc (Cs (Nz 2 ?_)))
 refine WS.callP rfl rfl Jmw (fun u hu=>RlX.lw (Is_c (star _) lb rb sx (St.tailPack hu) t0)) (fun _=>rfl) (fun hq u hu=>hq.elim) ?_; rintro ⟨⟨w1,b1⟩,c⟩ ⟨hr1,hx1,_⟩
 refine Wz 1 ?_
 refine Wd (Qc (CS.cond rfl ?_ ?_))<;>intro hc1<;>try simp only [bq] at hc1
 ·
  subst hc1
  refine Nz 1 ?_
  exact Wd (Qc (Cr (Qr (out1 rfl rfl (fun u hu=>Jmj (x:=⟨.slice none 0 0,[]⟩) (Jgn hr1) hx1 ⟨u,SlT.nil _ _⟩ (Jrc cInt hu))))))
 subst hc1
 refine Ck (Qc (Nz 1 ?_))
 refine Wd (Qc (Cs (Ce ?_)))
 refine CS.weak (fun _ hu=>hu.osl0 (e:=3) (size:=1)) ?_
 refine CS.sel [1,0,0] rfl ?_
 refine CS.loopM (σ:=(Sl ByteArray × Bool) × Value × List Int) [6,7,8,13,14,15,16,17,18,19,20,21,22,23,24,25,26,27,28,29,30,31,32,33,34,35,36,37,38,39,40,41,42,43,44,45,46,47,48,49,50,51,52] (fun s=>[(5,s.2.1)]) (fun s=>[rl lb rb ⟨sx.r,s.1.1,s.1.2⟩,oT cInt 3 s.2.1 s.2.2,R]) (fun s=>LoopI b1 (Jbp sx.r.prs.l) w1.l s.2.2 s.1.1.l s.1.2) (fun s=>2 * s.1.1.l.length+(if s.1.2 then 0 else 1)) ((w1,b1),.slice none 0 0,[]) (fun _ _=>rfl) rfl rfl (LoopI.start _ _ _) ?_
 intro q t hs
 have hqi:=hs
 have hzq:RlS.ok ⟨sx.r,q.1.1,q.1.2⟩:=RlS.sub hz (hqi.sf.trans hx1) q.1.2
 have hlm:=hqi.lm
 have hln:=(RlS.sub hz hx1 b1).len
 have hll:q.2.2.length≤65537:=Nat.le_trans hlm hln
 refine Cs (Nz 1 ?_)
 refine WS.callP rfl rfl Jq1 (fun u hu=>RetX.ls (Jlp (star _) lb rb ⟨sx.r,q.1.1,q.1.2⟩ (St.tailPack hu) hzq)) (fun _=>rfl) (fun hq u hu=>hq.elim) ?_; rintro ⟨⟩ _
 refine Wd (Qc (CS.cond rfl ?_ ?_))<;>intro hc2<;>try simp only [bq] at hc2
 ·
  have hmy:=Jc4 hc2
  refine Ck (Qc (Ce (Nz 1 ?_)))
  refine WS.callP rfl rfl Jne (fun u hu=>RlX.lw (Jg3 (star _) lb rb ⟨sx.r,q.1.1,q.1.2⟩ (St.tailPack hu) hzq)) (fun _=>rfl) (fun hq u hu=>hq.elim) ?_; rintro ⟨⟨w2,b2⟩,nm⟩ ⟨hr2,hx2,_⟩
  refine Wz 1 ?_
  refine Wd (Qc (Nz 1 ?_))
  refine Wd (Qc (Cs (Cs ?_)))
  refine CS.weak (fun u hu=>St.unpack (L1:=Jaj lb rb ⟨sx.r,w2,b2⟩) hu) ?_
  refine CS.stE fun hst=>?_
  obtain ⟨up,hup⟩:=hst
  have hpr:SlT cPro up sx.r.prs:=Jwr (lb:=lb) (rb:=rb) (s:=⟨sx.r,w2,b2⟩) hup
  have hlp:sx.r.prs.l.length≤9223372036854775807:=hpr.le
  refine Ny 3 ?_
  refine Wk 2 (by first | exact Jaa (j:=0) rfl rfl rfl tk61 | exact Jaa (j:=1) rfl rfl rfl tk61 | exact Jaa (j:=2) rfl rfl rfl tk61 | exact Jaa (j:=3) rfl rfl rfl tk61 | exact Jaa (j:=4) rfl rfl rfl tk61 | exact Jaa (j:=5) rfl rfl rfl tk61 | exact Jaa (j:=6) rfl rfl rfl tk61 | exact Jaa (j:=7) rfl rfl rfl tk61 | exact Jaa (j:=8) rfl rfl rfl tk61 | exact Jaa (j:=9) rfl rfl rfl tk61 | exact Jaa (j:=10) rfl rfl rfl tk61 | exact Jaa (j:=11) rfl rfl rfl tk61 | exact Jaa (j:=12) rfl rfl rfl tk61 | exact Jaa (j:=13) rfl rfl rfl tk61 | exact Jah rfl (by assumption) rfl tk61) ?_
  refine Wk 0 (by first | exact Jaa (j:=0) rfl rfl rfl tk25 | exact Jaa (j:=1) rfl rfl rfl tk25 | exact Jaa (j:=2) rfl rfl rfl tk25 | exact Jaa (j:=3) rfl rfl rfl tk25 | exact Jaa (j:=4) rfl rfl rfl tk25 | exact Jaa (j:=5) rfl rfl rfl tk25 | exact Jaa (j:=6) rfl rfl rfl tk25 | exact Jaa (j:=7) rfl rfl rfl tk25 | exact Jaa (j:=8) rfl rfl rfl tk25 | exact Jaa (j:=9) rfl rfl rfl tk25 | exact Jaa (j:=10) rfl rfl rfl tk25 | exact Jaa (j:=11) rfl rfl rfl tk25 | exact Jaa (j:=12) rfl rfl rfl tk25 | exact Jaa (j:=13) rfl rfl rfl tk25 | exact Jah rfl (by assumption) rfl tk25) ?_
  refine Wk 0 (Jci (j:=5) sl25 rfl rfl) ?_
  refine Wk 1 (Jj3 rfl rfl (by (try simp only); omega)) ?_
  refine Wd (Qc (Ce ?_))
  refine CS.loopM (σ:=Int × Int) [26,27,28,29,30,31,32,33,34,35,36,37,38,39,40,41,42,43] (fun s=>[(8,.int .i64 s.1),(7,.int .i64 s.2)]) (fun s=>Jaj lb rb ⟨sx.r,w2,b2⟩++[oT cInt 3 q.2.1 q.2.2,R]) (fun s => -1≤s.1∧s.1 < sx.r.prs.l.length∧((s.2 = -1∧∀ j:Int,s.1 < j→j < sx.r.prs.l.length→seq (nth sx.r.prs.l j).nm nm=false)∨(s.1 < s.2∧s.2 < sx.r.prs.l.length∧seq (nth sx.r.prs.l s.2).nm nm=true∧∀ j:Int,s.1 < j→j < s.2→seq (nth sx.r.prs.l j).nm nm=false))) (fun s=>(s.1+1).toNat) (sx.r.prs.l.length - 1, -1) (fun _ _=>rfl) rfl rfl ⟨by simp only; omega,by simp only; omega,.inl ⟨rfl,fun j h0 h1=>by simp only at h0; omega⟩⟩ ?_
  intro k t hs
  obtain ⟨hk1,hk2,hk3⟩:=hs
  refine Cs (Nz 2 ?_)
  refine Wd (Qc (CS.cond rfl ?_ ?_))<;>intro hc3<;>try simp only [bq] at hc3
  ·
   refine Ck (Qc (Cs (Ce (Nz 3 ?_))))
   refine Wk 2 (by first | exact Jaa (j:=0) rfl rfl rfl tk61 | exact Jaa (j:=1) rfl rfl rfl tk61 | exact Jaa (j:=2) rfl rfl rfl tk61 | exact Jaa (j:=3) rfl rfl rfl tk61 | exact Jaa (j:=4) rfl rfl rfl tk61 | exact Jaa (j:=5) rfl rfl rfl tk61 | exact Jaa (j:=6) rfl rfl rfl tk61 | exact Jaa (j:=7) rfl rfl rfl tk61 | exact Jaa (j:=8) rfl rfl rfl tk61 | exact Jaa (j:=9) rfl rfl rfl tk61 | exact Jaa (j:=10) rfl rfl rfl tk61 | exact Jaa (j:=11) rfl rfl rfl tk61 | exact Jaa (j:=12) rfl rfl rfl tk61 | exact Jaa (j:=13) rfl rfl rfl tk61 | exact Jah rfl (by assumption) rfl tk61) ?_
   refine Wk 1 (by first | exact Jaa (j:=0) rfl rfl rfl tk25 | exact Jaa (j:=1) rfl rfl rfl tk25 | exact Jaa (j:=2) rfl rfl rfl tk25 | exact Jaa (j:=3) rfl rfl rfl tk25 | exact Jaa (j:=4) rfl rfl rfl tk25 | exact Jaa (j:=5) rfl rfl rfl tk25 | exact Jaa (j:=6) rfl rfl rfl tk25 | exact Jaa (j:=7) rfl rfl rfl tk25 | exact Jaa (j:=8) rfl rfl rfl tk25 | exact Jaa (j:=9) rfl rfl rfl tk25 | exact Jaa (j:=10) rfl rfl rfl tk25 | exact Jaa (j:=11) rfl rfl rfl tk25 | exact Jaa (j:=12) rfl rfl rfl tk25 | exact Jaa (j:=13) rfl rfl rfl tk25 | exact Jah rfl (by assumption) rfl tk25) ?_
   refine Wk 1 (Jdn (s:=sx.r.prs) sl25 rfl rfl hpr rfl (by omega) (by omega)) ?_
   refine Wk 1 (Jgd 3 0 (j:=5) rfl rfl rfl ⟨by omega,by omega⟩ (by decide) rfl tk9) ?_
   refine Wk 0 (Jav rfl rfl) ?_
   refine Wd (Qc (CS.cond rfl ?_ ?_))<;>intro hc4<;>try simp only [bq] at hc4
   ·
    refine Ny 2 ?_
    refine Wd (Qb (Qc (Ny 1 ?_)))
    refine Wk 1 Zb ?_
    exact Wd (QS.head ((k.1 - 1,k.1)) rfl rfl ⟨⟨by simp only; omega,by simp only; omega,.inr ⟨by simp only; omega,by simp only; omega,hc4,fun j h0 h1=>by simp only at h0 h1; omega⟩⟩,by simp only; omega⟩)
   refine Ck (Qb (Qc (Ny 1 ?_)))
   refine Wk 1 Zb ?_
   exact Wd (QS.head ((k.1 - 1,k.2)) rfl rfl ⟨⟨by simp only; omega,by simp only; omega,Jrh hc4 hk3⟩,by simp only; omega⟩)
  have hfd:=Jsi (show k.1 = -1 by omega) hk3
  refine Cv (Qe (Qe (Qx (Qc ?_))))
  refine CS.cut (σ:=Bool) [44,45,46,47,48] (fun s=>[]) (fun s=>[rl lb rb ⟨sx.r,w2,s⟩,oT cInt 3 q.2.1 q.2.2,R]) (fun s=>Rel q.1.2 (Jbc Pro.nm sx.r.prs.l q.1.1.l) k.2 w2.l s) (fun _ _=>rfl) ?_ ?_
  ·
   refine Nz 2 ?_
   refine Wd (Qc (CS.cond rfl ?_ ?_))<;>intro hc5<;>try simp only [bq] at hc5
   ·
    have hkn:Rel q.1.2 (Jbc Pro.nm sx.r.prs.l q.1.1.l) k.2 w2.l true:=Jk6 hr2 (by rcases hfd with ⟨h1,h2⟩ | ⟨h1,h2⟩; exact h2; omega)
    refine Ny 3 ?_
    first | refine WS.store (j:=0) rfl rfl (by first | decide | omega | (simp; done) | (simp; omega) | exact Nat.le_of_ble_eq_true rfl) rfl (by first | rfl | assumption) tk4 rfl rfl ?_ | refine WS.store (j:=0) rfl rfl (by first | decide | omega | (simp; done) | (simp; omega) | exact Nat.le_of_ble_eq_true rfl) rfl (by first | rfl | assumption) tk4 (Jab _ _ _) rfl ?_ | refine WS.store (j:=1) rfl rfl (by first | decide | omega | (simp; done) | (simp; omega) | exact Nat.le_of_ble_eq_true rfl) rfl (by first | rfl | assumption) tk4 rfl rfl ?_ | refine WS.store (j:=1) rfl rfl (by first | decide | omega | (simp; done) | (simp; omega) | exact Nat.le_of_ble_eq_true rfl) rfl (by first | rfl | assumption) tk4 (Jab _ _ _) rfl ?_ | refine WS.store (j:=2) rfl rfl (by first | decide | omega | (simp; done) | (simp; omega) | exact Nat.le_of_ble_eq_true rfl) rfl (by first | rfl | assumption) tk4 rfl rfl ?_ | refine WS.store (j:=2) rfl rfl (by first | decide | omega | (simp; done) | (simp; omega) | exact Nat.le_of_ble_eq_true rfl) rfl (by first | rfl | assumption) tk4 (Jab _ _ _) rfl ?_ | refine WS.store (j:=3) rfl rfl (by first | decide | omega | (simp; done) | (simp; omega) | exact Nat.le_of_ble_eq_true rfl) rfl (by first | rfl | assumption) tk4 rfl rfl ?_ | refine WS.store (j:=3) rfl rfl (by first | decide | omega | (simp; done) | (simp; omega) | exact Nat.le_of_ble_eq_true rfl) rfl (by first | rfl | assumption) tk4 (Jab _ _ _) rfl ?_ | refine WS.store (j:=4) rfl rfl (by first | decide | omega | (simp; done) | (simp; omega) | exact Nat.le_of_ble_eq_true rfl) rfl (by first | rfl | assumption) tk4 rfl rfl ?_ | refine WS.store (j:=4) rfl rfl (by first | decide | omega | (simp; done) | (simp; omega) | exact Nat.le_of_ble_eq_true rfl) rfl (by first | rfl | assumption) tk4 (Jab _ _ _) rfl ?_ | refine WS.store (j:=5) rfl rfl (by first | decide | omega | (simp; done) | (simp; omega) | exact Nat.le_of_ble_eq_true rfl) rfl (by first | rfl | assumption) tk4 rfl rfl ?_ | refine WS.store (j:=5) rfl rfl (by first | decide | omega | (simp; done) | (simp; omega) | exact Nat.le_of_ble_eq_true rfl) rfl (by first | rfl | assumption) tk4 (Jab _ _ _) rfl ?_ | refine WS.store (j:=6) rfl rfl (by first | decide | omega | (simp; done) | (simp; omega) | exact Nat.le_of_ble_eq_true rfl) rfl (by first | rfl | assumption) tk4 rfl rfl ?_ | refine WS.store (j:=6) rfl rfl (by first | decide | omega | (simp; done) | (simp; omega) | exact Nat.le_of_ble_eq_true rfl) rfl (by first | rfl | assumption) tk4 (Jab _ _ _) rfl ?_ | refine WS.store (j:=7) rfl rfl (by first | decide | omega | (simp; done) | (simp; omega) | exact Nat.le_of_ble_eq_true rfl) rfl (by first | rfl | assumption) tk4 rfl rfl ?_ | refine WS.store (j:=7) rfl rfl (by first | decide | omega | (simp; done) | (simp; omega) | exact Nat.le_of_ble_eq_true rfl) rfl (by first | rfl | assumption) tk4 (Jab _ _ _) rfl ?_ | refine WS.store (j:=8) rfl rfl (by first | decide | omega | (simp; done) | (simp; omega) | exact Nat.le_of_ble_eq_true rfl) rfl (by first | rfl | assumption) tk4 rfl rfl ?_ | refine WS.store (j:=8) rfl rfl (by first | decide | omega | (simp; done) | (simp; omega) | exact Nat.le_of_ble_eq_true rfl) rfl (by first | rfl | assumption) tk4 (Jab _ _ _) rfl ?_ | refine WS.store (j:=9) rfl rfl (by first | decide | omega | (simp; done) | (simp; omega) | exact Nat.le_of_ble_eq_true rfl) rfl (by first | rfl | assumption) tk4 rfl rfl ?_ | refine WS.store (j:=9) rfl rfl (by first | decide | omega | (simp; done) | (simp; omega) | exact Nat.le_of_ble_eq_true rfl) rfl (by first | rfl | assumption) tk4 (Jab _ _ _) rfl ?_ | refine WS.store (j:=10) rfl rfl (by first | decide | omega | (simp; done) | (simp; omega) | exact Nat.le_of_ble_eq_true rfl) rfl (by first | rfl | assumption) tk4 rfl rfl ?_ | refine WS.store (j:=10) rfl rfl (by first | decide | omega | (simp; done) | (simp; omega) | exact Nat.le_of_ble_eq_true rfl) rfl (by first | rfl | assumption) tk4 (Jab _ _ _) rfl ?_ | refine WS.store (j:=11) rfl rfl (by first | decide | omega | (simp; done) | (simp; omega) | exact Nat.le_of_ble_eq_true rfl) rfl (by first | rfl | assumption) tk4 rfl rfl ?_ | refine WS.store (j:=11) rfl rfl (by first | decide | omega | (simp; done) | (simp; omega) | exact Nat.le_of_ble_eq_true rfl) rfl (by first | rfl | assumption) tk4 (Jab _ _ _) rfl ?_ | refine WS.store (j:=12) rfl rfl (by first | decide | omega | (simp; done) | (simp; omega) | exact Nat.le_of_ble_eq_true rfl) rfl (by first | rfl | assumption) tk4 rfl rfl ?_ | refine WS.store (j:=12) rfl rfl (by first | decide | omega | (simp; done) | (simp; omega) | exact Nat.le_of_ble_eq_true rfl) rfl (by first | rfl | assumption) tk4 (Jab _ _ _) rfl ?_ | refine WS.store (j:=13) rfl rfl (by first | decide | omega | (simp; done) | (simp; omega) | exact Nat.le_of_ble_eq_true rfl) rfl (by first | rfl | assumption) tk4 rfl rfl ?_ | refine WS.store (j:=13) rfl rfl (by first | decide | omega | (simp; done) | (simp; omega) | exact Nat.le_of_ble_eq_true rfl) rfl (by first | rfl | assumption) tk4 (Jab _ _ _) rfl ?_
    refine WS.weak (fun u hu=>St.pack (L1:=Jaj lb rb ⟨sx.r,w2,true⟩) hu) ?_
    exact Wd (QS.head (true) rfl rfl hkn)
   have hkn:Rel q.1.2 (Jbc Pro.nm sx.r.prs.l q.1.1.l) k.2 w2.l b2:=by
    rcases hfd with ⟨h1,h2⟩ | ⟨h1,h2⟩
    ·
     omega
    exact Jlu hr2 h2 h1
   refine Ck ?_
   refine QS.weak (fun u hu=>St.pack (L1:=Jaj lb rb ⟨sx.r,w2,b2⟩) hu) ?_
   exact QS.head (b2) rfl rfl hkn
  intro z t hs
  have hst:=Jj7 hc2 hs
  refine Ny 2 ?_
  refine WS.buildN1 (b:=k.2) sl43 zv3 rfl (fun _=>rfl) ?_; intro v51
  refine WS.appendT1 (C:=cInt) (a:=k.2) (j:=2) (jz:=0) sl43 zv3 rfl (by decide) rfl rfl rfl rfl (w:=w) trivial (by omega) (by omega) (fun _=>rfl) (fun _=>rfl) ?_; intro v52 hv52
  refine Wz 1 ?_
  refine Wd (Qb ?_)
  refine QS.sel [1,1,1] rfl ?_
  exact QS.head (((w2,z),v52,q.2.2++[k.2])) rfl rfl ⟨hqi.step hmy.1 hmy.2.1 hx2 hst.1 hst.2,Jh5 hmy.1 hst.1 hx2⟩
 have hfin:=hqi.fin fun hb=>Jgf (Jh6 hc2 hb)
 refine Cv (Qe (Qe (Qx (Qc ?_))))
 refine CS.cut (σ:=Bool) [53,54,55,56,57,58] (fun s=>[]) (fun s=>[rl lb rb ⟨sx.r,q.1.1,s⟩,oT cInt 3 q.2.1 q.2.2,R]) (fun s=>Rel sx.bad (Jdq sx.r.prs.l t0 sx.ws.l) q.2.2 q.1.1.l s) (fun _ _=>rfl) ?_ ?_
 ·
  refine Nz 1 ?_
  refine Wk 1 (Jci (j:=1) sl43 rfl rfl) ?_
  refine Wd (Qc (CS.cond rfl ?_ ?_))<;>intro hc6<;>try simp only [bq] at hc6
  ·
   have hnl:q.2.2=[]:=List.length_eq_zero_iff.1 (by omega)
   refine Ny 3 ?_
   refine WS.weak (fun u hu=>St.unpack (L1:=Jaj lb rb ⟨sx.r,q.1.1,q.1.2⟩) hu) ?_
   first | refine WS.store (j:=0) rfl rfl (by first | decide | omega | (simp; done) | (simp; omega) | exact Nat.le_of_ble_eq_true rfl) rfl (by first | rfl | assumption) tk4 rfl rfl ?_ | refine WS.store (j:=0) rfl rfl (by first | decide | omega | (simp; done) | (simp; omega) | exact Nat.le_of_ble_eq_true rfl) rfl (by first | rfl | assumption) tk4 (Jab _ _ _) rfl ?_ | refine WS.store (j:=1) rfl rfl (by first | decide | omega | (simp; done) | (simp; omega) | exact Nat.le_of_ble_eq_true rfl) rfl (by first | rfl | assumption) tk4 rfl rfl ?_ | refine WS.store (j:=1) rfl rfl (by first | decide | omega | (simp; done) | (simp; omega) | exact Nat.le_of_ble_eq_true rfl) rfl (by first | rfl | assumption) tk4 (Jab _ _ _) rfl ?_ | refine WS.store (j:=2) rfl rfl (by first | decide | omega | (simp; done) | (simp; omega) | exact Nat.le_of_ble_eq_true rfl) rfl (by first | rfl | assumption) tk4 rfl rfl ?_ | refine WS.store (j:=2) rfl rfl (by first | decide | omega | (simp; done) | (simp; omega) | exact Nat.le_of_ble_eq_true rfl) rfl (by first | rfl | assumption) tk4 (Jab _ _ _) rfl ?_ | refine WS.store (j:=3) rfl rfl (by first | decide | omega | (simp; done) | (simp; omega) | exact Nat.le_of_ble_eq_true rfl) rfl (by first | rfl | assumption) tk4 rfl rfl ?_ | refine WS.store (j:=3) rfl rfl (by first | decide | omega | (simp; done) | (simp; omega) | exact Nat.le_of_ble_eq_true rfl) rfl (by first | rfl | assumption) tk4 (Jab _ _ _) rfl ?_ | refine WS.store (j:=4) rfl rfl (by first | decide | omega | (simp; done) | (simp; omega) | exact Nat.le_of_ble_eq_true rfl) rfl (by first | rfl | assumption) tk4 rfl rfl ?_ | refine WS.store (j:=4) rfl rfl (by first | decide | omega | (simp; done) | (simp; omega) | exact Nat.le_of_ble_eq_true rfl) rfl (by first | rfl | assumption) tk4 (Jab _ _ _) rfl ?_ | refine WS.store (j:=5) rfl rfl (by first | decide | omega | (simp; done) | (simp; omega) | exact Nat.le_of_ble_eq_true rfl) rfl (by first | rfl | assumption) tk4 rfl rfl ?_ | refine WS.store (j:=5) rfl rfl (by first | decide | omega | (simp; done) | (simp; omega) | exact Nat.le_of_ble_eq_true rfl) rfl (by first | rfl | assumption) tk4 (Jab _ _ _) rfl ?_ | refine WS.store (j:=6) rfl rfl (by first | decide | omega | (simp; done) | (simp; omega) | exact Nat.le_of_ble_eq_true rfl) rfl (by first | rfl | assumption) tk4 rfl rfl ?_ | refine WS.store (j:=6) rfl rfl (by first | decide | omega | (simp; done) | (simp; omega) | exact Nat.le_of_ble_eq_true rfl) rfl (by first | rfl | assumption) tk4 (Jab _ _ _) rfl ?_ | refine WS.store (j:=7) rfl rfl (by first | decide | omega | (simp; done) | (simp; omega) | exact Nat.le_of_ble_eq_true rfl) rfl (by first | rfl | assumption) tk4 rfl rfl ?_ | refine WS.store (j:=7) rfl rfl (by first | decide | omega | (simp; done) | (simp; omega) | exact Nat.le_of_ble_eq_true rfl) rfl (by first | rfl | assumption) tk4 (Jab _ _ _) rfl ?_ | refine WS.store (j:=8) rfl rfl (by first | decide | omega | (simp; done) | (simp; omega) | exact Nat.le_of_ble_eq_true rfl) rfl (by first | rfl | assumption) tk4 rfl rfl ?_ | refine WS.store (j:=8) rfl rfl (by first | decide | omega | (simp; done) | (simp; omega) | exact Nat.le_of_ble_eq_true rfl) rfl (by first | rfl | assumption) tk4 (Jab _ _ _) rfl ?_ | refine WS.store (j:=9) rfl rfl (by first | decide | omega | (simp; done) | (simp; omega) | exact Nat.le_of_ble_eq_true rfl) rfl (by first | rfl | assumption) tk4 rfl rfl ?_ | refine WS.store (j:=9) rfl rfl (by first | decide | omega | (simp; done) | (simp; omega) | exact Nat.le_of_ble_eq_true rfl) rfl (by first | rfl | assumption) tk4 (Jab _ _ _) rfl ?_ | refine WS.store (j:=10) rfl rfl (by first | decide | omega | (simp; done) | (simp; omega) | exact Nat.le_of_ble_eq_true rfl) rfl (by first | rfl | assumption) tk4 rfl rfl ?_ | refine WS.store (j:=10) rfl rfl (by first | decide | omega | (simp; done) | (simp; omega) | exact Nat.le_of_ble_eq_true rfl) rfl (by first | rfl | assumption) tk4 (Jab _ _ _) rfl ?_ | refine WS.store (j:=11) rfl rfl (by first | decide | omega | (simp; done) | (simp; omega) | exact Nat.le_of_ble_eq_true rfl) rfl (by first | rfl | assumption) tk4 rfl rfl ?_ | refine WS.store (j:=11) rfl rfl (by first | decide | omega | (simp; done) | (simp; omega) | exact Nat.le_of_ble_eq_true rfl) rfl (by first | rfl | assumption) tk4 (Jab _ _ _) rfl ?_ | refine WS.store (j:=12) rfl rfl (by first | decide | omega | (simp; done) | (simp; omega) | exact Nat.le_of_ble_eq_true rfl) rfl (by first | rfl | assumption) tk4 rfl rfl ?_ | refine WS.store (j:=12) rfl rfl (by first | decide | omega | (simp; done) | (simp; omega) | exact Nat.le_of_ble_eq_true rfl) rfl (by first | rfl | assumption) tk4 (Jab _ _ _) rfl ?_ | refine WS.store (j:=13) rfl rfl (by first | decide | omega | (simp; done) | (simp; omega) | exact Nat.le_of_ble_eq_true rfl) rfl (by first | rfl | assumption) tk4 rfl rfl ?_ | refine WS.store (j:=13) rfl rfl (by first | decide | omega | (simp; done) | (simp; omega) | exact Nat.le_of_ble_eq_true rfl) rfl (by first | rfl | assumption) tk4 (Jab _ _ _) rfl ?_
   refine WS.weak (fun u hu=>St.pack (L1:=Jaj lb rb ⟨sx.r,q.1.1,true⟩) hu) ?_
   exact Wd (QS.head (true) rfl rfl (Jh7 hr1 hfin hnl))
  have hnn:q.2.2≠[]:=fun h=>by rw [h] at hc6; exact hc6 rfl
  exact Ck (QS.head (q.1.2) rfl rfl (Jig hr1 hfin hnn))
 intro z t hs
 have hz9:=hs
 refine Nz 2 ?_
 exact Wd (Qc (Cr (out1 rfl rfl (fun u hu=>Jmj (x:=⟨q.2.1,q.2.2⟩) hz9 (hqi.sf.trans hx1) ⟨u,Jcp hu (j:=1) rfl fun _ _=>trivial⟩ (Jw6 (fun _ _ _=>trivial) hu)))))
end Go.Proofs.YtkekjhcmephhjaaGreatDoor
