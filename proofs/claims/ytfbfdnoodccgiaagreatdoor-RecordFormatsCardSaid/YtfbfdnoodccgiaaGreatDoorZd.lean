/- Merged texts of this proof (walks and plain laws), printed by a program of the prover. -/
import Derived.Test.YtfbfdnoodccgiaaGreatDoorZa
import Derived.Test.YtfbfdnoodccgiaaGreatDoorZc
set_option maxHeartbeats 8000000
namespace Go.Proofs.YtfbfdnoodccgiaaGreatDoor
open Go.RowKit Go.Proofs
set_option maxRecDepth 100000
set_option linter.unusedVariables false
set_option linter.unusedSimpArgs false
theorem Jce (n low high:Int) (w:World):Calls Tryz.prog 125 #[.int .i64 n,.int .i64 low,.int .i64 high] w (RetB w (.bool (Jak n low high))):=by
 refine enter Tryz.func125 rfl rfl (Nat.le_of_ble_eq_true rfl) ?_
 refine Nz 1 ?_
 refine Wd (Qc (Nz 4 ?_))
 refine Wt 0 rfl rfl (fun hg=>Fm) ?_
 refine Wt 0 rfl rfl (fun hg=>Fm) ?_
 refine Wt 0 rfl rfl (fun hg=>Fk) ?_
 refine Wk 1 Pa ?_
 exact Wd (Qc (Cr (out1 rfl rfl retB)))
theorem Ji5 (lw ls:Int) (w:World):Calls Tryz.prog 81 #[.agg #[.int .i64 lw,.int .i64 ls]] w (RetB w (.int .i64 (Jeg lw ls))):=by
 refine enter Tryz.func81 rfl rfl (Nat.le_of_ble_eq_true rfl) ?_
 refine Nz 0 ?_
 refine Wb 1 rfl rfl (fun _=>rfl) (fun _=>rfl) fun b1 hb1=>?_
 refine Wd (Qc (Cs (Nz 1 ?_)))
 refine Wk 0 (Ba 0) ?_
 refine Wk 2 (Cb rfl rfl Jed (fun u hu=>Jce _ _ _ u)) ?_
 refine Wf 0 rfl rfl (fun hg=>Ff) ?_
 refine Wf 0 rfl rfl (fun hg=>Ba 0) ?_
 refine Wf 0 rfl rfl (fun hg=>Cb rfl (ec_ (eg_ hg rfl) (ec_ rfl (ec_ rfl en_))) Jed (fun u hu=>Jce _ _ _ u)) ?_
 refine Wf 0 rfl rfl (fun hg=>Fn) ?_
 refine Wk 0 Po ?_
 refine Wd (Qc (CS.cond rfl ?_ ?_))<;>intro hc1<;>try simp only [bq] at hc1
 ·
  refine Nz 1 ?_
  exact Wd (Qc (Cr (Qr (out1 rfl rfl (Jac (by simp [Jeg,Jbf]; rcases hc1 with h | h <;> simp [h]))))))
 refine Ck (Qc (Nz 1 ?_))
 exact Wd (Qc (Cr (out1 rfl rfl (Jac (by simp [Jeg,Jbf,hc1])))))
theorem Jje (lw ls n:Int) (w:World) (hL:Jbf lw ls=true):Calls Tryz.prog 195 #[.agg #[.int .i64 lw,.int .i64 ls],.int .i64 n] w (RetB w (.bool (Jak n 0 (ls - 1)))):=by
 have hl:=Jdl hL
 refine enter Tryz.func195 rfl rfl (Nat.le_of_ble_eq_true rfl) ?_
 refine Nz 0 ?_
 refine Wb 1 rfl rfl (fun _=>rfl) (fun _=>rfl) fun b2 hb2=>?_
 refine Wd (Qc (Nz 2 ?_))
 refine Wk 0 (Ba 0) ?_
 refine Wk 0 Zb ?_
 refine Wk 1 (Cb rfl rfl Jed (fun u hu=>Jce _ _ _ u)) ?_
 exact Wd (Qc (Cr (out1 rfl rfl retB)))
theorem Jdt (lw ls n:Int) (w:World) (hL:Jbf lw ls=true):Calls Tryz.prog 203 #[.agg #[.int .i64 lw,.int .i64 ls],.int .i64 n] w (RetB w (.bool (Jak n 0 (lw - 1)))):=by
 have hl:=Jdl hL
 refine enter Tryz.func203 rfl rfl (Nat.le_of_ble_eq_true rfl) ?_
 refine Nz 0 ?_
 refine Wb 1 rfl rfl (fun _=>rfl) (fun _=>rfl) fun b2 hb2=>?_
 refine Wd (Qc (Nz 2 ?_))
 refine Wk 0 (Ba 0) ?_
 refine Wk 0 Zb ?_
 refine Wk 1 (Cb rfl rfl Jed (fun u hu=>Jce _ _ _ u)) ?_
 exact Wd (Qc (Cr (out1 rfl rfl retB)))
theorem Jvk (xs:List (Int)) (v:Value) (w:World) (h1:SlI w v xs) (g:Nat) (lb:List Value) (p:Int→Bool) (hg:Ent Tryz.prog g)
  (hp:∀ u,Below w.heap.size w u→∀ i:Int,0≤i→i < xs.length→Calls Tryz.prog g ([.int .i64 (nth xs i)]++lb:List Value).toArray u (RetB u (.bool (p (nth xs i))))) :
  Calls Tryz.prog 191 #[v,.func (.func g) #[] lb.toArray] w (RetB w (.int .i64 (idxF p xs))):=by
 have hl1:=h1.le
 refine enter Tryz.func191 rfl rfl (Nat.le_of_ble_eq_true rfl) ?_
 refine Nz 1 ?_
 refine Wd (Qc (Cs (Nz 1 ?_)))
 refine Wk 1 Na ?_
 refine Wd (Qc (Ce ?_))
 refine CS.loopM (σ:=Int) [4,5,9,10,11,12,13,14,15,16,17,18] (fun s=>[(8,.int .i64 s)]) (fun _=>_) (fun s=>0≤s∧s≤xs.length∧∀ j:Int,0≤j→j < s→p (nth xs j)=false) (fun s=>(xs.length - s).toNat) 0 (fun _ _=>rfl) rfl rfl ⟨by omega,by omega,fun j h1 h2=>by omega⟩ ?_
 intro s t hs
 obtain ⟨hs1,hs2,hs3⟩:=hs
 refine Nz 1 ?_
 refine Wd (Qc (Cs (CS.cond rfl ?_ ?_)))<;>intro hc1<;>try simp only [bq] at hc1
 ·
  refine Ck (Qc (Cs (Ce (Nz 2 ?_))))
  refine Wd (Qc (Nz 3 ?_))
  refine Wk 0 Xa ?_
  refine Wk 0 Ia ?_
  refine Wk 0 (Cb rfl rfl hg (fun u hu=>hp u hu.below s (by omega) (by omega))) ?_
  refine Wd (Qc (CS.cond rfl ?_ ?_))<;>intro hc2<;>try simp only [bq] at hc2
  ·
   refine Nz 2 ?_
   exact Wd (Qc (Cr (Qs (Qr (Qr (Qs (Qr (out1 rfl rfl (Jac (by rw [Ja4 hs1 (by omega) hs3 hc2]))))))))))
  refine Ck (Qb (Qc (Ny 0 ?_)))
  refine Wk 1 Za ?_
  exact Wd (QS.head (s+1) rfl rfl ⟨⟨by omega,by omega,fun j h1 h2=>if hj:j=s then by rw [hj]; exact hc2 else hs3 j h1 (by omega)⟩,by omega⟩)
 refine Cv (Qe (Qe (Qx (Qc (Nz 1 ?_)))))
 exact Wd (Qc (Cr (out1 rfl rfl (Jac (by rw [Jba fun j h1 h2=>hs3 j h1 (by omega)])))))
theorem Jmh (xs:List (Int)) (v:Value) (w:World) (h1:SlI w v xs) (g:Nat) (lb:List Value) (p:Int→Bool) (hg:Ent Tryz.prog g)
  (hp:∀ u,Below w.heap.size w u→∀ i:Int,0≤i→i < xs.length→Calls Tryz.prog g ([.int .i64 (nth xs i)]++lb:List Value).toArray u (RetB u (.bool (p (nth xs i))))) :
  Calls Tryz.prog 159 #[v,.func (.func g) #[] lb.toArray] w (RetB w (.bool (xs.any p))):=by
 refine enter Tryz.func159 rfl rfl (Nat.le_of_ble_eq_true rfl) ?_
 refine Nz 1 ?_
 refine Wd (Qc (Nz 2 ?_))
 refine Wk 2 (Cb rfl rfl Jyw (fun u hu=>Jvk xs v u (h1.st hu) g lb p hg (fun u2 h2=>hp u2 (Jav hu.below h2)))) ?_
 exact Wd (Qc (Cr (out1 rfl rfl (Jac (by rw [Jbu])))))
theorem Jw5 (xs:List (List Int)) (v:Value) (gs:List Value) (w:World) (h1:SlL w v xs gs) (g:Nat) (lb:List Value) (p:List Int→Bool) (hg:Ent Tryz.prog g)
  (hp:∀ u,Below w.heap.size w u→∀ i:Int,0≤i→i < xs.length→Calls Tryz.prog g ([nth gs i]++lb:List Value).toArray u (RetB u (.bool (p (nth xs i))))) :
  Calls Tryz.prog 193 #[v,.func (.func g) #[] lb.toArray] w (RetB w (.int .i64 (idxF p xs))):=by
 have hl1:=h1.le
 refine enter Tryz.func193 rfl rfl (Nat.le_of_ble_eq_true rfl) ?_
 refine Nz 1 ?_
 refine Wd (Qc (Cs (Nz 1 ?_)))
 refine Wk 1 (Jd6 sl45 rfl (by first | exact SlL.sp (by assumption) | exact ClS.sp (by assumption))) ?_
 refine Wd (Qc (Ce ?_))
 refine CS.loopM (σ:=Int) [4,5,9,10,11,12,13,14,15,16,17,18] (fun s=>[(8,.int .i64 s)]) (fun _=>_) (fun s=>0≤s∧s≤xs.length∧∀ j:Int,0≤j→j < s→p (nth xs j)=false) (fun s=>(xs.length - s).toNat) 0 (fun _ _=>rfl) rfl rfl ⟨by omega,by omega,fun j h1 h2=>by omega⟩ ?_
 intro s t hs
 obtain ⟨hs1,hs2,hs3⟩:=hs
 refine Nz 1 ?_
 refine Wd (Qc (Cs (CS.cond rfl ?_ ?_)))<;>intro hc1<;>try simp only [bq] at hc1
 ·
  refine Ck (Qc (Cs (Ce (Nz 2 ?_))))
  refine Wd (Qc (Nz 3 ?_))
  refine Wk 0 (Jwc sl45 rfl rfl (by assumption) (by omega) (by omega)) ?_
  refine Wk 0 (Jq0 rfl (by assumption) (by omega) tk86) ?_
  refine Wk 0 (Cb rfl rfl hg (fun u hu=>hp u hu.below s (by omega) (by omega))) ?_
  refine Wd (Qc (CS.cond rfl ?_ ?_))<;>intro hc2<;>try simp only [bq] at hc2
  ·
   refine Nz 2 ?_
   exact Wd (Qc (Cr (Qs (Qr (Qr (Qs (Qr (out1 rfl rfl (Jac (by rw [Ja4 hs1 (by omega) hs3 hc2]))))))))))
  refine Ck (Qb (Qc (Ny 0 ?_)))
  refine Wk 1 Za ?_
  exact Wd (QS.head (s+1) rfl rfl ⟨⟨by omega,by omega,fun j h1 h2=>if hj:j=s then by rw [hj]; exact hc2 else hs3 j h1 (by omega)⟩,by omega⟩)
 refine Cv (Qe (Qe (Qx (Qc (Nz 1 ?_)))))
 exact Wd (Qc (Cr (out1 rfl rfl (Jac (by rw [Jba fun j h1 h2=>hs3 j h1 (by omega)])))))
theorem Jlv (xs:List (List Int)) (v:Value) (gs:List Value) (w:World) (h1:SlL w v xs gs) (g:Nat) (lb:List Value) (p:List Int→Bool) (hg:Ent Tryz.prog g)
  (hp:∀ u,Below w.heap.size w u→∀ i:Int,0≤i→i < xs.length→Calls Tryz.prog g ([nth gs i]++lb:List Value).toArray u (RetB u (.bool (p (nth xs i))))) :
  Calls Tryz.prog 162 #[v,.func (.func g) #[] lb.toArray] w (RetB w (.bool (xs.any p))):=by
 refine enter Tryz.func162 rfl rfl (Nat.le_of_ble_eq_true rfl) ?_
 refine Nz 1 ?_
 refine Wd (Qc (Nz 2 ?_))
 refine Wk 2 (Cb rfl rfl J41 (fun u hu=>Jw5 xs v gs u (h1.st hu) g lb p hg (fun u2 h2=>hp u2 (Jav hu.below h2)))) ?_
 exact Wd (Qc (Cr (out1 rfl rfl (Jac (by rw [Jbu])))))
theorem J0l (lw ls n:Int) (b:Nat) (e:TypeId) (w:World) (hL:Jbf lw ls=true) (hb:BlkAt w b [.int .i64 lw,.int .i64 ls] e) :
  Calls Tryz.prog 194 #[.int .i64 n,.pointer (some ⟨b,0,none⟩)] w (RetB w (.bool (!Jak n 0 (ls - 1)))):=by
 refine enter Tryz.func194 rfl rfl (Nat.le_of_ble_eq_true rfl) ?_
 refine Nz 1 ?_
 refine Wd (Qc (Nz 0 ?_))
 refine Wk 1 Gb ?_
 refine Wk 2 (Cb rfl rfl Jr6 (fun u hu=>Jje _ _ _ u hL)) ?_
 exact Wd (Qc (Cr (out1 rfl rfl retB)))
theorem Jyp (lw ls:Int) (xs:List Int) (v:Value) (w:World) (hL:Jbf lw ls=true) (h1:SlI w v xs) :
  Calls Tryz.prog 164 #[.agg #[.int .i64 lw,.int .i64 ls],v] w (RetB w (.bool (Jdg lw ls xs))):=by
 refine enter Tryz.func164 rfl rfl (Nat.le_of_ble_eq_true rfl) ?_
 refine Nz 0 ?_
 refine Wb 1 rfl rfl (fun _=>rfl) (fun _=>rfl) fun b2 hb2=>?_
 refine Wd (Qc (Nz 1 ?_))
 refine Wk 1 Na ?_
 refine Wk 2 (Ba 0) ?_
 refine Wt 0 rfl rfl (fun hg=>Fm) ?_
 refine Wt 0 rfl rfl (fun hg=>Jai rfl) ?_
 refine Wt 0 rfl rfl (fun hg=>Cb rfl (ec_ (eg_ hg rfl) (ec_ (eg_ hg rfl) en_)) Jnb (fun u hu=>Jmh xs v u (h1.st hu) _ [.pointer (some ⟨b2,0,none⟩)] (fun x => !Jak x 0 (ls - 1)) J22 (fun u2 h2 i _ _=>J0l _ _ _ _ _ u2 hL ((Jap hu (j:=0) rfl).ext h2)))) ?_
 refine Wt 0 rfl rfl (fun hg=>Fn) ?_
 refine Wk 1 Pa ?_
 exact Wd (Qc (Cr (out1 rfl rfl (Jac (by simp [Jdg,List.all_eq_not_any_not])))))
theorem Jjf (lw ls:Int) (xs:List Int) (v:Value) (b:Nat) (e:TypeId) (w:World) (hL:Jbf lw ls=true) (h1:SlI w v xs) (hb:BlkAt w b [.int .i64 lw,.int .i64 ls] e) :
  Calls Tryz.prog 163 #[v,.pointer (some ⟨b,0,none⟩)] w (RetB w (.bool (!Jdg lw ls xs))):=by
 refine enter Tryz.func163 rfl rfl (Nat.le_of_ble_eq_true rfl) ?_
 refine Nz 1 ?_
 refine Wd (Qc (Nz 0 ?_))
 refine Wk 1 Gb ?_
 refine Wk 2 (Cb rfl rfl Jye (fun u hu=>Jyp _ _ _ _ u hL (h1.st hu))) ?_
 exact Wd (Qc (Cr (out1 rfl rfl retB)))
theorem Jj8 (lw ls:Int) (xss:List (List Int)) (gs:List Value) (v:Value) (w:World) (h1:SlL w v xss gs) :
  Calls Tryz.prog 126 #[.agg #[.int .i64 lw,.int .i64 ls],v] w (RetB w (.int .i64 (if Jbf lw ls then if xss.all (Jdg lw ls) then 0 else 12 else 10))):=by
 refine enter Tryz.func126 rfl rfl (Nat.le_of_ble_eq_true rfl) ?_
 refine Nz 0 ?_
 refine Wb 1 rfl rfl (fun _=>rfl) (fun _=>rfl) fun b2 hb2=>?_
 refine Wd (Qc (Cs (Nz 0 ?_)))
 refine Wk 0 (Bb 0) ?_
 refine Wk 1 (Cb rfl rfl Jwj (fun u hu=>Ji5 _ _ u)) ?_
 refine Wd (Qc (Nz 2 ?_))
 refine Wd (Qc (CS.cond rfl ?_ ?_))<;>intro hc1<;>try simp only [bq] at hc1
 ·
  refine Nz 2 ?_
  exact Wd (Qc (Cr (Qr (out1 rfl rfl (Jac (by have:Jbf lw ls=false:=(by simpa [Jeg] using hc1); simp [Jeg,this]))))))
 have hL:Jbf lw ls=true:=by simpa [Jeg] using hc1
 refine Ck (Qc (Cs (Nz 1 ?_)))
 refine Wk 0 (Jai rfl) ?_
 refine Wk 0 (Cb rfl rfl J4o (fun u hu=>Jlv xss v gs u (h1.st hu) _ [.pointer (some ⟨b2,0,none⟩)] (fun xs => !Jdg lw ls xs) J30 (fun u2 h2 i h3 h4=>Jjf _ _ _ _ _ _ u2 hL (((h1.st hu).ext h2).el i h3 h4) ((Jap hu (j:=0) rfl).ext h2)))) ?_
 refine Wd (Qc (CS.cond rfl ?_ ?_))<;>intro hc2<;>try simp only [bq] at hc2
 ·
  refine Nz 1 ?_
  exact Wd (Qc (Cr (Qr (out1 rfl rfl (Jac (by simp [hL] at hc2 ⊢; simpa using hc2))))))
 refine Ck (Qc (Nz 1 ?_))
 exact Wd (Qc (Cr (out1 rfl rfl (Jac (by simp [hL] at hc2 ⊢; simpa using hc2)))))
theorem Jg5 (lw ls:Int) (xs:List Int) (v:Value) (w:World) (h1:SlI w v xs) :
  Calls Tryz.prog 82 #[.agg #[.int .i64 lw,.int .i64 ls],v] w (RetB w (.int .i64 (Jga lw ls xs))):=by
 refine enter Tryz.func82 rfl rfl (Nat.le_of_ble_eq_true rfl) ?_
 refine Nz 0 ?_
 refine Wb 1 rfl rfl (fun _=>rfl) (fun _=>rfl) fun b2 hb2=>?_
 refine Wd (Qc (Nz 0 ?_))
 refine Wk 1 (Bb 0) ?_
 refine WS.buildSlice1 sl45 zv86 (vs:=[v]) rfl rfl (by decide) (by intro y hy; obtain ⟨_,p,cap,rfl,_⟩:=h1; simp at hy; subst hy; rfl) (fun _=>rfl) ?_; intro v12
 refine Wk 1 (Cb rfl rfl J4n (fun u hu=>Jj8 _ _ [xs] _ _ u (SlL.one (Jb1 hu (j:=0) rfl) (h1.st hu)))) ?_
 exact Wd (Qc (Cr (out1 rfl rfl (Jac (by simp [Jga])))))
theorem Jwq (xs ys:List Int) (v1 v2:Value) (w:World) (h1:SlI w v1 xs) (h2:SlI w v2 ys) (hl:xs.length=ys.length) (hm:xs.length≤4)
  (hx:∀ x∈xs,0≤x∧x < 10) (hy:∀ x∈ys,0≤x∧x < 10) :
  Calls Tryz.prog 204 #[v1,v2] w (RetB w (.tuple #[.int .i64 (Jbz xs ys),.int .i64 (Jcl xs ys 10 - Jbz xs ys)])):=by
 refine enter Tryz.func204 rfl rfl (Nat.le_of_ble_eq_true rfl) ?_
 refine Nz 2 ?_
 refine Wd (Qc (Nz 0 ?_))
 refine Wl 0 J1h (fun _=>rfl) (fun _=>rfl) fun b6 hb6=>?_
 refine Wl 0 J1h (fun _=>rfl) (fun _=>rfl) fun b7 hb7=>?_
 refine Wd (Qc (Cs (Nz 1 ?_)))
 refine Wk 1 Na ?_
 refine Wd (Qc (Ce ?_))
 refine CS.loopM (σ:=Int × Int) [8,9,14,15,16,17,18,19,20,21,22,23,24,25,26,27,28,29,30,31,32,33,34,35,36,37,38,39] (fun s=>[(4,.int .i64 s.2),(13,.int .i64 s.1)]) (fun s=>[blk b7 (Je0 (ys.take s.1.toNat)) 286,blk b6 (Je0 (xs.take s.1.toNat)) 286]) (fun s=>0≤s.1∧s.1≤xs.length∧s.2=Jbz (xs.take s.1.toNat) (ys.take s.1.toNat)) (fun s=>(xs.length - s.1).toNat) (0,0) (fun _ _=>rfl) rfl rfl ⟨by simp,by simp,by simp [Jbz]⟩ ?_
 intro s t hs
 obtain ⟨hs1,hs2,hs3⟩:=hs
 have hbd:=Jhe (xs.take s.1.toNat) (ys.take s.1.toNat)
 have hlt:=List.length_take_le s.1.toNat xs
 have hlt2:=List.length_take_le s.1.toNat ys
 refine Nz 1 ?_
 refine Wd (Qc (Cs (CS.cond rfl ?_ ?_)))<;>intro hc1<;>try simp only [bq] at hc1
 ·
  have hlx:s.1 < xs.length:=by omega
  have hly:s.1 < ys.length:=by omega
  have hnx:=hx _ (Jaj hs1 hlx)
  have hny:=hy _ (Jaj hs1 hly)
  have ct1:=Je5 (xs.take s.1.toNat) (nth xs s.1)
  have ct2:=Je5 (ys.take s.1.toNat) (nth ys s.1)
  refine Ck (Qc (Cs (Ce (Nz 1 ?_))))
  refine Wk 0 Xa ?_
  refine Wk 2 Ia ?_
  refine Wd (Qc (Cs (Nz 3 ?_)))
  refine Wk 0 Xa ?_
  refine Wk 1 Ia ?_
  refine Wd (Qc (CS.cond rfl ?_ ?_))<;>intro hc2<;>try simp only [bq] at hc2
  ·
   refine Ny 1 ?_
   refine Wk 1 Za ?_
   refine Wd (Qc (Nz 1 ?_))
   refine Wk 0 (Jbi Jd8 rfl rfl (by omega) (by omega)) ?_
   refine Wk 0 (Jah (j:=1) rfl rfl (Jd3 hnx.1 hnx.2) tk3) ?_
   refine Wk 0 Za ?_
   refine Wk 0 (Jbi Jd8 rfl rfl (by omega) (by omega)) ?_
   refine WS.store (j:=1) rfl rfl (by simp [Jdz]; omega) rfl rfl tk3 (Jbk _ _ _) rfl ?_
   refine Wd (Qc (Ny 2 ?_))
   refine Wk 0 Xa ?_
   refine Wk 0 Ia ?_
   refine Wk 0 (Jbi Jd8 rfl rfl (by omega) (by omega)) ?_
   refine Wk 0 (Jah (j:=0) rfl rfl (Jd3 hny.1 hny.2) tk3) ?_
   refine Wk 0 Za ?_
   refine Wk 0 (Jbi Jd8 rfl rfl (by omega) (by omega)) ?_
   refine WS.store (j:=0) rfl rfl (by simp [Jdz]; omega) rfl rfl tk3 (Jbk _ _ _) rfl ?_
   refine Wd (Qb (Qc (Ny 0 ?_)))
   refine Wk 1 Za ?_
   exact Wd (QS.head ((s.1+1,s.2+1)) rfl (by simp only [Jex hnx.1 hnx.2,Jex hny.1 hny.2,Ja2 xs hs1 hlx,Ja2 ys hs1 hly]) ⟨⟨by simp; omega,by simp; omega,by simp only; rw [Jg6 xs ys hl hs1 (by omega),hs3]; simp [hc2]⟩,by simp; omega⟩)
  refine Ck (Qc (Nz 1 ?_))
  refine Wk 0 (Jbi Jd8 rfl rfl (by omega) (by omega)) ?_
  refine Wk 0 (Jah (j:=1) rfl rfl (Jd3 hnx.1 hnx.2) tk3) ?_
  refine Wk 0 Za ?_
  refine Wk 0 (Jbi Jd8 rfl rfl (by omega) (by omega)) ?_
  refine WS.store (j:=1) rfl rfl (by simp [Jdz]; omega) rfl rfl tk3 (Jbk _ _ _) rfl ?_
  refine Wd (Qc (Ny 2 ?_))
  refine Wk 0 Xa ?_
  refine Wk 0 Ia ?_
  refine Wk 0 (Jbi Jd8 rfl rfl (by omega) (by omega)) ?_
  refine Wk 0 (Jah (j:=0) rfl rfl (Jd3 hny.1 hny.2) tk3) ?_
  refine Wk 0 Za ?_
  refine Wk 0 (Jbi Jd8 rfl rfl (by omega) (by omega)) ?_
  refine WS.store (j:=0) rfl rfl (by simp [Jdz]; omega) rfl rfl tk3 (Jbk _ _ _) rfl ?_
  refine Wd (Qb (Qc (Ny 0 ?_)))
  refine Wk 1 Za ?_
  exact Wd (QS.head ((s.1+1,s.2)) rfl (by simp only [Jex hnx.1 hnx.2,Jex hny.1 hny.2,Ja2 xs hs1 hlx,Ja2 ys hs1 hly]) ⟨⟨by simp; omega,by simp; omega,by simp only; rw [Jg6 xs ys hl hs1 (by omega),hs3]; simp [hc2]⟩,by simp; omega⟩)
 have e1:=Jge xs (i:=s.1) (by omega)
 have e2:=Jge ys (i:=s.1) (by omega)
 rw [e1,e2] at hs3
 have hb3:=Jhe xs ys
 have hb4:=Jfs xs ys 10
 refine Cv (Qe (Qe (Qx (Qc (Cs (Nz 1 ?_))))))
 refine Wd (Qc (Ce ?_))
 refine CS.loopM (σ:=Int × Int) [10,41,42,43,44,45,46,47,48,49,50,51,52] (fun s=>[(5,.int .i64 s.2),(40,.int .i64 s.1)]) (fun s=>[blk b7 (Je0 ys) 286,blk b6 (Je0 xs) 286]) (fun s=>0≤s.1∧s.1≤10∧s.2=Jcl xs ys s.1.toNat) (fun s=>(10 - s.1).toNat) (0,0) (fun _ _=>rfl) rfl (by rw [e1,e2]) ⟨by simp,by simp,by simp [Jcl]⟩ ?_
 intro r t hs
 obtain ⟨ks1,ks2,ks3⟩:=hs
 have kbd:=Jfs xs ys r.1.toNat
 have kb2:((r.1.toNat:Nat):Int) * (xs.length:Int)≤10 * 4:=Int.mul_le_mul (by omega) (by omega) (by omega) (by omega)
 have kc1:=Je5 xs r.1
 have kc2:=Je5 ys r.1
 refine Nz 1 ?_
 refine Wd (Qc (Cs (CS.cond rfl ?_ ?_)))<;>intro hc3<;>try simp only [bq] at hc3
 ·
  refine Ck (Qc (Cs (Ce (Nz 2 ?_))))
  refine Wd (Qc (Dr mixed 2 ?_))
  refine Dk 0 (Jbi Jd8 rfl rfl (by omega) (by omega)) ?_
  refine Dk 1 (Jah (j:=1) rfl rfl (Jd3 (by omega) (by omega)) tk3) ?_
  refine Dk 0 (Jbi Jd8 rfl rfl (by omega) (by omega)) ?_
  refine Dk 0 (Jah (j:=0) rfl rfl (Jd3 (by omega) (by omega)) tk3) ?_
  refine Dk 0 (Jy7 rfl rfl) ?_
  refine Dk 1 Za ?_
  refine Dd (Qb (Qc (Ny 0 ?_)))
  refine Wk 1 Za ?_
  exact Wd (QS.head ((r.1+1,r.2+min (cnt xs r.1) (cnt ys r.1))) rfl rfl ⟨⟨by simp; omega,by simp; omega,by have e:(r.1+1).toNat=r.1.toNat+1:=(by omega); have e2:((r.1.toNat:Nat):Int)=r.1:=(by omega); simp only [e,Jcl,e2,ks3]⟩,by simp; omega⟩)
 have e3:r.1=10:=by omega
 rw [e3] at ks3
 have ks4:r.2=Jcl xs ys 10:=ks3
 refine Cv (Qe (Qe (Qx (Qc (Nz 3 ?_)))))
 refine Wk 2 Zb ?_
 exact Wd (Qc (Cr (out2 rfl rfl rfl (Jac (by rw [ks4,hs3])))))
theorem Jyr (lw ls:Int) (c:Clue) (gv:Value) (w:World) (hL:Jbf lw ls=true) (h1:SlI w gv c.g) :
  Calls Tryz.prog 196 #[.agg #[.int .i64 lw,.int .i64 ls],.agg #[.int .i64 c.k,.int .i64 c.a,.int .i64 c.b,.int .i64 c.n,.int .i64 c.m,gv,.bool c.nt]] w (RetB w (.bool (Jbg lw ls c))):=by
 have hl:=Jdl hL
 obtain ⟨hgn,p,cap,rfl,hcap,hp⟩:=h1
 have h1:SlI w (.slice p c.g.length cap) c.g:=⟨hgn,p,cap,rfl,hcap,hp⟩
 clear hgn hcap hp
 refine enter Tryz.func196 rfl rfl (Nat.le_of_ble_eq_true rfl) ?_
 refine Nz 0 ?_
 refine Wb 0 rfl rfl (fun _=>rfl) (fun _=>rfl) fun b2 hb2=>?_
 refine Wb 1 rfl rfl (fun _=>rfl) (fun _=>rfl) fun b3 hb3=>?_
 refine Wd (Qc (Nz 1 ?_))
 refine Wk 1 (Ba 0) ?_
 refine Wk 0 (Ba 0) ?_
 refine Wk 0 (Db Jq5 Jpx) ?_
 refine Wl 0 Jpx (fun _=>rfl) (fun _=>rfl) fun b5 hb5=>?_
 refine Wv 0 0 ?_
 refine Wd (Qc (Nz 1 ?_))
 refine Wd (Qc ?_)
 refine CS.cut (σ:=Used) [12,13,14,15,16,17,18,19,20,21,22,23,24,25,26,27,28,29,30,31,32,33,34,35,36,37,38,39,40,41,42,43,44,45,46,47,48,49,50,51,52,53,54,55,56,57,58,59,60,61,62,63,64,65,66,67,68,69,70,71,72,73,74,75,76,77,78,79,80,81,82,83,84,85,86,87,88,89,90,91,92,93,94,95,96,97,98,99,100,101,102,103,104,105,106,107,108,109,110,111,112,113,114,115,116,117,118,119,120,121,122,123,124,125,126,127,128,129,130,131,132,133,134,135,136,137,138,139,140,141,142,143,144,145,146,147,148,149,150,151,152,153,154,155,156,157,158,159,160,161,162,163,164,165,166] (fun s=>[(6,.bool s.is)]) (fun s=>[blk b5 [.int .i64 c.k,.int .i64 s.a,.int .i64 s.b,.int .i64 s.n,.int .i64 s.m,.slice s.q s.l s.cap,.bool c.nt] 105,blk b3 [.int .i64 c.k,.int .i64 c.a,.int .i64 c.b,.int .i64 c.n,.int .i64 c.m,.slice p c.g.length cap,.bool c.nt] 105,blk b2 [.int .i64 lw,.int .i64 ls] 245]) (fun s=>Jds c s=Jbg lw ls c) (fun _ _=>rfl) ?_ ?_
 ·
  refine Nz 1 ?_
  refine Wk 0 (Ba 1) ?_
  refine Wd (Qc (Ce (Nz 2 ?_)))
  refine Wd (Qc (CS.cond rfl ?_ ?_))<;>intro hc1<;>try simp only [bq] at hc1
  ·
   refine Cs ?_
   refine CS.drawnBut 0 (k:=8) mixed rfl rfl rfl ?_
   refine Ar [0] ?_
   refine Ak 1 [2] rfl (Ba 0) ?_
   refine Ak 3 [4] rfl (Ba 0) ?_
   refine Ao 5 rfl ?_
   refine Ws 0 0 ?_
   refine Wd (Qa ?_)
   refine Ar [6] ?_
   refine Ao 7 rfl ?_
   refine Ws 0 0 ?_
   refine Wd (Qa ?_)
   refine Ae ?_
   refine Qc (Ny 0 ?_)
   refine Wk 1 (Bb 2) ?_
   refine Wk 0 (Ba 1) ?_
   refine Wk 1 (Cb rfl rfl Jf3 (fun u hu=>Jdt _ _ _ u hL)) ?_
   refine Wt 0 rfl rfl (fun hg=>Bb 2) ?_
   refine Wt 0 rfl rfl (fun hg=>Ff) ?_
   refine Wt 0 rfl rfl (fun hg=>Ba 1) ?_
   refine Wt 0 rfl rfl (fun hg=>Cb rfl (ec_ (eg_ hg rfl) (ec_ (eg_ hg rfl) en_)) Jr6 (fun u hu=>Jje _ _ _ u hL)) ?_
   refine Wk 1 Pa ?_
   exact Wd (Qb (QS.head (⟨Jak c.a 0 (lw - 1) && Jak c.n 0 (ls - 1),c.a,0,c.n,0,none,0,0⟩) rfl rfl (J0u hc1 none 0)))
  refine Nz 2 ?_
  refine Wd (Qc (CS.cond rfl ?_ ?_))<;>intro hc2<;>try simp only [bq] at hc2
  ·
   refine Cs ?_
   refine CS.drawnBut 0 (k:=12) mixed rfl rfl rfl ?_
   refine Ar [0] ?_
   refine Ak 1 [2] rfl (Ba 0) ?_
   refine Ak 3 [4] rfl (Ba 0) ?_
   refine Ak 5 [6] rfl (Ba 0) ?_
   refine Ao 7 rfl ?_
   refine Ws 0 0 ?_
   refine Wd (Qa ?_)
   refine Ar [8] ?_
   refine Ao 9 rfl ?_
   refine Ws 0 0 ?_
   refine Wd (Qa ?_)
   refine Ar [10] ?_
   refine Ao 11 rfl ?_
   refine Ws 0 0 ?_
   refine Wd (Qa ?_)
   refine Ae ?_
   refine Qc (Ny 0 ?_)
   refine Wk 1 (Bb 2) ?_
   refine Wk 0 (Ba 1) ?_
   refine Wk 1 (Cb rfl rfl Jf3 (fun u hu=>Jdt _ _ _ u hL)) ?_
   refine Wt 0 rfl rfl (fun hg=>Bb 2) ?_
   refine Wt 0 rfl rfl (fun hg=>Ff) ?_
   refine Wt 0 rfl rfl (fun hg=>Ba 1) ?_
   refine Wt 0 rfl rfl (fun hg=>Cb rfl (ec_ (eg_ hg rfl) (ec_ (eg_ hg rfl) en_)) Jf3 (fun u hu=>Jdt _ _ _ u hL)) ?_
   refine Wk 1 Pa ?_
   refine Wt 0 rfl rfl (fun hg=>Ff) ?_
   refine Wt 0 rfl rfl (fun hg=>Ba 1) ?_
   refine Wt 0 rfl rfl (fun hg=>Ff) ?_
   refine Wt 0 rfl rfl (fun hg=>Ba 1) ?_
   refine Wt 0 rfl rfl (fun hg=>Fk) ?_
   refine Wk 1 Pa ?_
   refine Wt 0 rfl rfl (fun hg=>Ff) ?_
   refine Wt 0 rfl rfl (fun hg=>Ba 1) ?_
   refine Wt 0 rfl rfl (fun hg=>Cb rfl (ec_ (eg_ hg rfl) (ec_ rfl (ec_ rfl en_))) Jed (fun u hu=>Jce _ _ _ u)) ?_
   refine Wk 1 Pa ?_
   exact Wd (Qb (QS.head (⟨((Jak c.a 0 (lw - 1) && Jak c.b 0 (lw - 1)) && decide (c.a≤c.b)) && Jak c.n 0 100,c.a,c.b,c.n,0,none,0,0⟩) rfl rfl (Jy6 hc2 none 0)))
  refine Cs (Nz 2 ?_)
  refine Wd (Qc (CS.cond rfl ?_ ?_))<;>intro hc3<;>try simp only [bq] at hc3
  ·
   refine Ck (Qc (CS.cond rfl ?_ ?_))<;>intro hc4<;>try simp only [bq] at hc4
   ·
    refine Cs ?_
    refine CS.drawnBut 0 (k:=8) mixed rfl rfl rfl ?_
    refine Ar [0] ?_
    refine Ak 1 [2] rfl (Ba 0) ?_
    refine Ak 3 [4] rfl (Ba 0) ?_
    refine Ao 5 rfl ?_
    refine Ws 0 0 ?_
    refine Wd (Qa ?_)
    refine Ar [6] ?_
    refine Ao 7 rfl ?_
    refine Ws 0 0 ?_
    refine Wd (Qa ?_)
    refine Ae ?_
    refine Qc (Ny 0 ?_)
    refine Wk 1 (Bb 2) ?_
    refine Wk 0 (Ba 1) ?_
    refine Wk 1 (Cb rfl rfl Jf3 (fun u hu=>Jdt _ _ _ u hL)) ?_
    refine Wt 0 rfl rfl (fun hg=>Bb 2) ?_
    refine Wt 0 rfl rfl (fun hg=>Ff) ?_
    refine Wt 0 rfl rfl (fun hg=>Ba 1) ?_
    refine Wt 0 rfl rfl (fun hg=>Cb rfl (ec_ (eg_ hg rfl) (ec_ (eg_ hg rfl) en_)) Jf3 (fun u hu=>Jdt _ _ _ u hL)) ?_
    refine Wk 1 Pa ?_
    refine Wt 0 rfl rfl (fun hg=>Ff) ?_
    refine Wt 0 rfl rfl (fun hg=>Ba 1) ?_
    refine Wt 0 rfl rfl (fun hg=>Ff) ?_
    refine Wt 0 rfl rfl (fun hg=>Ba 1) ?_
    refine Wt 0 rfl rfl (fun hg=>Fr) ?_
    refine Wk 1 Pa ?_
    exact Wd (Qb (QS.head (⟨(Jak c.a 0 (lw - 1) && Jak c.b 0 (lw - 1)) && decide (c.a≠c.b),c.a,c.b,0,0,none,0,0⟩) rfl rfl (J0j hc3 none 0)))
   exact absurd hc3 hc4
  refine Ny 2 ?_
  refine Wd (Qc (CS.cond rfl ?_ ?_))<;>intro hc5<;>try simp only [bq] at hc5
  ·
   refine Cs ?_
   refine CS.drawnBut 0 (k:=8) mixed rfl rfl rfl ?_
   refine Ar [0] ?_
   refine Ak 1 [2] rfl (Ba 0) ?_
   refine Ak 3 [4] rfl (Ba 0) ?_
   refine Ao 5 rfl ?_
   refine Ws 0 0 ?_
   refine Wd (Qa ?_)
   refine Ar [6] ?_
   refine Ao 7 rfl ?_
   refine Ws 0 0 ?_
   refine Wd (Qa ?_)
   refine Ae ?_
   refine Qc (Ny 0 ?_)
   refine Wk 1 (Bb 2) ?_
   refine Wk 0 (Ba 1) ?_
   refine Wk 1 (Cb rfl rfl Jf3 (fun u hu=>Jdt _ _ _ u hL)) ?_
   refine Wt 0 rfl rfl (fun hg=>Bb 2) ?_
   refine Wt 0 rfl rfl (fun hg=>Ff) ?_
   refine Wt 0 rfl rfl (fun hg=>Ba 1) ?_
   refine Wt 0 rfl rfl (fun hg=>Cb rfl (ec_ (eg_ hg rfl) (ec_ (eg_ hg rfl) en_)) Jf3 (fun u hu=>Jdt _ _ _ u hL)) ?_
   refine Wk 1 Pa ?_
   refine Wt 0 rfl rfl (fun hg=>Ff) ?_
   refine Wt 0 rfl rfl (fun hg=>Ba 1) ?_
   refine Wt 0 rfl rfl (fun hg=>Ff) ?_
   refine Wt 0 rfl rfl (fun hg=>Ba 1) ?_
   refine Wt 0 rfl rfl (fun hg=>Fr) ?_
   refine Wk 1 Pa ?_
   exact Wd (Qb (QS.head (⟨(Jak c.a 0 (lw - 1) && Jak c.b 0 (lw - 1)) && decide (c.a≠c.b),c.a,c.b,0,0,none,0,0⟩) rfl rfl (J04 hc5 none 0)))
  refine Nz 2 ?_
  refine Wd (Qc (CS.cond rfl ?_ ?_))<;>intro hc6<;>try simp only [bq] at hc6
  ·
   refine Cs ?_
   refine CS.drawnBut 0 (k:=8) mixed rfl rfl rfl ?_
   refine Ar [0] ?_
   refine Ak 1 [2] rfl (Ba 0) ?_
   refine Ak 3 [4] rfl (Ba 0) ?_
   refine Ao 5 rfl ?_
   refine Ws 0 0 ?_
   refine Wd (Qa ?_)
   refine Ar [6] ?_
   refine Ao 7 rfl ?_
   refine Ws 0 0 ?_
   refine Wd (Qa ?_)
   refine Ae ?_
   refine Qc (Ny 0 ?_)
   refine Wk 1 (Bb 2) ?_
   refine Wk 0 (Ba 1) ?_
   refine Wk 1 (Cb rfl rfl Jr6 (fun u hu=>Jje _ _ _ u hL)) ?_
   refine Wt 0 rfl rfl (fun hg=>Ff) ?_
   refine Wt 0 rfl rfl (fun hg=>Ba 1) ?_
   refine Wt 0 rfl rfl (fun hg=>Ff) ?_
   refine Wt 0 rfl rfl (fun hg=>Ba 2) ?_
   refine Wt 0 rfl rfl (fun hg=>Cb rfl (ec_ (eg_ hg rfl) (ec_ rfl (ec_ (eg_ hg rfl) en_))) Jed (fun u hu=>Jce _ _ _ u)) ?_
   refine Wk 1 Pa ?_
   exact Wd (Qb (QS.head (⟨Jak c.n 0 (ls - 1) && Jak c.m 0 lw,0,0,c.n,c.m,none,0,0⟩) rfl rfl (J02 hc6 none 0)))
  refine Nz 2 ?_
  refine Wd (Qc (CS.cond rfl ?_ ?_))<;>intro hc7<;>try simp only [bq] at hc7
  ·
   refine Cs ?_
   refine CS.drawnBut 0 (k:=12) mixed rfl rfl rfl ?_
   refine Ar [0] ?_
   refine Ak 1 [2] rfl (Ba 0) ?_
   refine Ak 3 [4] rfl (Ba 0) ?_
   refine Ak 5 [6] rfl (Ba 0) ?_
   refine Ao 7 rfl ?_
   refine Ws 0 0 ?_
   refine Wd (Qa ?_)
   refine Ar [8] ?_
   refine Ao 9 rfl ?_
   refine Ws 0 0 ?_
   refine Wd (Qa ?_)
   refine Ar [10] ?_
   refine Ao 11 rfl ?_
   refine Ws 0 0 ?_
   refine Wd (Qa ?_)
   refine Ae ?_
   refine Qc (Ny 1 ?_)
   refine Wk 1 (Ba 1) ?_
   refine Wk 0 (Ba 2) ?_
   refine Wk 1 (Cb rfl rfl Jed (fun u hu=>Jce _ _ _ u)) ?_
   refine Wt 0 rfl rfl (fun hg=>Ff) ?_
   refine Wt 0 rfl rfl (fun hg=>Ba 1) ?_
   refine Wt 0 rfl rfl (fun hg=>Ff) ?_
   refine Wt 0 rfl rfl (fun hg=>Ba 2) ?_
   refine Wt 0 rfl rfl (fun hg=>Cb rfl (ec_ (eg_ hg rfl) (ec_ rfl (ec_ (eg_ hg rfl) en_))) Jed (fun u hu=>Jce _ _ _ u)) ?_
   refine Wk 1 Pa ?_
   refine Wt 0 rfl rfl (fun hg=>Bb 2) ?_
   refine Wt 0 rfl rfl (fun hg=>Ff) ?_
   refine Wt 0 rfl rfl (fun hg=>Ba 1) ?_
   refine Wt 0 rfl rfl (fun hg=>Cb rfl (ec_ (eg_ hg rfl) (ec_ (eg_ hg rfl) en_)) Jye (fun u hu=>Jyp _ _ _ _ u hL (h1.st hu))) ?_
   refine Wk 1 Pa ?_
   exact Wd (Qb (QS.head (⟨(Jak c.n 0 lw && Jak c.m 0 lw) && Jdg lw ls c.g,0,0,c.n,c.m,p,c.g.length,cap⟩) rfl rfl (Jy0 hc7 p cap)))
  refine Nz 2 ?_
  refine Wd (Qc (CS.cond rfl ?_ ?_))<;>intro hc8<;>try simp only [bq] at hc8
  ·
   refine Cs ?_
   refine CS.drawnBut 0 (k:=12) mixed rfl rfl rfl ?_
   refine Ar [0] ?_
   refine Ak 1 [2] rfl (Ba 0) ?_
   refine Ak 3 [4] rfl (Ba 0) ?_
   refine Ak 5 [6] rfl (Ba 0) ?_
   refine Ao 7 rfl ?_
   refine Ws 0 0 ?_
   refine Wd (Qa ?_)
   refine Ar [8] ?_
   refine Ao 9 rfl ?_
   refine Ws 0 0 ?_
   refine Wd (Qa ?_)
   refine Ar [10] ?_
   refine Ao 11 rfl ?_
   refine Ws 0 0 ?_
   refine Wd (Qa ?_)
   refine Ae ?_
   refine Qc (Ny 0 ?_)
   refine Wk 1 (Bb 2) ?_
   refine Wk 0 (Ba 1) ?_
   refine Wk 1 (Cb rfl rfl Jf3 (fun u hu=>Jdt _ _ _ u hL)) ?_
   refine Wt 0 rfl rfl (fun hg=>Ff) ?_
   refine Wt 0 rfl rfl (fun hg=>Ba 1) ?_
   refine Wt 0 rfl rfl (fun hg=>Cb rfl (ec_ (eg_ hg rfl) (ec_ rfl (ec_ rfl en_))) Jed (fun u hu=>Jce _ _ _ u)) ?_
   refine Wk 1 Pa ?_
   refine Wt 0 rfl rfl (fun hg=>Ff) ?_
   refine Wt 0 rfl rfl (fun hg=>Ba 1) ?_
   refine Wt 0 rfl rfl (fun hg=>Ff) ?_
   refine Wt 0 rfl rfl (fun hg=>Ba 1) ?_
   refine Wt 0 rfl rfl (fun hg=>Jl7 (eg_ hg rfl) rfl (by simp [Jak] at hg; omega)) ?_
   refine Wt 0 rfl rfl (fun hg=>Cb rfl (ec_ (eg_ hg rfl) (ec_ rfl (ec_ (eg_ hg rfl) en_))) Jed (fun u hu=>Jce _ _ _ u)) ?_
   refine Wk 1 Pa ?_
   exact Wd (Qb (QS.head (⟨(Jak c.a 0 (lw - 1) && Jak c.n 2 10) && Jak c.m 0 (c.n - 1),c.a,0,c.n,c.m,none,0,0⟩) rfl rfl (J0o hc8 none 0)))
  exact Ck (Qb (QS.head (⟨false,0,0,0,0,none,0,0⟩) rfl rfl (Ju2 hc1 hc2 hc3 hc5 hc6 hc7 hc8 _ _ _ _ _ _ _)))
 intro s t hs
 refine Nz 2 ?_
 refine Wt 0 rfl rfl (fun hg=>Ff) ?_
 refine Wt 0 rfl rfl (fun hg=>Ba 1) ?_
 refine Wt 0 rfl rfl (fun hg=>Ff) ?_
 refine Wt 0 rfl rfl (fun hg=>Ba 0) ?_
 refine Wt 0 rfl rfl (fun hg=>Fq) ?_
 refine Wk 1 Pa ?_
 refine Wt 0 rfl rfl (fun hg=>Ff) ?_
 refine Wt 0 rfl rfl (fun hg=>Ba 1) ?_
 refine Wt 0 rfl rfl (fun hg=>Ff) ?_
 refine Wt 0 rfl rfl (fun hg=>Ba 0) ?_
 refine Wt 0 rfl rfl (fun hg=>Fq) ?_
 refine Wk 1 Pa ?_
 refine Wt 0 rfl rfl (fun hg=>Ff) ?_
 refine Wt 0 rfl rfl (fun hg=>Ba 1) ?_
 refine Wt 0 rfl rfl (fun hg=>Ff) ?_
 refine Wt 0 rfl rfl (fun hg=>Ba 0) ?_
 refine Wt 0 rfl rfl (fun hg=>Fq) ?_
 refine Wk 1 Pa ?_
 refine Wt 0 rfl rfl (fun hg=>Ff) ?_
 refine Wt 0 rfl rfl (fun hg=>Ba 1) ?_
 refine Wt 0 rfl rfl (fun hg=>Ff) ?_
 refine Wt 0 rfl rfl (fun hg=>Ba 0) ?_
 refine Wt 0 rfl rfl (fun hg=>Fq) ?_
 refine Wk 1 Pa ?_
 refine Wt 0 rfl rfl (fun hg=>Ff) ?_
 refine Wt 0 rfl rfl (fun hg=>Ba 1) ?_
 refine Wt 0 rfl rfl (fun hg=>Na (eg_ hg rfl)) ?_
 refine Wt 0 rfl rfl (fun hg=>Ff) ?_
 refine Wt 0 rfl rfl (fun hg=>Ba 0) ?_
 refine Wt 0 rfl rfl (fun hg=>Jgq sl86 (eg_ hg rfl) ⟨_,_,rfl⟩) ?_
 refine Wt 0 rfl rfl (fun hg=>Fq) ?_
 refine Wk 1 Pa ?_
 exact Wd (Qc (Cr (out1 rfl rfl (Jac (by rw [← hs]; rfl)))))
theorem J0h (lw ls:Int) (c:Clue) (gv:Value) (xs:List Int) (v:Value) (w:World) (hU:Use lw ls c xs) (hg1:SlI w gv c.g) (h1:SlI w v xs) :
  Calls Tryz.prog 197 #[.agg #[.int .i64 c.k,.int .i64 c.a,.int .i64 c.b,.int .i64 c.n,.int .i64 c.m,gv,.bool c.nt],v] w (RetB w (.bool (Jeo c xs))):=by
 have hl1:=h1.le
 have hln:=hU.len
 obtain ⟨f1,f2,f3,f7,fk1,fk2,fn⟩:=hU.facts
 obtain ⟨hgn,p,cap,rfl,hcap,hp⟩:=hg1
 have hg1:SlI w (.slice p c.g.length cap) c.g:=⟨hgn,p,cap,rfl,hcap,hp⟩
 clear hgn hcap hp
 refine enter Tryz.func197 rfl rfl (Nat.le_of_ble_eq_true rfl) ?_
 refine Nz 0 ?_
 refine Wb 1 rfl rfl (fun _=>rfl) (fun _=>rfl) fun b2 hb2=>?_
 refine Wd (Qc (Cs (Nz 1 ?_)))
 refine Wk 0 (Ba 0) ?_
 refine Wd (Qc (Ce (Nz 2 ?_)))
 refine Wd (Qc (CS.cond rfl ?_ ?_))<;>intro hc1<;>try simp only [bq] at hc1
 ·
  refine Cs (Dr mixed 2 ?_)
  refine Dk 0 (Ba 0) ?_
  refine Dk 0 Xa ?_
  refine Dk 1 Ia ?_
  refine Dk 2 (Ba 0) ?_
  exact Dd (Qc (Cr (Qs (Qr (out1 rfl rfl (Jac (by simp [Jeo,hc1])))))))
 refine Nz 2 ?_
 refine Wd (Qc (CS.cond rfl ?_ ?_))<;>intro hc2<;>try simp only [bq] at hc2
 ·
  have fk:=f2 hc2
  have h2:=h1.sub (lo:=c.a.toNat) (hi:=(c.b+1).toNat) (by omega) (by omega)
  have hpl:=Ju8 fk.1 fk.2.1 fk.2.2
  change SlI w _ (part xs c.a c.b) at h2
  refine Nz 1 ?_
  refine Wd (Qc (Cs (Nz 2 ?_)))
  refine Wk 1 (Ba 0) ?_
  refine Wk 0 (Ba 0) ?_
  refine Wk 0 Za ?_
  refine Wk 0 (Ju9 sl86 rfl rfl rfl h1 (by omega) (by omega) (by omega)) ?_
  refine Wk 1 Na ?_
  refine Wd (Qc (Ce ?_))
  refine CS.loopM (σ:=Int × Int) [7,36,37,38,39,40,41,42] (fun s=>[(5,.int .i64 s.2),(35,.int .i64 s.1)]) (fun _=>_) (fun s=>0≤s.1∧s.1≤(part xs c.a c.b).length∧s.2=lsum ((part xs c.a c.b).take s.1.toNat)) (fun s=>((part xs c.a c.b).length - s.1).toNat) (0,0) (fun _ _=>rfl) rfl rfl ⟨by simp,by simp,rfl⟩ ?_
  intro s t hs
  obtain ⟨hs1,hs2,hs3⟩:=hs
  refine Nz 1 ?_
  refine Wd (Qc (Cs (CS.cond rfl ?_ ?_)))<;>intro hc3<;>try simp only [bq] at hc3
  ·
   have hb1:=hU.psum s.1.toNat
   have hb2:=hU.nth (i:=c.a+s.1) (by omega) (by omega)
   have hb3:=Jvw fk.1 (i:=c.a+s.1) (by omega) (b:=c.b) (by omega) fk.2.2
   have e3:c.a+s.1 - c.a=s.1:=by omega
   rw [e3] at hb3
   refine Ck (Qc (Cs (Ce (Nz 0 ?_))))
   refine Wk 0 Xa ?_
   refine Wk 1 Ia ?_
   refine Wd (Qc (Ny 2 ?_))
   refine Wk 1 Za ?_
   refine Wd (Qb (Qc (Ny 0 ?_)))
   refine Wk 1 Za ?_
   exact Wd (QS.head ((s.1+1,s.2+nth (part xs c.a c.b) s.1)) rfl rfl ⟨⟨by simp; omega,by simp; omega,by simp only; rw [Ja2 _ hs1 (by omega),Jkv,hs3]⟩,by simp; omega⟩)
  refine Cv (Qe (Qe (Qx (Qc (Nz 2 ?_)))))
  refine Wk 2 (Ba 0) ?_
  exact Wd (Qc (Cr (Qs (Qr (out1 rfl rfl (Jac (by rw [hs3,Jwv _ (by omega)]; simp [Jeo,hc2])))))))
 refine Nz 2 ?_
 refine Wd (Qc (CS.cond rfl ?_ ?_))<;>intro hc4<;>try simp only [bq] at hc4
 ·
  refine Cs (Dr mixed 2 ?_)
  refine Dk 0 (Ba 0) ?_
  refine Dk 0 Xa ?_
  refine Dk 2 Ia ?_
  refine Dk 0 (Ba 0) ?_
  refine Dk 0 Xa ?_
  refine Dk 2 Ia ?_
  exact Dd (Qc (Cr (Qs (Qr (out1 rfl rfl (Jac (by simp [Jeo,hc4])))))))
 refine Nz 2 ?_
 refine Wd (Qc (CS.cond rfl ?_ ?_))<;>intro hc5<;>try simp only [bq] at hc5
 ·
  refine Cs (Dr mixed 2 ?_)
  refine Dk 0 (Ba 0) ?_
  refine Dk 0 Xa ?_
  refine Dk 2 Ia ?_
  refine Dk 0 (Ba 0) ?_
  refine Dk 0 Xa ?_
  refine Dk 2 Ia ?_
  exact Dd (Qc (Cr (Qs (Qr (out1 rfl rfl (Jac (by simp [Jeo,hc5])))))))
 refine Nz 2 ?_
 refine Wd (Qc (CS.cond rfl ?_ ?_))<;>intro hc6<;>try simp only [bq] at hc6
 ·
  refine Nz 1 ?_
  refine Wd (Qc (Cs (Nz 1 ?_)))
  refine Wk 1 Na ?_
  refine Wd (Qc (Ce ?_))
  refine CS.loopM (σ:=Int × Int) [10,78,79,80,81,82,83,84,85,86,87] (fun s=>[(8,.int .i64 s.2),(77,.int .i64 s.1)]) (fun _=>_) (fun s=>0≤s.1∧s.1≤xs.length∧s.2=cnt (xs.take s.1.toNat) c.n) (fun s=>(xs.length - s.1).toNat) (0,0) (fun _ _=>rfl) rfl rfl ⟨by simp,by simp,rfl⟩ ?_
  intro s t hs
  obtain ⟨hs1,hs2,hs3⟩:=hs
  have hbd:=Je5 (xs.take s.1.toNat) c.n
  have hlt:=List.length_take_le s.1.toNat xs
  refine Nz 1 ?_
  refine Wd (Qc (Cs (CS.cond rfl ?_ ?_)))<;>intro hc7<;>try simp only [bq] at hc7
  ·
   refine Ck (Qc (Cs (Ce (Nz 0 ?_))))
   refine Wk 0 Xa ?_
   refine Wk 1 Ia ?_
   refine Wd (Qc (Nz 2 ?_))
   refine Wk 1 (Ba 0) ?_
   refine Wd (Qc (CS.cond rfl ?_ ?_))<;>intro hc8<;>try simp only [bq] at hc8
   ·
    refine Ny 1 ?_
    refine Wk 1 Za ?_
    refine Wd (Qb (Qc (Ny 0 ?_)))
    refine Wk 1 Za ?_
    exact Wd (QS.head ((s.1+1,s.2+1)) rfl rfl ⟨⟨by simp; omega,by simp; omega,by simp only; rw [Ja2 xs hs1 (by omega),Jfc,hs3]; simp [hc8]⟩,by simp; omega⟩)
   refine Ck (Qb (Qc (Ny 0 ?_)))
   refine Wk 1 Za ?_
   exact Wd (QS.head ((s.1+1,s.2)) rfl rfl ⟨⟨by simp; omega,by simp; omega,by simp only; rw [Ja2 xs hs1 (by omega),Jfc,hs3]; simp [hc8]⟩,by simp; omega⟩)
  refine Cv (Qe (Qe (Qx (Qc (Nz 2 ?_)))))
  refine Wk 2 (Ba 0) ?_
  exact Wd (Qc (Cr (Qs (Qr (out1 rfl rfl (Jac (by rw [hs3,Jge xs (by omega)]; simp [Jeo,hc6])))))))
 refine Nz 2 ?_
 refine Wd (Qc (CS.cond rfl ?_ ?_))<;>intro hc9<;>try simp only [bq] at hc9
 ·
  refine Nz 2 ?_
  refine Wk 0 (Ba 0) ?_
  refine Wk 5 (Cb rfl rfl J3c (fun u hu=>Jwq _ _ _ _ u (h1.st hu) (hg1.st hu) (hU.guess hc9).1 (by omega) (Jgk hU.lk hU.cd).2 (Jgk hU.lk (hU.guess hc9).2).2)) ?_
  refine Wd (Qc (Nz 2 ?_))
  refine Wk 2 (Ba 0) ?_
  refine Wt 0 rfl rfl (fun hg=>Fm) ?_
  refine Wt 0 rfl rfl (fun hg=>Ff) ?_
  refine Wt 0 rfl rfl (fun hg=>Ba 0) ?_
  refine Wt 0 rfl rfl (fun hg=>Fq) ?_
  refine Wk 1 Pa ?_
  exact Wd (Qc (Cr (Qs (Qr (out1 rfl rfl (Jac (by simp [Jeo,hc9])))))))
 refine Ck (Qb (Qc (Cs (Dr mixed 2 ?_))))
 refine Dk 0 (Ba 0) ?_
 refine Dk 0 Xa ?_
 refine Dk 1 Ia ?_
 refine Dk 0 (Ba 0) ?_
 refine Dk 1 (Jle rfl rfl (by omega) (by omega)) ?_
 refine Dk 2 (Ba 0) ?_
 exact Dd (Qc (Cr (out1 rfl rfl (Jac (by have e7:c.k=7:=(by omega); simp [Jeo,e7])))))
theorem Jof (xs:List (Clue)) (v:Value) (gs:List Value) (w:World) (h1:ClS w v xs gs) (g:Nat) (lb:List Value) (p:Clue→Bool) (hg:Ent Tryz.prog g)
  (hp:∀ u,Below w.heap.size w u→∀ i:Int,0≤i→i < xs.length→Calls Tryz.prog g ([.agg #[.int .i64 (nth xs i).k,.int .i64 (nth xs i).a,.int .i64 (nth xs i).b,.int .i64 (nth xs i).n,.int .i64 (nth xs i).m,nth gs i,.bool (nth xs i).nt]]++lb:List Value).toArray u (RetB u (.bool (p (nth xs i))))) :
  Calls Tryz.prog 208 #[v,.func (.func g) #[] lb.toArray] w (RetB w (.int .i64 (idxF p xs))):=by
 have hl1:=h1.le
 refine enter Tryz.func208 rfl rfl (Nat.le_of_ble_eq_true rfl) ?_
 refine Nz 1 ?_
 refine Wd (Qc (Cs (Nz 1 ?_)))
 refine Wk 1 (Jd6 Jto rfl (by first | exact SlL.sp (by assumption) | exact ClS.sp (by assumption))) ?_
 refine Wd (Qc (Ce ?_))
 refine CS.loopM (σ:=Int) [4,5,9,10,11,12,13,14,15,16,17,18] (fun s=>[(8,.int .i64 s)]) (fun _=>_) (fun s=>0≤s∧s≤xs.length∧∀ j:Int,0≤j→j < s→p (nth xs j)=false) (fun s=>(xs.length - s).toNat) 0 (fun _ _=>rfl) rfl rfl ⟨by omega,by omega,fun j h1 h2=>by omega⟩ ?_
 intro s t hs
 obtain ⟨hs1,hs2,hs3⟩:=hs
 refine Nz 1 ?_
 refine Wd (Qc (Cs (CS.cond rfl ?_ ?_)))<;>intro hc1<;>try simp only [bq] at hc1
 ·
  refine Ck (Qc (Cs (Ce (Nz 2 ?_))))
  refine Wd (Qc (Nz 3 ?_))
  refine Wk 0 (Juf Jto rfl rfl (by assumption) (by omega) (by omega)) ?_
  refine Wk 0 (Jvx rfl (by assumption) (by omega) J5r) ?_
  refine Wk 0 (Cb rfl rfl hg (fun u hu=>hp u hu.below s (by omega) (by omega))) ?_
  refine Wd (Qc (CS.cond rfl ?_ ?_))<;>intro hc2<;>try simp only [bq] at hc2
  ·
   refine Nz 2 ?_
   exact Wd (Qc (Cr (Qs (Qr (Qr (Qs (Qr (out1 rfl rfl (Jac (by rw [Ja4 hs1 (by omega) hs3 hc2]))))))))))
  refine Ck (Qb (Qc (Ny 0 ?_)))
  refine Wk 1 Za ?_
  exact Wd (QS.head (s+1) rfl rfl ⟨⟨by omega,by omega,fun j h1 h2=>if hj:j=s then by rw [hj]; exact hc2 else hs3 j h1 (by omega)⟩,by omega⟩)
 refine Cv (Qe (Qe (Qx (Qc (Nz 1 ?_)))))
 exact Wd (Qc (Cr (out1 rfl rfl (Jac (by rw [Jba fun j h1 h2=>hs3 j h1 (by omega)])))))
theorem Jmv (xs:List (Clue)) (v:Value) (gs:List Value) (w:World) (h1:ClS w v xs gs) (g:Nat) (lb:List Value) (p:Clue→Bool) (hg:Ent Tryz.prog g)
  (hp:∀ u,Below w.heap.size w u→∀ i:Int,0≤i→i < xs.length→Calls Tryz.prog g ([.agg #[.int .i64 (nth xs i).k,.int .i64 (nth xs i).a,.int .i64 (nth xs i).b,.int .i64 (nth xs i).n,.int .i64 (nth xs i).m,nth gs i,.bool (nth xs i).nt]]++lb:List Value).toArray u (RetB u (.bool (p (nth xs i))))) :
  Calls Tryz.prog 205 #[v,.func (.func g) #[] lb.toArray] w (RetB w (.bool (xs.any p))):=by
 refine enter Tryz.func205 rfl rfl (Nat.le_of_ble_eq_true rfl) ?_
 refine Nz 1 ?_
 refine Wd (Qc (Nz 2 ?_))
 refine Wk 2 (Cb rfl rfl Jyf (fun u hu=>Jof xs v gs u (h1.st hu) g lb p hg (fun u2 h2=>hp u2 (Jav hu.below h2)))) ?_
 exact Wd (Qc (Cr (out1 rfl rfl (Jac (by rw [Jbu])))))
theorem Jsl (lw ls:Int) (c:Clue) (gv:Value) (xs:List Int) (v:Value) (w:World) (hU:Use lw ls c xs) (hg1:SlI w gv c.g) (h1:SlI w v xs) :
  Calls Tryz.prog 167 #[.agg #[.int .i64 c.k,.int .i64 c.a,.int .i64 c.b,.int .i64 c.n,.int .i64 c.m,gv,.bool c.nt],v] w (RetB w (.bool (Je9 c xs))):=by
 refine enter Tryz.func167 rfl rfl (Nat.le_of_ble_eq_true rfl) ?_
 refine Nz 0 ?_
 refine Wb 1 rfl rfl (fun _=>rfl) (fun _=>rfl) fun b2 hb2=>?_
 refine Wd (Qc (Cs (Dr mixed 0 ?_)))
 refine Dk 1 (Bb 0) ?_
 refine Dk 1 (Cb rfl rfl J1n (fun u hu=>J0h _ _ _ _ _ _ u hU (hg1.st hu) (h1.st hu))) ?_
 refine Dk 0 (Ba 0) ?_
 refine Dk 1 (Jzv rfl rfl Tryz.underlying4) ?_
 exact Dd (Qc (Cr (out1 rfl rfl (Jac rfl))))
theorem Jlg (lw ls:Int) (c:Clue) (gv:Value) (w:World) (hg1:SlI w gv c.g) :
  Calls Tryz.prog 166 #[.agg #[.int .i64 lw,.int .i64 ls],.agg #[.int .i64 c.k,.int .i64 c.a,.int .i64 c.b,.int .i64 c.n,.int .i64 c.m,gv,.bool c.nt]] w (RetB w (.int .i64 (Jd7 lw ls c))):=by
 have h1:=hg1
 refine enter Tryz.func166 rfl rfl (Nat.le_of_ble_eq_true rfl) ?_
 refine Nz 0 ?_
 refine Wb 0 rfl rfl (fun _=>rfl) (fun _=>rfl) fun b2 hb2=>?_
 refine Wb 1 rfl rfl (fun _=>rfl) (fun _=>rfl) fun b3 hb3=>?_
 refine Wd (Qc (Cs (Nz 0 ?_)))
 refine Wk 0 (Bb 1) ?_
 refine Wk 1 (Cb rfl rfl Jwj (fun u hu=>Ji5 _ _ u)) ?_
 refine Wd (Qc (Nz 2 ?_))
 refine Wd (Qc (CS.cond rfl ?_ ?_))<;>intro hc1<;>try simp only [bq] at hc1
 ·
  refine Nz 2 ?_
  exact Wd (Qc (Cr (Qr (out1 rfl rfl (Jac (by have:Jbf lw ls=false:=(by simpa [Jeg] using hc1); simp [Jd7,Jeg,this]))))))
 have hL:Jbf lw ls=true:=by simpa [Jeg] using hc1
 refine Ck (Qc (Cs (Nz 0 ?_)))
 refine Wk 0 (Bb 1) ?_
 refine Wk 0 (Bb 0) ?_
 refine Wk 1 (Cb rfl rfl Jyj (fun u hu=>Jyr _ _ _ _ u hL (h1.st hu))) ?_
 refine Wd (Qc (CS.cond rfl ?_ ?_))<;>intro hc2<;>try simp only [bq] at hc2
 ·
  refine Nz 1 ?_
  exact Wd (Qc (Cr (Qr (out1 rfl rfl (Jac (by simp [Jd7,hL,hc2]))))))
 refine Ck (Qc (Nz 1 ?_))
 exact Wd (Qc (Cr (out1 rfl rfl (Jac (by simp [Jd7,hL,hc2])))))
theorem Ji7 (lw ls:Int) (c:Clue) (gv:Value) (b:Nat) (e:TypeId) (w:World) (hL:Jbf lw ls=true) (hg1:SlI w gv c.g) (hb:BlkAt w b [.int .i64 lw,.int .i64 ls] e) :
  Calls Tryz.prog 206 #[.agg #[.int .i64 c.k,.int .i64 c.a,.int .i64 c.b,.int .i64 c.n,.int .i64 c.m,gv,.bool c.nt],.pointer (some ⟨b,0,none⟩)] w (RetB w (.bool (!Jbg lw ls c))):=by
 have h1:=hg1
 refine enter Tryz.func206 rfl rfl (Nat.le_of_ble_eq_true rfl) ?_
 refine Nz 0 ?_
 refine Wb 1 rfl rfl (fun _=>rfl) (fun _=>rfl) fun b2 hb2=>?_
 refine Wd (Qc (Nz 0 ?_))
 refine Wk 0 Gb ?_
 refine Wk 0 (Bb 0) ?_
 refine Wk 2 (Cb rfl rfl Jyj (fun u hu=>Jyr _ _ _ _ u hL (h1.st hu))) ?_
 exact Wd (Qc (Cr (out1 rfl rfl retB)))
theorem Jj7 (lw ls:Int) (cs:List Clue) (gs:List Value) (v:Value) (w:World) (h1:ClS w v cs gs) :
  Calls Tryz.prog 198 #[.agg #[.int .i64 lw,.int .i64 ls],v] w (RetB w (.int .i64 (Jc5 lw ls cs))):=by
 have hl1:=h1.le
 refine enter Tryz.func198 rfl rfl (Nat.le_of_ble_eq_true rfl) ?_
 refine Nz 0 ?_
 refine Wb 1 rfl rfl (fun _=>rfl) (fun _=>rfl) fun b2 hb2=>?_
 refine Wd (Qc (Cs (Nz 0 ?_)))
 refine Wk 0 (Bb 0) ?_
 refine Wk 1 (Cb rfl rfl Jwj (fun u hu=>Ji5 _ _ u)) ?_
 refine Wd (Qc (Nz 2 ?_))
 refine Wd (Qc (CS.cond rfl ?_ ?_))<;>intro hc1<;>try simp only [bq] at hc1
 ·
  refine Nz 2 ?_
  exact Wd (Qc (Cr (Qr (out1 rfl rfl (Jac (by have:Jbf lw ls=false:=(by simpa [Jeg] using hc1); simp [Jc5,Jeg,this]))))))
 have hL:Jbf lw ls=true:=by simpa [Jeg] using hc1
 refine Ck (Qc (Cs (Nz 1 ?_)))
 refine Wk 1 (Jd6 Jto rfl (by first | exact SlL.sp (by assumption) | exact ClS.sp (by assumption))) ?_
 refine Wd (Qc (CS.cond rfl ?_ ?_))<;>intro hc2<;>try simp only [bq] at hc2
 ·
  refine Nz 1 ?_
  exact Wd (Qc (Cr (Qr (out1 rfl rfl (Jac (by have:20 < (cs.length:Int):=(by omega); simp [Jc5,hL,this]))))))
 refine Ck (Qc (Cs (Nz 1 ?_)))
 refine Wk 0 (Jai rfl) ?_
 refine Wk 0 (Cb rfl rfl J4h (fun u hu=>Jmv cs v gs u (h1.st hu) _ [.pointer (some ⟨b2,0,none⟩)] (fun c => !Jbg lw ls c) J1m (fun u2 h2 i h3 h4=>Ji7 _ _ _ _ _ _ u2 hL (((h1.st hu).ext h2).el i h3 h4) ((Jap hu (j:=0) rfl).ext h2)))) ?_
 refine Wd (Qc (CS.cond rfl ?_ ?_))<;>intro hc3<;>try simp only [bq] at hc3
 ·
  refine Nz 1 ?_
  exact Wd (Qc (Cr (Qr (out1 rfl rfl (Jac (by have h20:¬ 20 < (cs.length:Int):=(by omega); have h3:cs.all (Jbg lw ls)=false:=(by simpa using hc3); simp [Jc5,hL,h20,h3]))))))
 refine Ck (Qc (Nz 1 ?_))
 exact Wd (Qc (Cr (out1 rfl rfl (Jac (by have h20:¬ 20 < (cs.length:Int):=(by omega); have h3:cs.all (Jbg lw ls)=true:=(by simpa using hc3); simp only [Jc5,hL,h20,h3,if_true,if_false])))))
theorem Jxw (lw ls:Int) (c:Clue) (gv:Value) (xs:List Int) (v:Value) (b:Nat) (e:TypeId) (w:World) (hU:Use lw ls c xs) (hg1:SlI w gv c.g) (h1:SlI w v xs) (hb:BlkAt w b [v] e) :
  Calls Tryz.prog 213 #[.agg #[.int .i64 c.k,.int .i64 c.a,.int .i64 c.b,.int .i64 c.n,.int .i64 c.m,gv,.bool c.nt],.pointer (some ⟨b,0,none⟩)] w (RetB w (.bool (!Je9 c xs))):=by
 refine enter Tryz.func213 rfl rfl (Nat.le_of_ble_eq_true rfl) ?_
 refine Nz 0 ?_
 refine Wb 1 rfl rfl (fun _=>rfl) (fun _=>rfl) fun b2 hb2=>?_
 refine Wd (Qc (Nz 0 ?_))
 refine Wk 0 (Bb 0) ?_
 refine Wk 0 Ga ?_
 refine Wk 2 (Cb rfl rfl Jyd (fun u hu=>Jsl _ _ _ _ _ _ u hU (hg1.st hu) (h1.st hu))) ?_
 exact Wd (Qc (Cr (out1 rfl rfl retB)))
theorem Jzt (lw ls:Int) (cs:List Clue) (gs:List Value) (v:Value) (xs:List Int) (xv:Value) (w:World) (hU:∀ c∈cs,Use lw ls c xs) (hk:ClS w v cs gs) (h1:SlI w xv xs) :
  Calls Tryz.prog 211 #[v,xv] w (RetB w (.int .i64 (Jo0 cs xs))):=by
 obtain ⟨p,cap,rfl⟩:=h1.shape
 refine enter Tryz.func211 rfl rfl (Nat.le_of_ble_eq_true rfl) ?_
 refine Nz 0 ?_
 refine Wb 1 rfl rfl (fun _=>rfl) (fun _=>rfl) fun b3 hb3=>?_
 refine Wd (Qc (Nz 1 ?_))
 refine Wk 0 (Jai rfl) ?_
 refine Wk 1 (Cb rfl rfl Jyf (fun u hu=>Jof cs v gs u (hk.st hu) _ [.pointer (some ⟨b3,0,none⟩)] (fun c => !Je9 c xs) J4a (fun u2 h2 i h3 h4=>Jxw _ _ _ _ _ _ _ _ u2 (hU _ (Jaj h3 h4)) (((hk.st hu).ext h2).el i h3 h4) ((h1.st hu).ext h2) ((Jap hu (j:=0) rfl).ext h2)))) ?_
 exact Wd (Qc (Cr (out1 rfl rfl (Jac rfl))))
theorem Jz7 (lw ls:Int) (c:Clue) (gv:Value) (xs:List Int) (v:Value) (w:World) (hg1:SlI w gv c.g) (h1:SlI w v xs) :
  Calls Tryz.prog 131 #[.agg #[.int .i64 lw,.int .i64 ls],.agg #[.int .i64 c.k,.int .i64 c.a,.int .i64 c.b,.int .i64 c.n,.int .i64 c.m,gv,.bool c.nt],v] w (RetB w (.tuple #[.bool (if Jf7 lw ls c xs=0 then Je9 c xs else false),.int .i64 (Jf7 lw ls c xs)])):=by
 refine enter Tryz.func131 rfl rfl (Nat.le_of_ble_eq_true rfl) ?_
 refine Nz 0 ?_
 refine Wb 0 rfl rfl (fun _=>rfl) (fun _=>rfl) fun b3 hb3=>?_
 refine Wb 2 rfl rfl (fun _=>rfl) (fun _=>rfl) fun b4 hb4=>?_
 refine Wd (Qc (Cs (Nz 0 ?_)))
 refine Wk 0 (Bb 1) ?_
 refine Wk 0 (Bb 0) ?_
 refine Wk 1 (Cb rfl rfl J2u (fun u hu=>Jlg _ _ _ _ u (hg1.st hu))) ?_
 refine Wd (Qc (Nz 2 ?_))
 refine Wd (Qc (CS.cond rfl ?_ ?_))<;>intro hc1<;>try simp only [bq] at hc1
 ·
  refine Nz 3 ?_
  exact Wd (Qc (Cr (Qr (out2 rfl rfl rfl (Jac (by simp [Jf7,hc1]))))))
 refine Ck (Qc (Cs (Nz 0 ?_)))
 refine Wk 1 (Bb 1) ?_
 refine Wk 1 (Cb rfl rfl J2t (fun u hu=>Jg5 _ _ _ _ u (h1.st hu))) ?_
 refine Wd (Qc (Nz 2 ?_))
 refine Wd (Qc (CS.cond rfl ?_ ?_))<;>intro hc2<;>try simp only [bq] at hc2
 ·
  refine Nz 3 ?_
  exact Wd (Qc (Cr (Qr (out2 rfl rfl rfl (Jac (by simp [Jf7,hc1,hc2]))))))
 have hU:=J1a hc1 hc2
 have hae:Jf7 lw ls c xs=0:=by simp [Jf7,hc1,hc2]
 refine Ck (Qc (Nz 0 ?_))
 refine Wk 1 (Bb 0) ?_
 refine Wk 2 (Cb rfl rfl Jyd (fun u hu=>Jsl _ _ _ _ _ _ u hU (hg1.st hu) (h1.st hu))) ?_
 exact Wd (Qc (Cr (out2 rfl rfl rfl (Jac (by simp [hae])))))
end Go.Proofs.YtfbfdnoodccgiaaGreatDoor
