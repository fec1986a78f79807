/- Merged texts of this proof (walks and plain laws), printed by a program of the prover. -/
import Derived.Test.YtdpbapffdmahnaaGreatDoorZa
import Derived.Test.YtdpbapffdmahnaaGreatDoorZc
set_option maxHeartbeats 8000000
namespace Go.Proofs.YtdpbapffdmahnaaGreatDoor
open Go.RowKit Go.Proofs
set_option maxRecDepth 100000
set_option linter.unusedVariables false
set_option linter.unusedSimpArgs false
theorem Jba (n low high:Int) (w:World):Calls Tryz.prog 65 #[.int .i64 n,.int .i64 low,.int .i64 high] w (RetB w (.bool (Jab n low high))):=by
 refine enter Tryz.func65 rfl rfl (Nat.le_of_ble_eq_true rfl) ?_
 refine Nz 1 ?_
 refine Wd (Qc (Nz 4 ?_))
 refine Wt 0 rfl rfl (fun hg=>Fm) ?_
 refine Wt 0 rfl rfl (fun hg=>Fm) ?_
 refine Wt 0 rfl rfl (fun hg=>Fk) ?_
 refine Wk 1 Pa ?_
 exact Wd (Qc (Cr (out1 rfl rfl retB)))
theorem Ja3 (n low high:Int) (w:World):Calls Tryz.prog 73 #[.int .i64 n,.int .i64 low,.int .i64 high] w (RetB w (.bool (Jab n low high))):=by
 refine enter Tryz.func73 rfl rfl (Nat.le_of_ble_eq_true rfl) ?_
 refine Nz 1 ?_
 refine Wd (Qc (Nz 4 ?_))
 refine Wt 0 rfl rfl (fun hg=>Fm) ?_
 refine Wt 0 rfl rfl (fun hg=>Fm) ?_
 refine Wt 0 rfl rfl (fun hg=>Fk) ?_
 refine Wk 1 Pa ?_
 exact Wd (Qc (Cr (out1 rfl rfl retB)))
theorem Jia (xs ys:List Int) (v1 v2:Value) (w:World) (h1:SlI w v1 xs) (h2:SlI w v2 ys) :
  Calls Tryz.prog 38 #[v1,v2] w (RetB w (.bool (decide (xs=ys)))):=by
 have hl1:=h1.le
 have hl2:=h2.le
 refine enter Tryz.func38 rfl rfl (Nat.le_of_ble_eq_true rfl) ?_
 refine Nz 1 ?_
 refine Wd (Qc (Cs (Nz 1 ?_)))
 refine Wk 1 Na ?_
 refine Wk 1 Na ?_
 refine Wd (Qc (CS.cond rfl ?_ ?_))<;>intro hc1<;>try simp only [bq] at hc1
 ·
  refine Nz 1 ?_
  exact Wd (Qc (Cr (Qr (out1 rfl rfl (Jan (Jl3 fun h=>by subst h; omega))))))
 refine Ck (Qc (Cs (Nz 1 ?_)))
 refine Wd (Qc (Ce ?_))
 refine CS.loopM (σ:=Int) [4,11,12,13,14,15,16,17,18,19,20,21,22,23,24,25] (fun s=>[(5,.int .i64 s)]) (fun _=>_) (fun s=>0≤s∧s≤xs.length∧xs.length=ys.length∧∀ j:Int,0≤j→j < s→nth xs j=nth ys j) (fun s=>(xs.length - s).toNat) 0 (fun _ _=>rfl) rfl rfl ⟨by omega,by omega,by omega,fun j h1 h2=>by omega⟩ ?_
 intro s t hs
 obtain ⟨hs1,hs2,hs3,hs4⟩:=hs
 refine Cs (Nz 2 ?_)
 refine Wk 1 Na ?_
 refine Wd (Qc (CS.cond rfl ?_ ?_))<;>intro hc2<;>try simp only [bq] at hc2
 ·
  refine Ck (Qc (Cs (Ce (Cs (Dr mixed 2 ?_)))))
  refine Dk 0 Xa ?_
  refine Dk 2 Ia ?_
  refine Dk 0 Xa ?_
  refine Dk 1 Ia ?_
  refine Dd (Qc (CS.cond rfl ?_ ?_))<;>intro hc3<;>try simp only [bq] at hc3
  ·
   refine Nz 1 ?_
   exact Wd (Qc (Cr (Qs (Qr (Qr (Qs (Qr (out1 rfl rfl (Jan (Jl3 fun h=>by subst h; omega))))))))))
  refine Ck (Qb (Qc (Ny 1 ?_)))
  refine Wk 1 Za ?_
  exact Wd (QS.head (s+1) rfl rfl ⟨⟨by omega,by omega,hs3,fun j h1 h2=>if hj:j=s then by rw [hj]; omega else hs4 j h1 (by omega)⟩,by omega⟩)
 refine Cv (Qe (Qe (Qx (Qc (Nz 1 ?_)))))
 exact Wd (Qc (Cr (out1 rfl rfl (Jan (Joh (Jmz hs3 fun i h1 h2=>hs4 i h1 (by omega)))))))
theorem Jfa (lw ls:Int) (w:World):Calls Tryz.prog 32 #[.agg #[.int .i64 lw,.int .i64 ls]] w (RetB w (.int .i64 (Jbo lw ls))):=by
 refine enter Tryz.func32 rfl rfl (Nat.le_of_ble_eq_true rfl) ?_
 refine Nz 0 ?_
 refine Wb 1 rfl rfl (fun _=>rfl) (fun _=>rfl) fun b1 hb1=>?_
 refine Wd (Qc (Cs (Nz 1 ?_)))
 refine Wk 0 (Ba 0) ?_
 refine Wk 2 (Cb rfl rfl Jdk (fun u hu=>Jba _ _ _ u)) ?_
 refine Wf 0 rfl rfl (fun hg=>Ff) ?_
 refine Wf 0 rfl rfl (fun hg=>Ba 0) ?_
 refine Wf 0 rfl rfl (fun hg=>Cb rfl (ec_ (eg_ hg rfl) (ec_ rfl (ec_ rfl en_))) Jdk (fun u hu=>Jba _ _ _ u)) ?_
 refine Wf 0 rfl rfl (fun hg=>Fn) ?_
 refine Wk 0 Po ?_
 refine Wd (Qc (CS.cond rfl ?_ ?_))<;>intro hc1<;>try simp only [bq] at hc1
 ·
  refine Nz 1 ?_
  exact Wd (Qc (Cr (Qr (out1 rfl rfl (Jan (by simp [Jbo,Jap]; rcases hc1 with h | h <;> simp [h]))))))
 refine Ck (Qc (Nz 1 ?_))
 exact Wd (Qc (Cr (out1 rfl rfl (Jan (by simp [Jbo,Jap,hc1])))))
theorem Jkx (lw ls:Int) (w:World):Calls Tryz.prog 35 #[.agg #[.int .i64 lw,.int .i64 ls]] w (RetB w (.int .i64 (Jbo lw ls))):=by
 refine enter Tryz.func35 rfl rfl (Nat.le_of_ble_eq_true rfl) ?_
 refine Nz 0 ?_
 refine Wb 1 rfl rfl (fun _=>rfl) (fun _=>rfl) fun b1 hb1=>?_
 refine Wd (Qc (Cs (Nz 1 ?_)))
 refine Wk 0 (Ba 0) ?_
 refine Wk 2 (Cb rfl rfl Jc0 (fun u hu=>Ja3 _ _ _ u)) ?_
 refine Wf 0 rfl rfl (fun hg=>Ff) ?_
 refine Wf 0 rfl rfl (fun hg=>Ba 0) ?_
 refine Wf 0 rfl rfl (fun hg=>Cb rfl (ec_ (eg_ hg rfl) (ec_ rfl (ec_ rfl en_))) Jc0 (fun u hu=>Ja3 _ _ _ u)) ?_
 refine Wf 0 rfl rfl (fun hg=>Fn) ?_
 refine Wk 0 Po ?_
 refine Wd (Qc (CS.cond rfl ?_ ?_))<;>intro hc1<;>try simp only [bq] at hc1
 ·
  refine Nz 1 ?_
  exact Wd (Qc (Cr (Qr (out1 rfl rfl (Jan (by simp [Jbo,Jap]; rcases hc1 with h | h <;> simp [h]))))))
 refine Ck (Qc (Nz 1 ?_))
 exact Wd (Qc (Cr (out1 rfl rfl (Jan (by simp [Jbo,Jap,hc1])))))
theorem Jfb (lw ls n:Int) (w:World) (hL:Jap lw ls=true):Calls Tryz.prog 71 #[.agg #[.int .i64 lw,.int .i64 ls],.int .i64 n] w (RetB w (.bool (Jab n 0 (ls - 1)))):=by
 have hl:=Jbl hL
 refine enter Tryz.func71 rfl rfl (Nat.le_of_ble_eq_true rfl) ?_
 refine Nz 0 ?_
 refine Wb 1 rfl rfl (fun _=>rfl) (fun _=>rfl) fun b2 hb2=>?_
 refine Wd (Qc (Nz 2 ?_))
 refine Wk 0 (Ba 0) ?_
 refine Wk 0 Zb ?_
 refine Wk 1 (Cb rfl rfl Jdk (fun u hu=>Jba _ _ _ u)) ?_
 exact Wd (Qc (Cr (out1 rfl rfl retB)))
theorem Jb8 (lw ls n:Int) (w:World) (hL:Jap lw ls=true):Calls Tryz.prog 70 #[.agg #[.int .i64 lw,.int .i64 ls],.int .i64 n] w (RetB w (.bool (Jab n 0 (lw - 1)))):=by
 have hl:=Jbl hL
 refine enter Tryz.func70 rfl rfl (Nat.le_of_ble_eq_true rfl) ?_
 refine Nz 0 ?_
 refine Wb 1 rfl rfl (fun _=>rfl) (fun _=>rfl) fun b2 hb2=>?_
 refine Wd (Qc (Nz 2 ?_))
 refine Wk 0 (Ba 0) ?_
 refine Wk 0 Zb ?_
 refine Wk 1 (Cb rfl rfl Jdk (fun u hu=>Jba _ _ _ u)) ?_
 exact Wd (Qc (Cr (out1 rfl rfl retB)))
theorem Jkh (xs:List (Int)) (v:Value) (w:World) (h1:SlI w v xs) (g:Nat) (lb:List Value) (p:Int→Bool) (hg:Ent Tryz.prog g)
  (hp:∀ u,Below w.heap.size w u→∀ i:Int,0≤i→i < xs.length→Calls Tryz.prog g ([.int .i64 (nth xs i)]++lb:List Value).toArray u (RetB u (.bool (p (nth xs i))))) :
  Calls Tryz.prog 129 #[v,.func (.func g) #[] lb.toArray] w (RetB w (.int .i64 (idxF p xs))):=by
 have hl1:=h1.le
 refine enter Tryz.func129 rfl rfl (Nat.le_of_ble_eq_true rfl) ?_
 refine Nz 1 ?_
 refine Wd (Qc (Cs (Nz 1 ?_)))
 refine Wk 1 Na ?_
 refine Wd (Qc (Ce ?_))
 refine CS.loopM (σ:=Int) [4,5,9,10,11,12,13,14,15,16,17,18] (fun s=>[(8,.int .i64 s)]) (fun _=>_) (fun s=>0≤s∧s≤xs.length∧∀ j:Int,0≤j→j < s→p (nth xs j)=false) (fun s=>(xs.length - s).toNat) 0 (fun _ _=>rfl) rfl rfl ⟨by omega,by omega,fun j h1 h2=>by omega⟩ ?_
 intro s t hs
 obtain ⟨hs1,hs2,hs3⟩:=hs
 refine Nz 1 ?_
 refine Wd (Qc (Cs (CS.cond rfl ?_ ?_)))<;>intro hc1<;>try simp only [bq] at hc1
 ·
  refine Ck (Qc (Cs (Ce (Nz 2 ?_))))
  refine Wd (Qc (Nz 3 ?_))
  refine Wk 0 Xa ?_
  refine Wk 0 Ia ?_
  refine Wk 0 (Cb rfl rfl hg (fun u hu=>hp u hu.below s (by omega) (by omega))) ?_
  refine Wd (Qc (CS.cond rfl ?_ ?_))<;>intro hc2<;>try simp only [bq] at hc2
  ·
   refine Nz 2 ?_
   exact Wd (Qc (Cr (Qs (Qr (Qr (Qs (Qr (out1 rfl rfl (Jan (by rw [Jc1 hs1 (by omega) hs3 hc2]))))))))))
  refine Ck (Qb (Qc (Ny 0 ?_)))
  refine Wk 1 Za ?_
  exact Wd (QS.head (s+1) rfl rfl ⟨⟨by omega,by omega,fun j h1 h2=>if hj:j=s then by rw [hj]; exact hc2 else hs3 j h1 (by omega)⟩,by omega⟩)
 refine Cv (Qe (Qe (Qx (Qc (Nz 1 ?_)))))
 exact Wd (Qc (Cr (out1 rfl rfl (Jan (by rw [Jd3 fun j h1 h2=>hs3 j h1 (by omega)])))))
theorem Jgb (xs:List (Int)) (v:Value) (w:World) (h1:SlI w v xs) (g:Nat) (lb:List Value) (p:Int→Bool) (hg:Ent Tryz.prog g)
  (hp:∀ u,Below w.heap.size w u→∀ i:Int,0≤i→i < xs.length→Calls Tryz.prog g ([.int .i64 (nth xs i)]++lb:List Value).toArray u (RetB u (.bool (p (nth xs i))))) :
  Calls Tryz.prog 92 #[v,.func (.func g) #[] lb.toArray] w (RetB w (.bool (xs.any p))):=by
 refine enter Tryz.func92 rfl rfl (Nat.le_of_ble_eq_true rfl) ?_
 refine Nz 1 ?_
 refine Wd (Qc (Nz 2 ?_))
 refine Wk 2 (Cb rfl rfl Jo1 (fun u hu=>Jkh xs v u (h1.st hu) g lb p hg (fun u2 h2=>hp u2 (Ja7 hu.below h2)))) ?_
 exact Wd (Qc (Cr (out1 rfl rfl (Jan (by rw [Je1])))))
theorem Jj5 (xs:List (List Int)) (v:Value) (gs:List Value) (w:World) (h1:SlL w v xs gs) (g:Nat) (lb:List Value) (p:List Int→Bool) (hg:Ent Tryz.prog g)
  (hp:∀ u,Below w.heap.size w u→∀ i:Int,0≤i→i < xs.length→Calls Tryz.prog g ([nth gs i]++lb:List Value).toArray u (RetB u (.bool (p (nth xs i))))) :
  Calls Tryz.prog 144 #[v,.func (.func g) #[] lb.toArray] w (RetB w (.int .i64 (idxF p xs))):=by
 have hl1:=h1.le
 refine enter Tryz.func144 rfl rfl (Nat.le_of_ble_eq_true rfl) ?_
 refine Nz 1 ?_
 refine Wd (Qc (Cs (Nz 1 ?_)))
 refine Wk 1 (Jbj Jmf rfl (by first | exact SlL.sp (by assumption) | exact ClS.sp (by assumption))) ?_
 refine Wd (Qc (Ce ?_))
 refine CS.loopM (σ:=Int) [4,5,9,10,11,12,13,14,15,16,17,18] (fun s=>[(8,.int .i64 s)]) (fun _=>_) (fun s=>0≤s∧s≤xs.length∧∀ j:Int,0≤j→j < s→p (nth xs j)=false) (fun s=>(xs.length - s).toNat) 0 (fun _ _=>rfl) rfl rfl ⟨by omega,by omega,fun j h1 h2=>by omega⟩ ?_
 intro s t hs
 obtain ⟨hs1,hs2,hs3⟩:=hs
 refine Nz 1 ?_
 refine Wd (Qc (Cs (CS.cond rfl ?_ ?_)))<;>intro hc1<;>try simp only [bq] at hc1
 ·
  refine Ck (Qc (Cs (Ce (Nz 2 ?_))))
  refine Wd (Qc (Nz 3 ?_))
  refine Wk 0 (Jk3 Jmf rfl rfl (by assumption) (by omega) (by omega)) ?_
  refine Wk 0 (Jmv rfl (by assumption) (by omega) tk32) ?_
  refine Wk 0 (Cb rfl rfl hg (fun u hu=>hp u hu.below s (by omega) (by omega))) ?_
  refine Wd (Qc (CS.cond rfl ?_ ?_))<;>intro hc2<;>try simp only [bq] at hc2
  ·
   refine Nz 2 ?_
   exact Wd (Qc (Cr (Qs (Qr (Qr (Qs (Qr (out1 rfl rfl (Jan (by rw [Jc1 hs1 (by omega) hs3 hc2]))))))))))
  refine Ck (Qb (Qc (Ny 0 ?_)))
  refine Wk 1 Za ?_
  exact Wd (QS.head (s+1) rfl rfl ⟨⟨by omega,by omega,fun j h1 h2=>if hj:j=s then by rw [hj]; exact hc2 else hs3 j h1 (by omega)⟩,by omega⟩)
 refine Cv (Qe (Qe (Qx (Qc (Nz 1 ?_)))))
 exact Wd (Qc (Cr (out1 rfl rfl (Jan (by rw [Jd3 fun j h1 h2=>hs3 j h1 (by omega)])))))
theorem Jg6 (xs:List (List Int)) (v:Value) (gs:List Value) (w:World) (h1:SlL w v xs gs) (g:Nat) (lb:List Value) (p:List Int→Bool) (hg:Ent Tryz.prog g)
  (hp:∀ u,Below w.heap.size w u→∀ i:Int,0≤i→i < xs.length→Calls Tryz.prog g ([nth gs i]++lb:List Value).toArray u (RetB u (.bool (p (nth xs i))))) :
  Calls Tryz.prog 107 #[v,.func (.func g) #[] lb.toArray] w (RetB w (.bool (xs.any p))):=by
 refine enter Tryz.func107 rfl rfl (Nat.le_of_ble_eq_true rfl) ?_
 refine Nz 1 ?_
 refine Wd (Qc (Nz 2 ?_))
 refine Wk 2 (Cb rfl rfl Jo4 (fun u hu=>Jj5 xs v gs u (h1.st hu) g lb p hg (fun u2 h2=>hp u2 (Ja7 hu.below h2)))) ?_
 exact Wd (Qc (Cr (out1 rfl rfl (Jan (by rw [Je1])))))
theorem Jme (lw ls n:Int) (b:Nat) (e:TypeId) (w:World) (hL:Jap lw ls=true) (hb:BlkAt w b [.int .i64 lw,.int .i64 ls] e) :
  Calls Tryz.prog 112 #[.int .i64 n,.pointer (some ⟨b,0,none⟩)] w (RetB w (.bool (!Jab n 0 (ls - 1)))):=by
 refine enter Tryz.func112 rfl rfl (Nat.le_of_ble_eq_true rfl) ?_
 refine Nz 1 ?_
 refine Wd (Qc (Nz 0 ?_))
 refine Wk 1 Gb ?_
 refine Wk 2 (Cb rfl rfl Jne (fun u hu=>Jfb _ _ _ u hL)) ?_
 exact Wd (Qc (Cr (out1 rfl rfl retB)))
theorem Jlx (lw ls:Int) (xs:List Int) (v:Value) (w:World) (hL:Jap lw ls=true) (h1:SlI w v xs) :
  Calls Tryz.prog 72 #[.agg #[.int .i64 lw,.int .i64 ls],v] w (RetB w (.bool (Ja0 lw ls xs))):=by
 refine enter Tryz.func72 rfl rfl (Nat.le_of_ble_eq_true rfl) ?_
 refine Nz 0 ?_
 refine Wb 1 rfl rfl (fun _=>rfl) (fun _=>rfl) fun b2 hb2=>?_
 refine Wd (Qc (Nz 1 ?_))
 refine Wk 1 Na ?_
 refine Wk 2 (Ba 0) ?_
 refine Wt 0 rfl rfl (fun hg=>Fm) ?_
 refine Wt 0 rfl rfl (fun hg=>Ja9 rfl) ?_
 refine Wt 0 rfl rfl (fun hg=>Cb rfl (ec_ (eg_ hg rfl) (ec_ (eg_ hg rfl) en_)) Jpl (fun u hu=>Jgb xs v u (h1.st hu) _ [.pointer (some ⟨b2,0,none⟩)] (fun x => !Jab x 0 (ls - 1)) Jnt (fun u2 h2 i _ _=>Jme _ _ _ _ _ u2 hL ((Jhe hu (j:=0) rfl).ext h2)))) ?_
 refine Wt 0 rfl rfl (fun hg=>Fn) ?_
 refine Wk 1 Pa ?_
 exact Wd (Qc (Cr (out1 rfl rfl (Jan (by simp [Ja0,List.all_eq_not_any_not])))))
theorem Je8 (lw ls:Int) (xs:List Int) (v:Value) (b:Nat) (e:TypeId) (w:World) (hL:Jap lw ls=true) (h1:SlI w v xs) (hb:BlkAt w b [.int .i64 lw,.int .i64 ls] e) :
  Calls Tryz.prog 108 #[v,.pointer (some ⟨b,0,none⟩)] w (RetB w (.bool (!Ja0 lw ls xs))):=by
 refine enter Tryz.func108 rfl rfl (Nat.le_of_ble_eq_true rfl) ?_
 refine Nz 1 ?_
 refine Wd (Qc (Nz 0 ?_))
 refine Wk 1 Gb ?_
 refine Wk 2 (Cb rfl rfl Jns (fun u hu=>Jlx _ _ _ _ u hL (h1.st hu))) ?_
 exact Wd (Qc (Cr (out1 rfl rfl retB)))
theorem Jfp (lw ls:Int) (xss:List (List Int)) (gs:List Value) (v:Value) (w:World) (h1:SlL w v xss gs) :
  Calls Tryz.prog 63 #[.agg #[.int .i64 lw,.int .i64 ls],v] w (RetB w (.int .i64 (if Jap lw ls then if xss.all (Ja0 lw ls) then 0 else 12 else 10))):=by
 refine enter Tryz.func63 rfl rfl (Nat.le_of_ble_eq_true rfl) ?_
 refine Nz 0 ?_
 refine Wb 1 rfl rfl (fun _=>rfl) (fun _=>rfl) fun b2 hb2=>?_
 refine Wd (Qc (Cs (Nz 0 ?_)))
 refine Wk 0 (Bb 0) ?_
 refine Wk 1 (Cb rfl rfl Jkr (fun u hu=>Jfa _ _ u)) ?_
 refine Wd (Qc (Nz 2 ?_))
 refine Wd (Qc (CS.cond rfl ?_ ?_))<;>intro hc1<;>try simp only [bq] at hc1
 ·
  refine Nz 2 ?_
  exact Wd (Qc (Cr (Qr (out1 rfl rfl (Jan (by have:Jap lw ls=false:=(by simpa [Jbo] using hc1); simp [Jbo,this]))))))
 have hL:Jap lw ls=true:=by simpa [Jbo] using hc1
 refine Ck (Qc (Cs (Nz 1 ?_)))
 refine Wk 0 (Ja9 rfl) ?_
 refine Wk 0 (Cb rfl rfl Jn4 (fun u hu=>Jg6 xss v gs u (h1.st hu) _ [.pointer (some ⟨b2,0,none⟩)] (fun xs => !Ja0 lw ls xs) Jn9 (fun u2 h2 i h3 h4=>Je8 _ _ _ _ _ _ u2 hL (((h1.st hu).ext h2).el i h3 h4) ((Jhe hu (j:=0) rfl).ext h2)))) ?_
 refine Wd (Qc (CS.cond rfl ?_ ?_))<;>intro hc2<;>try simp only [bq] at hc2
 ·
  refine Nz 1 ?_
  exact Wd (Qc (Cr (Qr (out1 rfl rfl (Jan (by simp [hL] at hc2 ⊢; simpa using hc2))))))
 refine Ck (Qc (Nz 1 ?_))
 exact Wd (Qc (Cr (out1 rfl rfl (Jan (by simp [hL] at hc2 ⊢; simpa using hc2)))))
theorem Jkk (lw ls:Int) (xs:List Int) (v:Value) (w:World) (hL:Jap lw ls=true) (h1:SlI w v xs) :
  Calls Tryz.prog 77 #[.agg #[.int .i64 lw,.int .i64 ls],v] w (RetB w (.bool (Ja0 lw ls xs))):=by
 have hl1:=h1.le
 have hl:=Jbl hL
 refine enter Tryz.func77 rfl rfl (Nat.le_of_ble_eq_true rfl) ?_
 refine Nz 0 ?_
 refine Wb 1 rfl rfl (fun _=>rfl) (fun _=>rfl) fun b2 hb2=>?_
 refine Wd (Qc (Cs (Nz 1 ?_)))
 refine Wk 1 Na ?_
 refine Wk 1 (Ba 0) ?_
 refine Wd (Qc (CS.cond rfl ?_ ?_))<;>intro hc1<;>try simp only [bq] at hc1
 ·
  refine Nz 1 ?_
  exact Wd (Qc (Cr (Qr (out1 rfl rfl (Jan (by rw [Jjf hc1]))))))
 refine Ck (Qc (Cs (Nz 1 ?_)))
 refine Wd (Qc (Ce ?_))
 refine CS.loopM (σ:=Int) [4,11,12,13,14,15,16,17,18,19,20,21,22,23,24,25] (fun s=>[(5,.int .i64 s)]) (fun _=>_) (fun s=>0≤s∧s≤xs.length∧∀ j:Int,0≤j→j < s→Jab (nth xs j) 0 (ls - 1)=true) (fun s=>(xs.length - s).toNat) 0 (fun _ _=>rfl) rfl rfl ⟨by omega,by omega,fun j h1 h2=>by omega⟩ ?_
 intro s t hs
 obtain ⟨hs1,hs2,hs3⟩:=hs
 refine Cs (Nz 2 ?_)
 refine Wk 1 Na ?_
 refine Wd (Qc (CS.cond rfl ?_ ?_))<;>intro hc2<;>try simp only [bq] at hc2
 ·
  refine Ck (Qc (Cs (Ce (Cs (Dr mixed 2 ?_)))))
  refine Dk 0 Xa ?_
  refine Dk 1 Ia ?_
  refine Dk 0 (Ba 0) ?_
  refine Dk 0 Zb ?_
  refine Dk 1 (Cb rfl rfl Jc0 (fun u hu=>Ja3 _ _ _ u)) ?_
  refine Dd (Qc (CS.cond rfl ?_ ?_))<;>intro hc3<;>try simp only [bq] at hc3
  ·
   refine Nz 1 ?_
   exact Wd (Qc (Cr (Qs (Qr (Qr (Qs (Qr (out1 rfl rfl (Jan (by rw [Jiv hs1 (by omega) hc3]))))))))))
  refine Ck (Qb (Qc (Ny 1 ?_)))
  refine Wk 1 Za ?_
  exact Wd (QS.head (s+1) rfl rfl ⟨⟨by omega,by omega,fun j h1 h2=>if hj:j=s then by rw [hj]; exact hc3 else hs3 j h1 (by omega)⟩,by omega⟩)
 refine Cv (Qe (Qe (Qx (Qc (Nz 1 ?_)))))
 exact Wd (Qc (Cr (out1 rfl rfl (Jan (by rw [Jix (by omega) fun j h1 h2=>hs3 j h1 (by omega)])))))
theorem Jhq (xs ys:List Int) (v1 v2:Value) (w:World) (h1:SlI w v1 xs) (h2:SlI w v2 ys) (hl:xs.length=ys.length) (hm:xs.length≤4)
  (hx:∀ x∈xs,0≤x∧x < 10) (hy:∀ x∈ys,0≤x∧x < 10) :
  Calls Tryz.prog 64 #[v1,v2] w (RetB w (.tuple #[.int .i64 (Ja1 xs ys),.int .i64 (Jbf xs ys 10 - Ja1 xs ys)])):=by
 refine enter Tryz.func64 rfl rfl (Nat.le_of_ble_eq_true rfl) ?_
 refine Nz 2 ?_
 refine Wd (Qc (Nz 0 ?_))
 refine Wl 0 Joa (fun _=>rfl) (fun _=>rfl) fun b6 hb6=>?_
 refine Wl 0 Joa (fun _=>rfl) (fun _=>rfl) fun b7 hb7=>?_
 refine Wd (Qc (Cs (Nz 1 ?_)))
 refine Wk 1 Na ?_
 refine Wd (Qc (Ce ?_))
 refine CS.loopM (σ:=Int × Int) [8,9,14,15,16,17,18,19,20,21,22,23,24,25,26,27,28,29,30,31,32,33,34,35,36,37,38,39] (fun s=>[(4,.int .i64 s.2),(13,.int .i64 s.1)]) (fun s=>[blk b7 (Jcn (ys.take s.1.toNat)) 161,blk b6 (Jcn (xs.take s.1.toNat)) 161]) (fun s=>0≤s.1∧s.1≤xs.length∧s.2=Ja1 (xs.take s.1.toNat) (ys.take s.1.toNat)) (fun s=>(xs.length - s.1).toNat) (0,0) (fun _ _=>rfl) rfl rfl ⟨by simp,by simp,by simp [Ja1]⟩ ?_
 intro s t hs
 obtain ⟨hs1,hs2,hs3⟩:=hs
 have hbd:=Jdn (xs.take s.1.toNat) (ys.take s.1.toNat)
 have hlt:=List.length_take_le s.1.toNat xs
 have hlt2:=List.length_take_le s.1.toNat ys
 refine Nz 1 ?_
 refine Wd (Qc (Cs (CS.cond rfl ?_ ?_)))<;>intro hc1<;>try simp only [bq] at hc1
 ·
  have hlx:s.1 < xs.length:=by omega
  have hly:s.1 < ys.length:=by omega
  have hnx:=hx _ (Jbc hs1 hlx)
  have hny:=hy _ (Jbc hs1 hly)
  have ct1:=Jd4 (xs.take s.1.toNat) (nth xs s.1)
  have ct2:=Jd4 (ys.take s.1.toNat) (nth ys s.1)
  refine Ck (Qc (Cs (Ce (Nz 1 ?_))))
  refine Wk 0 Xa ?_
  refine Wk 2 Ia ?_
  refine Wd (Qc (Cs (Nz 3 ?_)))
  refine Wk 0 Xa ?_
  refine Wk 1 Ia ?_
  refine Wd (Qc (CS.cond rfl ?_ ?_))<;>intro hc2<;>try simp only [bq] at hc2
  ·
   refine Ny 1 ?_
   refine Wk 1 Za ?_
   refine Wd (Qc (Nz 1 ?_))
   refine Wk 0 (Jau Jcg rfl rfl (by omega) (by omega)) ?_
   refine Wk 0 (Jaa (j:=1) rfl rfl (Jce hnx.1 hnx.2) tk3) ?_
   refine Wk 0 Za ?_
   refine Wk 0 (Jau Jcg rfl rfl (by omega) (by omega)) ?_
   refine WS.store (j:=1) rfl rfl (by simp [Jcc]; omega) rfl rfl tk3 (Jch _ _ _) rfl ?_
   refine Wd (Qc (Ny 2 ?_))
   refine Wk 0 Xa ?_
   refine Wk 0 Ia ?_
   refine Wk 0 (Jau Jcg rfl rfl (by omega) (by omega)) ?_
   refine Wk 0 (Jaa (j:=0) rfl rfl (Jce hny.1 hny.2) tk3) ?_
   refine Wk 0 Za ?_
   refine Wk 0 (Jau Jcg rfl rfl (by omega) (by omega)) ?_
   refine WS.store (j:=0) rfl rfl (by simp [Jcc]; omega) rfl rfl tk3 (Jch _ _ _) rfl ?_
   refine Wd (Qb (Qc (Ny 0 ?_)))
   refine Wk 1 Za ?_
   exact Wd (QS.head ((s.1+1,s.2+1)) rfl (by simp only [Jck hnx.1 hnx.2,Jck hny.1 hny.2,Jaq xs hs1 hlx,Jaq ys hs1 hly]) ⟨⟨by simp; omega,by simp; omega,by simp only; rw [Jdy xs ys hl hs1 (by omega),hs3]; simp [hc2]⟩,by simp; omega⟩)
  refine Ck (Qc (Nz 1 ?_))
  refine Wk 0 (Jau Jcg rfl rfl (by omega) (by omega)) ?_
  refine Wk 0 (Jaa (j:=1) rfl rfl (Jce hnx.1 hnx.2) tk3) ?_
  refine Wk 0 Za ?_
  refine Wk 0 (Jau Jcg rfl rfl (by omega) (by omega)) ?_
  refine WS.store (j:=1) rfl rfl (by simp [Jcc]; omega) rfl rfl tk3 (Jch _ _ _) rfl ?_
  refine Wd (Qc (Ny 2 ?_))
  refine Wk 0 Xa ?_
  refine Wk 0 Ia ?_
  refine Wk 0 (Jau Jcg rfl rfl (by omega) (by omega)) ?_
  refine Wk 0 (Jaa (j:=0) rfl rfl (Jce hny.1 hny.2) tk3) ?_
  refine Wk 0 Za ?_
  refine Wk 0 (Jau Jcg rfl rfl (by omega) (by omega)) ?_
  refine WS.store (j:=0) rfl rfl (by simp [Jcc]; omega) rfl rfl tk3 (Jch _ _ _) rfl ?_
  refine Wd (Qb (Qc (Ny 0 ?_)))
  refine Wk 1 Za ?_
  exact Wd (QS.head ((s.1+1,s.2)) rfl (by simp only [Jck hnx.1 hnx.2,Jck hny.1 hny.2,Jaq xs hs1 hlx,Jaq ys hs1 hly]) ⟨⟨by simp; omega,by simp; omega,by simp only; rw [Jdy xs ys hl hs1 (by omega),hs3]; simp [hc2]⟩,by simp; omega⟩)
 have e1:=Jda xs (i:=s.1) (by omega)
 have e2:=Jda ys (i:=s.1) (by omega)
 rw [e1,e2] at hs3
 have hb3:=Jdn xs ys
 have hb4:=Jcw xs ys 10
 refine Cv (Qe (Qe (Qx (Qc (Cs (Nz 1 ?_))))))
 refine Wd (Qc (Ce ?_))
 refine CS.loopM (σ:=Int × Int) [10,41,42,43,44,45,46,47,48,49,50,51,52] (fun s=>[(5,.int .i64 s.2),(40,.int .i64 s.1)]) (fun s=>[blk b7 (Jcn ys) 161,blk b6 (Jcn xs) 161]) (fun s=>0≤s.1∧s.1≤10∧s.2=Jbf xs ys s.1.toNat) (fun s=>(10 - s.1).toNat) (0,0) (fun _ _=>rfl) rfl (by rw [e1,e2]) ⟨by simp,by simp,by simp [Jbf]⟩ ?_
 intro r t hs
 obtain ⟨ks1,ks2,ks3⟩:=hs
 have kbd:=Jcw xs ys r.1.toNat
 have kb2:((r.1.toNat:Nat):Int) * (xs.length:Int)≤10 * 4:=Int.mul_le_mul (by omega) (by omega) (by omega) (by omega)
 have kc1:=Jd4 xs r.1
 have kc2:=Jd4 ys r.1
 refine Nz 1 ?_
 refine Wd (Qc (Cs (CS.cond rfl ?_ ?_)))<;>intro hc3<;>try simp only [bq] at hc3
 ·
  refine Ck (Qc (Cs (Ce (Nz 2 ?_))))
  refine Wd (Qc (Dr mixed 2 ?_))
  refine Dk 0 (Jau Jcg rfl rfl (by omega) (by omega)) ?_
  refine Dk 1 (Jaa (j:=1) rfl rfl (Jce (by omega) (by omega)) tk3) ?_
  refine Dk 0 (Jau Jcg rfl rfl (by omega) (by omega)) ?_
  refine Dk 0 (Jaa (j:=0) rfl rfl (Jce (by omega) (by omega)) tk3) ?_
  refine Dk 0 (Jmu rfl rfl) ?_
  refine Dk 1 Za ?_
  refine Dd (Qb (Qc (Ny 0 ?_)))
  refine Wk 1 Za ?_
  exact Wd (QS.head ((r.1+1,r.2+min (cnt xs r.1) (cnt ys r.1))) rfl rfl ⟨⟨by simp; omega,by simp; omega,by have e:(r.1+1).toNat=r.1.toNat+1:=(by omega); have e2:((r.1.toNat:Nat):Int)=r.1:=(by omega); simp only [e,Jbf,e2,ks3]⟩,by simp; omega⟩)
 have e3:r.1=10:=by omega
 rw [e3] at ks3
 have ks4:r.2=Jbf xs ys 10:=ks3
 refine Cv (Qe (Qe (Qx (Qc (Nz 3 ?_)))))
 refine Wk 2 Zb ?_
 exact Wd (Qc (Cr (out2 rfl rfl rfl (Jan (by rw [ks4,hs3])))))
theorem Jea (c d:Clue) (gv hv:Value) (w:World) (h1:SlI w gv c.g) (h2:SlI w hv d.g) :
  Calls Tryz.prog 16 #[.agg #[.int .i64 c.k,.int .i64 c.a,.int .i64 c.b,.int .i64 c.n,.int .i64 c.m,gv,.bool c.nt],.agg #[.int .i64 d.k,.int .i64 d.a,.int .i64 d.b,.int .i64 d.n,.int .i64 d.m,hv,.bool d.nt]] w (RetB w (.bool (decide (c=d)))):=by
 refine enter Tryz.func16 rfl rfl (Nat.le_of_ble_eq_true rfl) ?_
 refine Nz 0 ?_
 refine Wb 0 rfl rfl (fun _=>rfl) (fun _=>rfl) fun b2 hb2=>?_
 refine Wb 1 rfl rfl (fun _=>rfl) (fun _=>rfl) fun b3 hb3=>?_
 refine Wd (Qc (Nz 1 ?_))
 refine Wk 1 (Ba 1) ?_
 refine Wk 2 (Ba 0) ?_
 refine Wt 0 rfl rfl (fun hg=>Ff) ?_
 refine Wt 0 rfl rfl (fun hg=>Ba 1) ?_
 refine Wt 0 rfl rfl (fun hg=>Ff) ?_
 refine Wt 0 rfl rfl (fun hg=>Ba 0) ?_
 refine Wt 0 rfl rfl (fun hg=>Fq) ?_
 refine Wk 1 Pa ?_
 refine Wt 0 rfl rfl (fun hg=>Ff) ?_
 refine Wt 0 rfl rfl (fun hg=>Ba 1) ?_
 refine Wt 0 rfl rfl (fun hg=>Ff) ?_
 refine Wt 0 rfl rfl (fun hg=>Ba 0) ?_
 refine Wt 0 rfl rfl (fun hg=>Fq) ?_
 refine Wk 1 Pa ?_
 refine Wt 0 rfl rfl (fun hg=>Ff) ?_
 refine Wt 0 rfl rfl (fun hg=>Ba 1) ?_
 refine Wt 0 rfl rfl (fun hg=>Ff) ?_
 refine Wt 0 rfl rfl (fun hg=>Ba 0) ?_
 refine Wt 0 rfl rfl (fun hg=>Fq) ?_
 refine Wk 1 Pa ?_
 refine Wt 0 rfl rfl (fun hg=>Ff) ?_
 refine Wt 0 rfl rfl (fun hg=>Ba 1) ?_
 refine Wt 0 rfl rfl (fun hg=>Ff) ?_
 refine Wt 0 rfl rfl (fun hg=>Ba 0) ?_
 refine Wt 0 rfl rfl (fun hg=>Fq) ?_
 refine Wk 1 Pa ?_
 refine Wt 0 rfl rfl (fun hg=>Ff) ?_
 refine Wt 0 rfl rfl (fun hg=>Ba 1) ?_
 refine Wt 0 rfl rfl (fun hg=>Ff) ?_
 refine Wt 0 rfl rfl (fun hg=>Ba 0) ?_
 refine Wt 0 rfl rfl (fun hg=>Jmr (eg_ hg rfl) (eg_ hg rfl) Tryz.underlying4) ?_
 refine Wk 1 Pa ?_
 refine Wt 0 rfl rfl (fun hg=>Ff) ?_
 refine Wt 0 rfl rfl (fun hg=>Ba 1) ?_
 refine Wt 0 rfl rfl (fun hg=>Ff) ?_
 refine Wt 0 rfl rfl (fun hg=>Ba 0) ?_
 refine Wt 0 rfl rfl (fun hg=>Cb rfl (ec_ (eg_ hg rfl) (ec_ (eg_ hg rfl) en_)) Jpy (fun u hu=>Jia _ _ _ _ u (h1.st hu) (h2.st hu))) ?_
 refine Wk 1 Pa ?_
 exact Wd (Qc (Cr (out1 rfl rfl (Jan (by cases c; cases d; simp [Clue.mk.injEq,Bool.and_assoc,and_assoc]; grind)))))
theorem Jjt (lw ls:Int) (c:Clue) (gv:Value) (w:World) (hL:Jap lw ls=true) (h1:SlI w gv c.g) :
  Calls Tryz.prog 34 #[.agg #[.int .i64 lw,.int .i64 ls],.agg #[.int .i64 c.k,.int .i64 c.a,.int .i64 c.b,.int .i64 c.n,.int .i64 c.m,gv,.bool c.nt]] w (RetB w (.bool (Jao lw ls c))):=by
 have hl:=Jbl hL
 obtain ⟨hgn,p,cap,rfl,hcap,hp⟩:=h1
 have h1:SlI w (.slice p c.g.length cap) c.g:=⟨hgn,p,cap,rfl,hcap,hp⟩
 clear hgn hcap hp
 refine enter Tryz.func34 rfl rfl (Nat.le_of_ble_eq_true rfl) ?_
 refine Nz 0 ?_
 refine Wb 0 rfl rfl (fun _=>rfl) (fun _=>rfl) fun b2 hb2=>?_
 refine Wb 1 rfl rfl (fun _=>rfl) (fun _=>rfl) fun b3 hb3=>?_
 refine Wd (Qc (Nz 1 ?_))
 refine Wk 1 (Ba 0) ?_
 refine Wk 0 (Ba 0) ?_
 refine Wk 0 (Db Jfy zv47) ?_
 refine Wl 0 zv47 (fun _=>rfl) (fun _=>rfl) fun b5 hb5=>?_
 refine Wv 0 0 ?_
 refine Wd (Qc (Nz 1 ?_))
 refine Wd (Qc ?_)
 refine CS.cut (σ:=Used) [12,13,14,15,16,17,18,19,20,21,22,23,24,25,26,27,28,29,30,31,32,33,34,35,36,37,38,39,40,41,42,43,44,45,46,47,48,49,50,51,52,53,54,55,56,57,58,59,60,61,62,63,64,65,66,67,68,69,70,71,72,73,74,75,76,77,78,79,80,81,82,83,84,85,86,87,88,89,90,91,92,93,94,95,96,97,98,99,100,101,102,103,104,105,106,107,108,109,110,111,112,113,114,115,116,117,118,119,120,121,122,123,124,125,126,127,128,129,130,131,132,133,134,135,136,137,138,139,140,141,142,143,144,145,146,147,148,149,150,151,152,153,154,155,156,157,158,159,160,161,162,163,164,165,166] (fun s=>[(6,.bool s.is)]) (fun s=>[blk b5 [.int .i64 c.k,.int .i64 s.a,.int .i64 s.b,.int .i64 s.n,.int .i64 s.m,.slice s.q s.l s.cap,.bool c.nt] 47,blk b3 [.int .i64 c.k,.int .i64 c.a,.int .i64 c.b,.int .i64 c.n,.int .i64 c.m,.slice p c.g.length cap,.bool c.nt] 47,blk b2 [.int .i64 lw,.int .i64 ls] 89]) (fun s=>Jb9 c s=Jao lw ls c) (fun _ _=>rfl) ?_ ?_
 ·
  refine Nz 1 ?_
  refine Wk 0 (Ba 1) ?_
  refine Wd (Qc (Ce (Nz 2 ?_)))
  refine Wd (Qc (CS.cond rfl ?_ ?_))<;>intro hc1<;>try simp only [bq] at hc1
  ·
   refine Cs ?_
   refine CS.drawnBut 0 (k:=8) mixed rfl rfl rfl ?_
   refine Ar [0] ?_
   refine Ak 1 [2] rfl (Ba 0) ?_
   refine Ak 3 [4] rfl (Ba 0) ?_
   refine Ao 5 rfl ?_
   refine Ws 0 0 ?_
   refine Wd (Qa ?_)
   refine Ar [6] ?_
   refine Ao 7 rfl ?_
   refine Ws 0 0 ?_
   refine Wd (Qa ?_)
   refine Ae ?_
   refine Qc (Ny 0 ?_)
   refine Wk 1 (Bb 2) ?_
   refine Wk 0 (Ba 1) ?_
   refine Wk 1 (Cb rfl rfl Jfu (fun u hu=>Jb8 _ _ _ u hL)) ?_
   refine Wt 0 rfl rfl (fun hg=>Bb 2) ?_
   refine Wt 0 rfl rfl (fun hg=>Ff) ?_
   refine Wt 0 rfl rfl (fun hg=>Ba 1) ?_
   refine Wt 0 rfl rfl (fun hg=>Cb rfl (ec_ (eg_ hg rfl) (ec_ (eg_ hg rfl) en_)) Jne (fun u hu=>Jfb _ _ _ u hL)) ?_
   refine Wk 1 Pa ?_
   exact Wd (Qb (QS.head (⟨Jab c.a 0 (lw - 1) && Jab c.n 0 (ls - 1),c.a,0,c.n,0,none,0,0⟩) rfl rfl (Jmk hc1 none 0)))
  refine Nz 2 ?_
  refine Wd (Qc (CS.cond rfl ?_ ?_))<;>intro hc2<;>try simp only [bq] at hc2
  ·
   refine Cs ?_
   refine CS.drawnBut 0 (k:=12) mixed rfl rfl rfl ?_
   refine Ar [0] ?_
   refine Ak 1 [2] rfl (Ba 0) ?_
   refine Ak 3 [4] rfl (Ba 0) ?_
   refine Ak 5 [6] rfl (Ba 0) ?_
   refine Ao 7 rfl ?_
   refine Ws 0 0 ?_
   refine Wd (Qa ?_)
   refine Ar [8] ?_
   refine Ao 9 rfl ?_
   refine Ws 0 0 ?_
   refine Wd (Qa ?_)
   refine Ar [10] ?_
   refine Ao 11 rfl ?_
   refine Ws 0 0 ?_
   refine Wd (Qa ?_)
   refine Ae ?_
   refine Qc (Ny 0 ?_)
   refine Wk 1 (Bb 2) ?_
   refine Wk 0 (Ba 1) ?_
   refine Wk 1 (Cb rfl rfl Jfu (fun u hu=>Jb8 _ _ _ u hL)) ?_
   refine Wt 0 rfl rfl (fun hg=>Bb 2) ?_
   refine Wt 0 rfl rfl (fun hg=>Ff) ?_
   refine Wt 0 rfl rfl (fun hg=>Ba 1) ?_
   refine Wt 0 rfl rfl (fun hg=>Cb rfl (ec_ (eg_ hg rfl) (ec_ (eg_ hg rfl) en_)) Jfu (fun u hu=>Jb8 _ _ _ u hL)) ?_
   refine Wk 1 Pa ?_
   refine Wt 0 rfl rfl (fun hg=>Ff) ?_
   refine Wt 0 rfl rfl (fun hg=>Ba 1) ?_
   refine Wt 0 rfl rfl (fun hg=>Ff) ?_
   refine Wt 0 rfl rfl (fun hg=>Ba 1) ?_
   refine Wt 0 rfl rfl (fun hg=>Fk) ?_
   refine Wk 1 Pa ?_
   refine Wt 0 rfl rfl (fun hg=>Ff) ?_
   refine Wt 0 rfl rfl (fun hg=>Ba 1) ?_
   refine Wt 0 rfl rfl (fun hg=>Cb rfl (ec_ (eg_ hg rfl) (ec_ rfl (ec_ rfl en_))) Jdk (fun u hu=>Jba _ _ _ u)) ?_
   refine Wk 1 Pa ?_
   exact Wd (Qb (QS.head (⟨((Jab c.a 0 (lw - 1) && Jab c.b 0 (lw - 1)) && decide (c.a≤c.b)) && Jab c.n 0 100,c.a,c.b,c.n,0,none,0,0⟩) rfl rfl (Jnp hc2 none 0)))
  refine Cs (Nz 2 ?_)
  refine Wd (Qc (CS.cond rfl ?_ ?_))<;>intro hc3<;>try simp only [bq] at hc3
  ·
   refine Ck (Qc (CS.cond rfl ?_ ?_))<;>intro hc4<;>try simp only [bq] at hc4
   ·
    refine Cs ?_
    refine CS.drawnBut 0 (k:=8) mixed rfl rfl rfl ?_
    refine Ar [0] ?_
    refine Ak 1 [2] rfl (Ba 0) ?_
    refine Ak 3 [4] rfl (Ba 0) ?_
    refine Ao 5 rfl ?_
    refine Ws 0 0 ?_
    refine Wd (Qa ?_)
    refine Ar [6] ?_
    refine Ao 7 rfl ?_
    refine Ws 0 0 ?_
    refine Wd (Qa ?_)
    refine Ae ?_
    refine Qc (Ny 0 ?_)
    refine Wk 1 (Bb 2) ?_
    refine Wk 0 (Ba 1) ?_
    refine Wk 1 (Cb rfl rfl Jfu (fun u hu=>Jb8 _ _ _ u hL)) ?_
    refine Wt 0 rfl rfl (fun hg=>Bb 2) ?_
    refine Wt 0 rfl rfl (fun hg=>Ff) ?_
    refine Wt 0 rfl rfl (fun hg=>Ba 1) ?_
    refine Wt 0 rfl rfl (fun hg=>Cb rfl (ec_ (eg_ hg rfl) (ec_ (eg_ hg rfl) en_)) Jfu (fun u hu=>Jb8 _ _ _ u hL)) ?_
    refine Wk 1 Pa ?_
    refine Wt 0 rfl rfl (fun hg=>Ff) ?_
    refine Wt 0 rfl rfl (fun hg=>Ba 1) ?_
    refine Wt 0 rfl rfl (fun hg=>Ff) ?_
    refine Wt 0 rfl rfl (fun hg=>Ba 1) ?_
    refine Wt 0 rfl rfl (fun hg=>Fr) ?_
    refine Wk 1 Pa ?_
    exact Wd (Qb (QS.head (⟨(Jab c.a 0 (lw - 1) && Jab c.b 0 (lw - 1)) && decide (c.a≠c.b),c.a,c.b,0,0,none,0,0⟩) rfl rfl (Jl4 hc3 none 0)))
   exact absurd hc3 hc4
  refine Ny 2 ?_
  refine Wd (Qc (CS.cond rfl ?_ ?_))<;>intro hc5<;>try simp only [bq] at hc5
  ·
   refine Cs ?_
   refine CS.drawnBut 0 (k:=8) mixed rfl rfl rfl ?_
   refine Ar [0] ?_
   refine Ak 1 [2] rfl (Ba 0) ?_
   refine Ak 3 [4] rfl (Ba 0) ?_
   refine Ao 5 rfl ?_
   refine Ws 0 0 ?_
   refine Wd (Qa ?_)
   refine Ar [6] ?_
   refine Ao 7 rfl ?_
   refine Ws 0 0 ?_
   refine Wd (Qa ?_)
   refine Ae ?_
   refine Qc (Ny 0 ?_)
   refine Wk 1 (Bb 2) ?_
   refine Wk 0 (Ba 1) ?_
   refine Wk 1 (Cb rfl rfl Jfu (fun u hu=>Jb8 _ _ _ u hL)) ?_
   refine Wt 0 rfl rfl (fun hg=>Bb 2) ?_
   refine Wt 0 rfl rfl (fun hg=>Ff) ?_
   refine Wt 0 rfl rfl (fun hg=>Ba 1) ?_
   refine Wt 0 rfl rfl (fun hg=>Cb rfl (ec_ (eg_ hg rfl) (ec_ (eg_ hg rfl) en_)) Jfu (fun u hu=>Jb8 _ _ _ u hL)) ?_
   refine Wk 1 Pa ?_
   refine Wt 0 rfl rfl (fun hg=>Ff) ?_
   refine Wt 0 rfl rfl (fun hg=>Ba 1) ?_
   refine Wt 0 rfl rfl (fun hg=>Ff) ?_
   refine Wt 0 rfl rfl (fun hg=>Ba 1) ?_
   refine Wt 0 rfl rfl (fun hg=>Fr) ?_
   refine Wk 1 Pa ?_
   exact Wd (Qb (QS.head (⟨(Jab c.a 0 (lw - 1) && Jab c.b 0 (lw - 1)) && decide (c.a≠c.b),c.a,c.b,0,0,none,0,0⟩) rfl rfl (Jml hc5 none 0)))
  refine Nz 2 ?_
  refine Wd (Qc (CS.cond rfl ?_ ?_))<;>intro hc6<;>try simp only [bq] at hc6
  ·
   refine Cs ?_
   refine CS.drawnBut 0 (k:=8) mixed rfl rfl rfl ?_
   refine Ar [0] ?_
   refine Ak 1 [2] rfl (Ba 0) ?_
   refine Ak 3 [4] rfl (Ba 0) ?_
   refine Ao 5 rfl ?_
   refine Ws 0 0 ?_
   refine Wd (Qa ?_)
   refine Ar [6] ?_
   refine Ao 7 rfl ?_
   refine Ws 0 0 ?_
   refine Wd (Qa ?_)
   refine Ae ?_
   refine Qc (Ny 0 ?_)
   refine Wk 1 (Bb 2) ?_
   refine Wk 0 (Ba 1) ?_
   refine Wk 1 (Cb rfl rfl Jne (fun u hu=>Jfb _ _ _ u hL)) ?_
   refine Wt 0 rfl rfl (fun hg=>Ff) ?_
   refine Wt 0 rfl rfl (fun hg=>Ba 1) ?_
   refine Wt 0 rfl rfl (fun hg=>Ff) ?_
   refine Wt 0 rfl rfl (fun hg=>Ba 2) ?_
   refine Wt 0 rfl rfl (fun hg=>Cb rfl (ec_ (eg_ hg rfl) (ec_ rfl (ec_ (eg_ hg rfl) en_))) Jdk (fun u hu=>Jba _ _ _ u)) ?_
   refine Wk 1 Pa ?_
   exact Wd (Qb (QS.head (⟨Jab c.n 0 (ls - 1) && Jab c.m 0 lw,0,0,c.n,c.m,none,0,0⟩) rfl rfl (Jnl hc6 none 0)))
  refine Nz 2 ?_
  refine Wd (Qc (CS.cond rfl ?_ ?_))<;>intro hc7<;>try simp only [bq] at hc7
  ·
   refine Cs ?_
   refine CS.drawnBut 0 (k:=12) mixed rfl rfl rfl ?_
   refine Ar [0] ?_
   refine Ak 1 [2] rfl (Ba 0) ?_
   refine Ak 3 [4] rfl (Ba 0) ?_
   refine Ak 5 [6] rfl (Ba 0) ?_
   refine Ao 7 rfl ?_
   refine Ws 0 0 ?_
   refine Wd (Qa ?_)
   refine Ar [8] ?_
   refine Ao 9 rfl ?_
   refine Ws 0 0 ?_
   refine Wd (Qa ?_)
   refine Ar [10] ?_
   refine Ao 11 rfl ?_
   refine Ws 0 0 ?_
   refine Wd (Qa ?_)
   refine Ae ?_
   refine Qc (Ny 1 ?_)
   refine Wk 1 (Ba 1) ?_
   refine Wk 0 (Ba 2) ?_
   refine Wk 1 (Cb rfl rfl Jdk (fun u hu=>Jba _ _ _ u)) ?_
   refine Wt 0 rfl rfl (fun hg=>Ff) ?_
   refine Wt 0 rfl rfl (fun hg=>Ba 1) ?_
   refine Wt 0 rfl rfl (fun hg=>Ff) ?_
   refine Wt 0 rfl rfl (fun hg=>Ba 2) ?_
   refine Wt 0 rfl rfl (fun hg=>Cb rfl (ec_ (eg_ hg rfl) (ec_ rfl (ec_ (eg_ hg rfl) en_))) Jdk (fun u hu=>Jba _ _ _ u)) ?_
   refine Wk 1 Pa ?_
   refine Wt 0 rfl rfl (fun hg=>Bb 2) ?_
   refine Wt 0 rfl rfl (fun hg=>Ff) ?_
   refine Wt 0 rfl rfl (fun hg=>Ba 1) ?_
   refine Wt 0 rfl rfl (fun hg=>Cb rfl (ec_ (eg_ hg rfl) (ec_ (eg_ hg rfl) en_)) Jns (fun u hu=>Jlx _ _ _ _ u hL (h1.st hu))) ?_
   refine Wk 1 Pa ?_
   exact Wd (Qb (QS.head (⟨(Jab c.n 0 lw && Jab c.m 0 lw) && Ja0 lw ls c.g,0,0,c.n,c.m,p,c.g.length,cap⟩) rfl rfl (Jm3 hc7 p cap)))
  refine Nz 2 ?_
  refine Wd (Qc (CS.cond rfl ?_ ?_))<;>intro hc8<;>try simp only [bq] at hc8
  ·
   refine Cs ?_
   refine CS.drawnBut 0 (k:=12) mixed rfl rfl rfl ?_
   refine Ar [0] ?_
   refine Ak 1 [2] rfl (Ba 0) ?_
   refine Ak 3 [4] rfl (Ba 0) ?_
   refine Ak 5 [6] rfl (Ba 0) ?_
   refine Ao 7 rfl ?_
   refine Ws 0 0 ?_
   refine Wd (Qa ?_)
   refine Ar [8] ?_
   refine Ao 9 rfl ?_
   refine Ws 0 0 ?_
   refine Wd (Qa ?_)
   refine Ar [10] ?_
   refine Ao 11 rfl ?_
   refine Ws 0 0 ?_
   refine Wd (Qa ?_)
   refine Ae ?_
   refine Qc (Ny 0 ?_)
   refine Wk 1 (Bb 2) ?_
   refine Wk 0 (Ba 1) ?_
   refine Wk 1 (Cb rfl rfl Jfu (fun u hu=>Jb8 _ _ _ u hL)) ?_
   refine Wt 0 rfl rfl (fun hg=>Ff) ?_
   refine Wt 0 rfl rfl (fun hg=>Ba 1) ?_
   refine Wt 0 rfl rfl (fun hg=>Cb rfl (ec_ (eg_ hg rfl) (ec_ rfl (ec_ rfl en_))) Jdk (fun u hu=>Jba _ _ _ u)) ?_
   refine Wk 1 Pa ?_
   refine Wt 0 rfl rfl (fun hg=>Ff) ?_
   refine Wt 0 rfl rfl (fun hg=>Ba 1) ?_
   refine Wt 0 rfl rfl (fun hg=>Ff) ?_
   refine Wt 0 rfl rfl (fun hg=>Ba 1) ?_
   refine Wt 0 rfl rfl (fun hg=>Jgj (eg_ hg rfl) rfl (by simp [Jab] at hg; omega)) ?_
   refine Wt 0 rfl rfl (fun hg=>Cb rfl (ec_ (eg_ hg rfl) (ec_ rfl (ec_ (eg_ hg rfl) en_))) Jdk (fun u hu=>Jba _ _ _ u)) ?_
   refine Wk 1 Pa ?_
   exact Wd (Qb (QS.head (⟨(Jab c.a 0 (lw - 1) && Jab c.n 2 10) && Jab c.m 0 (c.n - 1),c.a,0,c.n,c.m,none,0,0⟩) rfl rfl (Jnf hc8 none 0)))
  exact Ck (Qb (QS.head (⟨false,0,0,0,0,none,0,0⟩) rfl rfl (Jj1 hc1 hc2 hc3 hc5 hc6 hc7 hc8 _ _ _ _ _ _ _)))
 intro s t hs
 refine Nz 2 ?_
 refine Wt 0 rfl rfl (fun hg=>Ff) ?_
 refine Wt 0 rfl rfl (fun hg=>Ba 1) ?_
 refine Wt 0 rfl rfl (fun hg=>Ff) ?_
 refine Wt 0 rfl rfl (fun hg=>Ba 0) ?_
 refine Wt 0 rfl rfl (fun hg=>Fq) ?_
 refine Wk 1 Pa ?_
 refine Wt 0 rfl rfl (fun hg=>Ff) ?_
 refine Wt 0 rfl rfl (fun hg=>Ba 1) ?_
 refine Wt 0 rfl rfl (fun hg=>Ff) ?_
 refine Wt 0 rfl rfl (fun hg=>Ba 0) ?_
 refine Wt 0 rfl rfl (fun hg=>Fq) ?_
 refine Wk 1 Pa ?_
 refine Wt 0 rfl rfl (fun hg=>Ff) ?_
 refine Wt 0 rfl rfl (fun hg=>Ba 1) ?_
 refine Wt 0 rfl rfl (fun hg=>Ff) ?_
 refine Wt 0 rfl rfl (fun hg=>Ba 0) ?_
 refine Wt 0 rfl rfl (fun hg=>Fq) ?_
 refine Wk 1 Pa ?_
 refine Wt 0 rfl rfl (fun hg=>Ff) ?_
 refine Wt 0 rfl rfl (fun hg=>Ba 1) ?_
 refine Wt 0 rfl rfl (fun hg=>Ff) ?_
 refine Wt 0 rfl rfl (fun hg=>Ba 0) ?_
 refine Wt 0 rfl rfl (fun hg=>Fq) ?_
 refine Wk 1 Pa ?_
 refine Wt 0 rfl rfl (fun hg=>Ff) ?_
 refine Wt 0 rfl rfl (fun hg=>Ba 1) ?_
 refine Wt 0 rfl rfl (fun hg=>Na (eg_ hg rfl)) ?_
 refine Wt 0 rfl rfl (fun hg=>Ff) ?_
 refine Wt 0 rfl rfl (fun hg=>Ba 0) ?_
 refine Wt 0 rfl rfl (fun hg=>Je5 sl32 (eg_ hg rfl) ⟨_,_,rfl⟩) ?_
 refine Wt 0 rfl rfl (fun hg=>Fq) ?_
 refine Wk 1 Pa ?_
 exact Wd (Qc (Cr (out1 rfl rfl (Jan (by rw [← hs]; rfl)))))
theorem Jlf (lw ls:Int) (c:Clue) (gv:Value) (w:World) (hL:Jap lw ls=true) (h1:SlI w gv c.g) :
  Calls Tryz.prog 37 #[.agg #[.int .i64 lw,.int .i64 ls],.agg #[.int .i64 c.k,.int .i64 c.a,.int .i64 c.b,.int .i64 c.n,.int .i64 c.m,gv,.bool c.nt]] w (RetB w (.bool (Jao lw ls c))):=by
 have hl:=Jbl hL
 obtain ⟨hgn,p,cap,rfl,hcap,hp⟩:=h1
 have h1:SlI w (.slice p c.g.length cap) c.g:=⟨hgn,p,cap,rfl,hcap,hp⟩
 clear hgn hcap hp
 refine enter Tryz.func37 rfl rfl (Nat.le_of_ble_eq_true rfl) ?_
 refine Nz 0 ?_
 refine Wb 0 rfl rfl (fun _=>rfl) (fun _=>rfl) fun b2 hb2=>?_
 refine Wb 1 rfl rfl (fun _=>rfl) (fun _=>rfl) fun b3 hb3=>?_
 refine Wd (Qc (Cs (Dr mixed 1 ?_)))
 refine Dk 1 (Ba 0) ?_
 refine Dk 0 (Ba 1) ?_
 refine Dk 0 Zb ?_
 refine Dk 1 (Cb rfl rfl Jc0 (fun u hu=>Ja3 _ _ _ u)) ?_
 refine Dk 1 (Ba 0) ?_
 refine Dk 0 (Ba 1) ?_
 refine Dk 0 Zb ?_
 refine Dk 2 (Cb rfl rfl Jc0 (fun u hu=>Ja3 _ _ _ u)) ?_
 refine Dd (Qc (Nz 1 ?_))
 refine Wk 1 (Ba 0) ?_
 refine Wk 0 (Ba 0) ?_
 refine Wk 0 (Db Jfy zv47) ?_
 refine Wl 0 zv47 (fun _=>rfl) (fun _=>rfl) fun b7 hb7=>?_
 refine Wv 0 0 ?_
 refine Wd (Qc (Nz 1 ?_))
 refine Wd (Qc ?_)
 refine CS.cut (σ:=Used) [26,27,28,29,30,31,32,33,34,35,36,37,38,39,40,41,42,43,44,45,46,47,48,49,50,51,52,53,54,55,56,57,58,59,60,61,62,63,64,65,66,67,68,69,70,71,72,73,74,75,76,77,78,79,80,81,82,83,84,85,86,87,88,89,90,91,92,93,94,95,96,97,98,99,100,101,102,103,104,105,106,107,108,109,110,111,112,113,114,115,116,117,118,119,120,121,122,123,124,125,126,127,128,129,130,131,132,133,134,135,136,137,138,139,140,141,142,143,144,145,146,147,148,149,150,151,152,153,154,155,156,157,158,159,160,161,162,163,164,165,166] (fun s=>[(8,.bool s.is)]) (fun s=>[blk b7 [.int .i64 c.k,.int .i64 s.a,.int .i64 s.b,.int .i64 s.n,.int .i64 s.m,.slice s.q s.l s.cap,.bool c.nt] 47,blk b3 [.int .i64 c.k,.int .i64 c.a,.int .i64 c.b,.int .i64 c.n,.int .i64 c.m,.slice p c.g.length cap,.bool c.nt] 47,blk b2 [.int .i64 lw,.int .i64 ls] 45]) (fun s=>RU w lw ls c s) (fun _ _=>rfl) ?_ ?_
 ·
  refine Nz 1 ?_
  refine Wk 0 (Ba 1) ?_
  refine Wd (Qc (Ce (Nz 2 ?_)))
  refine Wd (Qc (CS.cond rfl ?_ ?_))<;>intro hc1<;>try simp only [bq] at hc1
  ·
   refine Nz 2 ?_
   refine Wt 0 rfl rfl (fun hg=>Ff) ?_
   refine Wt 0 rfl rfl (fun hg=>Ba 1) ?_
   refine Wt 0 rfl rfl (fun hg=>Ff) ?_
   refine Wt 0 rfl rfl (fun hg=>Ba 2) ?_
   refine Wt 0 rfl rfl (fun hg=>Zb) ?_
   refine Wt 0 rfl rfl (fun hg=>Cb rfl (ec_ (eg_ hg rfl) (ec_ rfl (ec_ (eg_ hg rfl) en_))) Jc0 (fun u hu=>Ja3 _ _ _ u)) ?_
   refine Wk 1 Pa ?_
   refine Wd (Qc (Nz 1 ?_))
   refine Wk 1 (Ba 1) ?_
   refine Ws 0 0 ?_
   refine Wd (Qc (Ny 1 ?_))
   refine Wk 1 (Ba 1) ?_
   refine Ws 0 0 ?_
   exact Wd (Qb (QS.head (⟨Jab c.a 0 (lw - 1) && Jab c.n 0 (ls - 1),c.a,0,c.n,0,none,0,0⟩) rfl rfl (Jng hc1)))
  refine Nz 2 ?_
  refine Wd (Qc (CS.cond rfl ?_ ?_))<;>intro hc2<;>try simp only [bq] at hc2
  ·
   refine Nz 2 ?_
   refine Wt 0 rfl rfl (fun hg=>Fm) ?_
   refine Wk 1 Pa ?_
   refine Wt 0 rfl rfl (fun hg=>Ff) ?_
   refine Wt 0 rfl rfl (fun hg=>Ba 1) ?_
   refine Wt 0 rfl rfl (fun hg=>Ff) ?_
   refine Wt 0 rfl rfl (fun hg=>Ba 1) ?_
   refine Wt 0 rfl rfl (fun hg=>Fk) ?_
   refine Wk 1 Pa ?_
   refine Wt 0 rfl rfl (fun hg=>Ff) ?_
   refine Wt 0 rfl rfl (fun hg=>Ba 1) ?_
   refine Wt 0 rfl rfl (fun hg=>Cb rfl (ec_ (eg_ hg rfl) (ec_ rfl (ec_ rfl en_))) Jc0 (fun u hu=>Ja3 _ _ _ u)) ?_
   refine Wk 1 Pa ?_
   refine Wd (Qc (Nz 1 ?_))
   refine Wk 1 (Ba 1) ?_
   refine Ws 0 0 ?_
   refine Wd (Qc (Nz 1 ?_))
   refine Wk 1 (Ba 1) ?_
   refine Ws 0 0 ?_
   refine Wd (Qc (Ny 1 ?_))
   refine Wk 1 (Ba 1) ?_
   refine Ws 0 0 ?_
   exact Wd (Qb (QS.head (⟨((Jab c.a 0 (lw - 1) && Jab c.b 0 (lw - 1)) && decide (c.a≤c.b)) && Jab c.n 0 100,c.a,c.b,c.n,0,none,0,0⟩) rfl rfl (Jmy hc2)))
  refine Cs (Nz 2 ?_)
  refine Wd (Qc (CS.cond rfl ?_ ?_))<;>intro hc3<;>try simp only [bq] at hc3
  ·
   refine Ck (Qc (CS.cond rfl ?_ ?_))<;>intro hc4<;>try simp only [bq] at hc4
   ·
    refine Nz 2 ?_
    refine Wt 0 rfl rfl (fun hg=>Fm) ?_
    refine Wk 1 Pa ?_
    refine Wt 0 rfl rfl (fun hg=>Ff) ?_
    refine Wt 0 rfl rfl (fun hg=>Ba 1) ?_
    refine Wt 0 rfl rfl (fun hg=>Ff) ?_
    refine Wt 0 rfl rfl (fun hg=>Ba 1) ?_
    refine Wt 0 rfl rfl (fun hg=>Fr) ?_
    refine Wk 1 Pa ?_
    refine Wd (Qc (Nz 1 ?_))
    refine Wk 1 (Ba 1) ?_
    refine Ws 0 0 ?_
    refine Wd (Qc (Ny 1 ?_))
    refine Wk 1 (Ba 1) ?_
    refine Ws 0 0 ?_
    exact Wd (Qb (QS.head (⟨(Jab c.a 0 (lw - 1) && Jab c.b 0 (lw - 1)) && decide (c.a≠c.b),c.a,c.b,0,0,none,0,0⟩) rfl rfl (Jna hc3)))
   exact absurd hc3 hc4
  refine Ny 2 ?_
  refine Wd (Qc (CS.cond rfl ?_ ?_))<;>intro hc5<;>try simp only [bq] at hc5
  ·
   refine Nz 2 ?_
   refine Wt 0 rfl rfl (fun hg=>Fm) ?_
   refine Wk 1 Pa ?_
   refine Wt 0 rfl rfl (fun hg=>Ff) ?_
   refine Wt 0 rfl rfl (fun hg=>Ba 1) ?_
   refine Wt 0 rfl rfl (fun hg=>Ff) ?_
   refine Wt 0 rfl rfl (fun hg=>Ba 1) ?_
   refine Wt 0 rfl rfl (fun hg=>Fr) ?_
   refine Wk 1 Pa ?_
   refine Wd (Qc (Nz 1 ?_))
   refine Wk 1 (Ba 1) ?_
   refine Ws 0 0 ?_
   refine Wd (Qc (Ny 1 ?_))
   refine Wk 1 (Ba 1) ?_
   refine Ws 0 0 ?_
   exact Wd (Qb (QS.head (⟨(Jab c.a 0 (lw - 1) && Jab c.b 0 (lw - 1)) && decide (c.a≠c.b),c.a,c.b,0,0,none,0,0⟩) rfl rfl (Jmq hc5)))
  refine Nz 2 ?_
  refine Wd (Qc (CS.cond rfl ?_ ?_))<;>intro hc6<;>try simp only [bq] at hc6
  ·
   refine Nz 1 ?_
   refine Wk 1 (Ba 1) ?_
   refine Wk 0 (Ba 2) ?_
   refine Wk 0 Zb ?_
   refine Wk 1 (Cb rfl rfl Jc0 (fun u hu=>Ja3 _ _ _ u)) ?_
   refine Wt 0 rfl rfl (fun hg=>Ff) ?_
   refine Wt 0 rfl rfl (fun hg=>Ba 1) ?_
   refine Wt 0 rfl rfl (fun hg=>Ff) ?_
   refine Wt 0 rfl rfl (fun hg=>Ba 2) ?_
   refine Wt 0 rfl rfl (fun hg=>Cb rfl (ec_ (eg_ hg rfl) (ec_ rfl (ec_ (eg_ hg rfl) en_))) Jc0 (fun u hu=>Ja3 _ _ _ u)) ?_
   refine Wk 1 Pa ?_
   refine Wd (Qc (Nz 1 ?_))
   refine Wk 1 (Ba 1) ?_
   refine Ws 0 0 ?_
   refine Wd (Qc (Ny 1 ?_))
   refine Wk 1 (Ba 1) ?_
   refine Ws 0 0 ?_
   exact Wd (Qb (QS.head (⟨Jab c.n 0 (ls - 1) && Jab c.m 0 lw,0,0,c.n,c.m,none,0,0⟩) rfl rfl (Jm5 hc6)))
  refine Nz 2 ?_
  refine Wd (Qc (CS.cond rfl ?_ ?_))<;>intro hc7<;>try simp only [bq] at hc7
  ·
   refine Nz 0 ?_
   refine Wk 1 (Bb 2) ?_
   refine Wk 0 (Ba 1) ?_
   refine Wk 1 (Cb rfl rfl Jp0 (fun u hu=>Jkk _ _ _ _ u hL (h1.st hu))) ?_
   refine Wt 0 rfl rfl (fun hg=>Ff) ?_
   refine Wt 0 rfl rfl (fun hg=>Ba 1) ?_
   refine Wt 0 rfl rfl (fun hg=>Ff) ?_
   refine Wt 0 rfl rfl (fun hg=>Ba 2) ?_
   refine Wt 0 rfl rfl (fun hg=>Cb rfl (ec_ (eg_ hg rfl) (ec_ rfl (ec_ (eg_ hg rfl) en_))) Jc0 (fun u hu=>Ja3 _ _ _ u)) ?_
   refine Wk 1 Pa ?_
   refine Wt 0 rfl rfl (fun hg=>Ff) ?_
   refine Wt 0 rfl rfl (fun hg=>Ba 1) ?_
   refine Wt 0 rfl rfl (fun hg=>Ff) ?_
   refine Wt 0 rfl rfl (fun hg=>Ba 2) ?_
   refine Wt 0 rfl rfl (fun hg=>Cb rfl (ec_ (eg_ hg rfl) (ec_ rfl (ec_ (eg_ hg rfl) en_))) Jc0 (fun u hu=>Ja3 _ _ _ u)) ?_
   refine Wk 1 Pa ?_
   refine Wd (Qc (Nz 1 ?_))
   refine Wk 1 (Ba 1) ?_
   refine Ws 0 0 ?_
   refine Wd (Qc (Nz 1 ?_))
   refine Wk 1 (Ba 1) ?_
   refine Ws 0 0 ?_
   refine Wd (Qc (Ny 1 ?_))
   refine Wk 1 (Ba 1) ?_
   refine Ws 0 0 ?_
   exact Wd (Qb (QS.head (⟨(Ja0 lw ls c.g && Jab c.n 0 lw) && Jab c.m 0 lw,0,0,c.n,c.m,p,c.g.length,cap⟩) rfl rfl (Jnn hc7 h1)))
  refine Nz 2 ?_
  refine Wd (Qc (CS.cond rfl ?_ ?_))<;>intro hc8<;>try simp only [bq] at hc8
  ·
   refine Nz 2 ?_
   refine Wt 0 rfl rfl (fun hg=>Ff) ?_
   refine Wt 0 rfl rfl (fun hg=>Ba 1) ?_
   refine Wt 0 rfl rfl (fun hg=>Cb rfl (ec_ (eg_ hg rfl) (ec_ rfl (ec_ rfl en_))) Jc0 (fun u hu=>Ja3 _ _ _ u)) ?_
   refine Wk 1 Pa ?_
   refine Wt 0 rfl rfl (fun hg=>Ff) ?_
   refine Wt 0 rfl rfl (fun hg=>Ba 1) ?_
   refine Wt 0 rfl rfl (fun hg=>Ff) ?_
   refine Wt 0 rfl rfl (fun hg=>Ba 1) ?_
   refine Wt 0 rfl rfl (fun hg=>Jgj (eg_ hg rfl) rfl (by simp [Jab] at hg; omega)) ?_
   refine Wt 0 rfl rfl (fun hg=>Cb rfl (ec_ (eg_ hg rfl) (ec_ rfl (ec_ (eg_ hg rfl) en_))) Jc0 (fun u hu=>Ja3 _ _ _ u)) ?_
   refine Wk 1 Pa ?_
   refine Wd (Qc (Nz 1 ?_))
   refine Wk 1 (Ba 1) ?_
   refine Ws 0 0 ?_
   refine Wd (Qc (Nz 1 ?_))
   refine Wk 1 (Ba 1) ?_
   refine Ws 0 0 ?_
   refine Wd (Qc (Ny 1 ?_))
   refine Wk 1 (Ba 1) ?_
   refine Ws 0 0 ?_
   exact Wd (Qb (QS.head (⟨(Jab c.a 0 (lw - 1) && Jab c.n 2 10) && Jab c.m 0 (c.n - 1),c.a,0,c.n,c.m,none,0,0⟩) rfl rfl (Jm0 hc8)))
  exact Ck (Qb (QS.head (⟨false,0,0,0,0,none,0,0⟩) rfl rfl (Jlg hc1 hc2 hc3 hc5 hc6 hc7 hc8)))
 intro s t hs
 obtain ⟨g,h2,hs⟩:=hs
 refine Nz 2 ?_
 refine Wt 0 rfl rfl (fun hg=>Bb 1) ?_
 refine Wt 0 rfl rfl (fun hg=>Bb 0) ?_
 refine Wt 0 rfl rfl (fun hg=>Cb rfl (ec_ (eg_ hg rfl) (ec_ (eg_ hg rfl) en_)) Joy (fun u hu=>Jea c (Jev c s.a s.b s.n s.m g) _ _ u (h1.st hu) (h2.st hu))) ?_
 refine Wk 1 Pa ?_
 exact Wd (Qc (Cr (out1 rfl rfl (Jan (by rw [← hs])))))
theorem Jnm (lw ls:Int) (c:Clue) (gv:Value) (xs:List Int) (v:Value) (w:World) (hU:Use lw ls c xs) (hg1:SlI w gv c.g) (h1:SlI w v xs) :
  Calls Tryz.prog 193 #[.agg #[.int .i64 c.k,.int .i64 c.a,.int .i64 c.b,.int .i64 c.n,.int .i64 c.m,gv,.bool c.nt],v] w (RetB w (.bool (Jcq c xs))):=by
 have hl1:=h1.le
 have hln:=hU.len
 obtain ⟨f1,f2,f3,f7,fk1,fk2,fn⟩:=hU.facts
 obtain ⟨hgn,p,cap,rfl,hcap,hp⟩:=hg1
 have hg1:SlI w (.slice p c.g.length cap) c.g:=⟨hgn,p,cap,rfl,hcap,hp⟩
 clear hgn hcap hp
 refine enter Tryz.func193 rfl rfl (Nat.le_of_ble_eq_true rfl) ?_
 refine Nz 0 ?_
 refine Wb 1 rfl rfl (fun _=>rfl) (fun _=>rfl) fun b2 hb2=>?_
 refine Wd (Qc (Cs (Nz 1 ?_)))
 refine Wk 0 (Ba 0) ?_
 refine Wd (Qc (Ce (Nz 2 ?_)))
 refine Wd (Qc (CS.cond rfl ?_ ?_))<;>intro hc1<;>try simp only [bq] at hc1
 ·
  refine Cs (Dr mixed 2 ?_)
  refine Dk 0 (Ba 0) ?_
  refine Dk 0 Xa ?_
  refine Dk 1 Ia ?_
  refine Dk 2 (Ba 0) ?_
  exact Dd (Qc (Cr (Qs (Qr (out1 rfl rfl (Jan (by simp [Jcq,hc1])))))))
 refine Nz 2 ?_
 refine Wd (Qc (CS.cond rfl ?_ ?_))<;>intro hc2<;>try simp only [bq] at hc2
 ·
  have fk:=f2 hc2
  have h2:=h1.sub (lo:=c.a.toNat) (hi:=(c.b+1).toNat) (by omega) (by omega)
  have hpl:=Jj3 fk.1 fk.2.1 fk.2.2
  change SlI w _ (part xs c.a c.b) at h2
  refine Nz 1 ?_
  refine Wd (Qc (Cs (Nz 2 ?_)))
  refine Wk 1 (Ba 0) ?_
  refine Wk 0 (Ba 0) ?_
  refine Wk 0 Za ?_
  refine Wk 0 (Jj9 sl32 rfl rfl rfl h1 (by omega) (by omega) (by omega)) ?_
  refine Wk 1 Na ?_
  refine Wd (Qc (Ce ?_))
  refine CS.loopM (σ:=Int × Int) [7,36,37,38,39,40,41,42] (fun s=>[(5,.int .i64 s.2),(35,.int .i64 s.1)]) (fun _=>_) (fun s=>0≤s.1∧s.1≤(part xs c.a c.b).length∧s.2=lsum ((part xs c.a c.b).take s.1.toNat)) (fun s=>((part xs c.a c.b).length - s.1).toNat) (0,0) (fun _ _=>rfl) rfl rfl ⟨by simp,by simp,rfl⟩ ?_
  intro s t hs
  obtain ⟨hs1,hs2,hs3⟩:=hs
  refine Nz 1 ?_
  refine Wd (Qc (Cs (CS.cond rfl ?_ ?_)))<;>intro hc3<;>try simp only [bq] at hc3
  ·
   have hb1:=hU.psum s.1.toNat
   have hb2:=hU.nth (i:=c.a+s.1) (by omega) (by omega)
   have hb3:=Jkn fk.1 (i:=c.a+s.1) (by omega) (b:=c.b) (by omega) fk.2.2
   have e3:c.a+s.1 - c.a=s.1:=by omega
   rw [e3] at hb3
   refine Ck (Qc (Cs (Ce (Nz 0 ?_))))
   refine Wk 0 Xa ?_
   refine Wk 1 Ia ?_
   refine Wd (Qc (Ny 2 ?_))
   refine Wk 1 Za ?_
   refine Wd (Qb (Qc (Ny 0 ?_)))
   refine Wk 1 Za ?_
   exact Wd (QS.head ((s.1+1,s.2+nth (part xs c.a c.b) s.1)) rfl rfl ⟨⟨by simp; omega,by simp; omega,by simp only; rw [Jaq _ hs1 (by omega),Jfr,hs3]⟩,by simp; omega⟩)
  refine Cv (Qe (Qe (Qx (Qc (Nz 2 ?_)))))
  refine Wk 2 (Ba 0) ?_
  exact Wd (Qc (Cr (Qs (Qr (out1 rfl rfl (Jan (by rw [hs3,Jli _ (by omega)]; simp [Jcq,hc2])))))))
 refine Nz 2 ?_
 refine Wd (Qc (CS.cond rfl ?_ ?_))<;>intro hc4<;>try simp only [bq] at hc4
 ·
  refine Cs (Dr mixed 2 ?_)
  refine Dk 0 (Ba 0) ?_
  refine Dk 0 Xa ?_
  refine Dk 2 Ia ?_
  refine Dk 0 (Ba 0) ?_
  refine Dk 0 Xa ?_
  refine Dk 2 Ia ?_
  exact Dd (Qc (Cr (Qs (Qr (out1 rfl rfl (Jan (by simp [Jcq,hc4])))))))
 refine Nz 2 ?_
 refine Wd (Qc (CS.cond rfl ?_ ?_))<;>intro hc5<;>try simp only [bq] at hc5
 ·
  refine Cs (Dr mixed 2 ?_)
  refine Dk 0 (Ba 0) ?_
  refine Dk 0 Xa ?_
  refine Dk 2 Ia ?_
  refine Dk 0 (Ba 0) ?_
  refine Dk 0 Xa ?_
  refine Dk 2 Ia ?_
  exact Dd (Qc (Cr (Qs (Qr (out1 rfl rfl (Jan (by simp [Jcq,hc5])))))))
 refine Nz 2 ?_
 refine Wd (Qc (CS.cond rfl ?_ ?_))<;>intro hc6<;>try simp only [bq] at hc6
 ·
  refine Nz 1 ?_
  refine Wd (Qc (Cs (Nz 1 ?_)))
  refine Wk 1 Na ?_
  refine Wd (Qc (Ce ?_))
  refine CS.loopM (σ:=Int × Int) [10,78,79,80,81,82,83,84,85,86,87] (fun s=>[(8,.int .i64 s.2),(77,.int .i64 s.1)]) (fun _=>_) (fun s=>0≤s.1∧s.1≤xs.length∧s.2=cnt (xs.take s.1.toNat) c.n) (fun s=>(xs.length - s.1).toNat) (0,0) (fun _ _=>rfl) rfl rfl ⟨by simp,by simp,rfl⟩ ?_
  intro s t hs
  obtain ⟨hs1,hs2,hs3⟩:=hs
  have hbd:=Jd4 (xs.take s.1.toNat) c.n
  have hlt:=List.length_take_le s.1.toNat xs
  refine Nz 1 ?_
  refine Wd (Qc (Cs (CS.cond rfl ?_ ?_)))<;>intro hc7<;>try simp only [bq] at hc7
  ·
   refine Ck (Qc (Cs (Ce (Nz 0 ?_))))
   refine Wk 0 Xa ?_
   refine Wk 1 Ia ?_
   refine Wd (Qc (Nz 2 ?_))
   refine Wk 1 (Ba 0) ?_
   refine Wd (Qc (CS.cond rfl ?_ ?_))<;>intro hc8<;>try simp only [bq] at hc8
   ·
    refine Ny 1 ?_
    refine Wk 1 Za ?_
    refine Wd (Qb (Qc (Ny 0 ?_)))
    refine Wk 1 Za ?_
    exact Wd (QS.head ((s.1+1,s.2+1)) rfl rfl ⟨⟨by simp; omega,by simp; omega,by simp only; rw [Jaq xs hs1 (by omega),Jde,hs3]; simp [hc8]⟩,by simp; omega⟩)
   refine Ck (Qb (Qc (Ny 0 ?_)))
   refine Wk 1 Za ?_
   exact Wd (QS.head ((s.1+1,s.2)) rfl rfl ⟨⟨by simp; omega,by simp; omega,by simp only; rw [Jaq xs hs1 (by omega),Jde,hs3]; simp [hc8]⟩,by simp; omega⟩)
  refine Cv (Qe (Qe (Qx (Qc (Nz 2 ?_)))))
  refine Wk 2 (Ba 0) ?_
  exact Wd (Qc (Cr (Qs (Qr (out1 rfl rfl (Jan (by rw [hs3,Jda xs (by omega)]; simp [Jcq,hc6])))))))
 refine Nz 2 ?_
 refine Wd (Qc (CS.cond rfl ?_ ?_))<;>intro hc9<;>try simp only [bq] at hc9
 ·
  refine Nz 2 ?_
  refine Wk 0 (Ba 0) ?_
  refine Wk 5 (Cb rfl rfl Joo (fun u hu=>Jhq _ _ _ _ u (h1.st hu) (hg1.st hu) (hU.guess hc9).1 (by omega) (Jcd hU.lk hU.cd).2 (Jcd hU.lk (hU.guess hc9).2).2)) ?_
  refine Wd (Qc (Nz 2 ?_))
  refine Wk 2 (Ba 0) ?_
  refine Wt 0 rfl rfl (fun hg=>Fm) ?_
  refine Wt 0 rfl rfl (fun hg=>Ff) ?_
  refine Wt 0 rfl rfl (fun hg=>Ba 0) ?_
  refine Wt 0 rfl rfl (fun hg=>Fq) ?_
  refine Wk 1 Pa ?_
  exact Wd (Qc (Cr (Qs (Qr (out1 rfl rfl (Jan (by simp [Jcq,hc9])))))))
 refine Ck (Qb (Qc (Cs (Dr mixed 2 ?_))))
 refine Dk 0 (Ba 0) ?_
 refine Dk 0 Xa ?_
 refine Dk 1 Ia ?_
 refine Dk 0 (Ba 0) ?_
 refine Dk 1 (Jgo rfl rfl (by omega) (by omega)) ?_
 refine Dk 2 (Ba 0) ?_
 exact Dd (Qc (Cr (out1 rfl rfl (Jan (by have e7:c.k=7:=(by omega); simp [Jcq,e7])))))
theorem Jhs (xs:List (Clue)) (v:Value) (gs:List Value) (w:World) (h1:ClS w v xs gs) (g:Nat) (lb:List Value) (p:Clue→Bool) (hg:Ent Tryz.prog g)
  (hp:∀ u,Below w.heap.size w u→∀ i:Int,0≤i→i < xs.length→Calls Tryz.prog g ([.agg #[.int .i64 (nth xs i).k,.int .i64 (nth xs i).a,.int .i64 (nth xs i).b,.int .i64 (nth xs i).n,.int .i64 (nth xs i).m,nth gs i,.bool (nth xs i).nt]]++lb:List Value).toArray u (RetB u (.bool (p (nth xs i))))) :
  Calls Tryz.prog 140 #[v,.func (.func g) #[] lb.toArray] w (RetB w (.int .i64 (idxF p xs))):=by
 have hl1:=h1.le
 refine enter Tryz.func140 rfl rfl (Nat.le_of_ble_eq_true rfl) ?_
 refine Nz 1 ?_
 refine Wd (Qc (Cs (Nz 1 ?_)))
 refine Wk 1 (Jbj sl81 rfl (by first | exact SlL.sp (by assumption) | exact ClS.sp (by assumption))) ?_
 refine Wd (Qc (Ce ?_))
 refine CS.loopM (σ:=Int) [4,5,9,10,11,12,13,14,15,16,17,18] (fun s=>[(8,.int .i64 s)]) (fun _=>_) (fun s=>0≤s∧s≤xs.length∧∀ j:Int,0≤j→j < s→p (nth xs j)=false) (fun s=>(xs.length - s).toNat) 0 (fun _ _=>rfl) rfl rfl ⟨by omega,by omega,fun j h1 h2=>by omega⟩ ?_
 intro s t hs
 obtain ⟨hs1,hs2,hs3⟩:=hs
 refine Nz 1 ?_
 refine Wd (Qc (Cs (CS.cond rfl ?_ ?_)))<;>intro hc1<;>try simp only [bq] at hc1
 ·
  refine Ck (Qc (Cs (Ce (Nz 2 ?_))))
  refine Wd (Qc (Nz 3 ?_))
  refine Wk 0 (Ji4 sl81 rfl rfl (by assumption) (by omega) (by omega)) ?_
  refine Wk 0 (Jav rfl (by assumption) (by omega) tk47) ?_
  refine Wk 0 (Cb rfl rfl hg (fun u hu=>hp u hu.below s (by omega) (by omega))) ?_
  refine Wd (Qc (CS.cond rfl ?_ ?_))<;>intro hc2<;>try simp only [bq] at hc2
  ·
   refine Nz 2 ?_
   exact Wd (Qc (Cr (Qs (Qr (Qr (Qs (Qr (out1 rfl rfl (Jan (by rw [Jc1 hs1 (by omega) hs3 hc2]))))))))))
  refine Ck (Qb (Qc (Ny 0 ?_)))
  refine Wk 1 Za ?_
  exact Wd (QS.head (s+1) rfl rfl ⟨⟨by omega,by omega,fun j h1 h2=>if hj:j=s then by rw [hj]; exact hc2 else hs3 j h1 (by omega)⟩,by omega⟩)
 refine Cv (Qe (Qe (Qx (Qc (Nz 1 ?_)))))
 exact Wd (Qc (Cr (out1 rfl rfl (Jan (by rw [Jd3 fun j h1 h2=>hs3 j h1 (by omega)])))))
theorem Jgw (xs:List (Clue)) (v:Value) (gs:List Value) (w:World) (h1:ClS w v xs gs) (g:Nat) (lb:List Value) (p:Clue→Bool) (hg:Ent Tryz.prog g)
  (hp:∀ u,Below w.heap.size w u→∀ i:Int,0≤i→i < xs.length→Calls Tryz.prog g ([.agg #[.int .i64 (nth xs i).k,.int .i64 (nth xs i).a,.int .i64 (nth xs i).b,.int .i64 (nth xs i).n,.int .i64 (nth xs i).m,nth gs i,.bool (nth xs i).nt]]++lb:List Value).toArray u (RetB u (.bool (p (nth xs i))))) :
  Calls Tryz.prog 104 #[v,.func (.func g) #[] lb.toArray] w (RetB w (.bool (xs.any p))):=by
 refine enter Tryz.func104 rfl rfl (Nat.le_of_ble_eq_true rfl) ?_
 refine Nz 1 ?_
 refine Wd (Qc (Nz 2 ?_))
 refine Wk 2 (Cb rfl rfl Jlo (fun u hu=>Jhs xs v gs u (h1.st hu) g lb p hg (fun u2 h2=>hp u2 (Ja7 hu.below h2)))) ?_
 exact Wd (Qc (Cr (out1 rfl rfl (Jan (by rw [Je1])))))
theorem Jnk (lw ls:Int) (c:Clue) (gv:Value) (xs:List Int) (v:Value) (w:World) (hU:Use lw ls c xs) (hg1:SlI w gv c.g) (h1:SlI w v xs) :
  Calls Tryz.prog 176 #[.agg #[.int .i64 c.k,.int .i64 c.a,.int .i64 c.b,.int .i64 c.n,.int .i64 c.m,gv,.bool c.nt],v] w (RetB w (.bool (Jh0 c xs))):=by
 refine enter Tryz.func176 rfl rfl (Nat.le_of_ble_eq_true rfl) ?_
 refine Nz 0 ?_
 refine Wb 1 rfl rfl (fun _=>rfl) (fun _=>rfl) fun b2 hb2=>?_
 refine Wd (Qc (Cs (Dr mixed 0 ?_)))
 refine Dk 1 (Bb 0) ?_
 refine Dk 1 (Cb rfl rfl Jnw (fun u hu=>Jnm _ _ _ _ _ _ u hU (hg1.st hu) (h1.st hu))) ?_
 refine Dk 0 (Ba 0) ?_
 refine Dk 1 (Jmg rfl rfl Tryz.underlying4) ?_
 exact Dd (Qc (Cr (out1 rfl rfl (Jan rfl))))
theorem Jgm (lw ls:Int) (c:Clue) (gv:Value) (w:World) (hg1:SlI w gv c.g) :
  Calls Tryz.prog 39 #[.agg #[.int .i64 lw,.int .i64 ls],.agg #[.int .i64 c.k,.int .i64 c.a,.int .i64 c.b,.int .i64 c.n,.int .i64 c.m,gv,.bool c.nt]] w (RetB w (.int .i64 (Jb3 lw ls c))):=by
 have h1:=hg1
 refine enter Tryz.func39 rfl rfl (Nat.le_of_ble_eq_true rfl) ?_
 refine Nz 0 ?_
 refine Wb 0 rfl rfl (fun _=>rfl) (fun _=>rfl) fun b2 hb2=>?_
 refine Wb 1 rfl rfl (fun _=>rfl) (fun _=>rfl) fun b3 hb3=>?_
 refine Wd (Qc (Cs (Nz 0 ?_)))
 refine Wk 0 (Bb 1) ?_
 refine Wk 1 (Cb rfl rfl Jkr (fun u hu=>Jfa _ _ u)) ?_
 refine Wd (Qc (Nz 2 ?_))
 refine Wd (Qc (CS.cond rfl ?_ ?_))<;>intro hc1<;>try simp only [bq] at hc1
 ·
  refine Nz 2 ?_
  exact Wd (Qc (Cr (Qr (out1 rfl rfl (Jan (by have:Jap lw ls=false:=(by simpa [Jbo] using hc1); simp [Jb3,Jbo,this]))))))
 have hL:Jap lw ls=true:=by simpa [Jbo] using hc1
 refine Ck (Qc (Cs (Nz 0 ?_)))
 refine Wk 0 (Bb 1) ?_
 refine Wk 0 (Bb 0) ?_
 refine Wk 1 (Cb rfl rfl Jmx (fun u hu=>Jjt _ _ _ _ u hL (h1.st hu))) ?_
 refine Wd (Qc (CS.cond rfl ?_ ?_))<;>intro hc2<;>try simp only [bq] at hc2
 ·
  refine Nz 1 ?_
  exact Wd (Qc (Cr (Qr (out1 rfl rfl (Jan (by simp [Jb3,hL,hc2]))))))
 refine Ck (Qc (Nz 1 ?_))
 exact Wd (Qc (Cr (out1 rfl rfl (Jan (by simp [Jb3,hL,hc2])))))
theorem Jfe (lw ls:Int) (c:Clue) (gv:Value) (w:World) (hg1:SlI w gv c.g) :
  Calls Tryz.prog 41 #[.agg #[.int .i64 lw,.int .i64 ls],.agg #[.int .i64 c.k,.int .i64 c.a,.int .i64 c.b,.int .i64 c.n,.int .i64 c.m,gv,.bool c.nt]] w (RetB w (.int .i64 (Jb3 lw ls c))):=by
 have h1:=hg1
 refine enter Tryz.func41 rfl rfl (Nat.le_of_ble_eq_true rfl) ?_
 refine Nz 0 ?_
 refine Wb 0 rfl rfl (fun _=>rfl) (fun _=>rfl) fun b2 hb2=>?_
 refine Wb 1 rfl rfl (fun _=>rfl) (fun _=>rfl) fun b3 hb3=>?_
 refine Wd (Qc (Cs (Nz 0 ?_)))
 refine Wk 0 (Bb 1) ?_
 refine Wk 1 (Cb rfl rfl Jo8 (fun u hu=>Jkx _ _ u)) ?_
 refine Wd (Qc (Nz 2 ?_))
 refine Wd (Qc (CS.cond rfl ?_ ?_))<;>intro hc1<;>try simp only [bq] at hc1
 ·
  refine Nz 2 ?_
  exact Wd (Qc (Cr (Qr (out1 rfl rfl (Jan (by have:Jap lw ls=false:=(by simpa [Jbo] using hc1); simp [Jb3,Jbo,this]))))))
 have hL:Jap lw ls=true:=by simpa [Jbo] using hc1
 refine Ck (Qc (Cs (Nz 0 ?_)))
 refine Wk 0 (Bb 1) ?_
 refine Wk 0 (Bb 0) ?_
 refine Wk 1 (Cb rfl rfl Jpr (fun u hu=>Jlf _ _ _ _ u hL (h1.st hu))) ?_
 refine Wd (Qc (CS.cond rfl ?_ ?_))<;>intro hc2<;>try simp only [bq] at hc2
 ·
  refine Nz 1 ?_
  exact Wd (Qc (Cr (Qr (out1 rfl rfl (Jan (by simp [Jb3,hL,hc2]))))))
 refine Ck (Qc (Nz 1 ?_))
 exact Wd (Qc (Cr (out1 rfl rfl (Jan (by simp [Jb3,hL,hc2])))))
theorem Je6 (lw ls:Int) (c:Clue) (gv:Value) (b:Nat) (e:TypeId) (w:World) (hL:Jap lw ls=true) (hg1:SlI w gv c.g) (hb:BlkAt w b [.int .i64 lw,.int .i64 ls] e) :
  Calls Tryz.prog 105 #[.agg #[.int .i64 c.k,.int .i64 c.a,.int .i64 c.b,.int .i64 c.n,.int .i64 c.m,gv,.bool c.nt],.pointer (some ⟨b,0,none⟩)] w (RetB w (.bool (!Jao lw ls c))):=by
 have h1:=hg1
 refine enter Tryz.func105 rfl rfl (Nat.le_of_ble_eq_true rfl) ?_
 refine Nz 0 ?_
 refine Wb 1 rfl rfl (fun _=>rfl) (fun _=>rfl) fun b2 hb2=>?_
 refine Wd (Qc (Nz 0 ?_))
 refine Wk 0 Gb ?_
 refine Wk 0 (Bb 0) ?_
 refine Wk 2 (Cb rfl rfl Jmx (fun u hu=>Jjt _ _ _ _ u hL (h1.st hu))) ?_
 exact Wd (Qc (Cr (out1 rfl rfl retB)))
theorem Jfi (lw ls:Int) (cs:List Clue) (gs:List Value) (v:Value) (w:World) (h1:ClS w v cs gs) :
  Calls Tryz.prog 61 #[.agg #[.int .i64 lw,.int .i64 ls],v] w (RetB w (.int .i64 (Jcb lw ls cs))):=by
 have hl1:=h1.le
 refine enter Tryz.func61 rfl rfl (Nat.le_of_ble_eq_true rfl) ?_
 refine Nz 0 ?_
 refine Wb 1 rfl rfl (fun _=>rfl) (fun _=>rfl) fun b2 hb2=>?_
 refine Wd (Qc (Cs (Nz 0 ?_)))
 refine Wk 0 (Bb 0) ?_
 refine Wk 1 (Cb rfl rfl Jkr (fun u hu=>Jfa _ _ u)) ?_
 refine Wd (Qc (Nz 2 ?_))
 refine Wd (Qc (CS.cond rfl ?_ ?_))<;>intro hc1<;>try simp only [bq] at hc1
 ·
  refine Nz 2 ?_
  exact Wd (Qc (Cr (Qr (out1 rfl rfl (Jan (by have:Jap lw ls=false:=(by simpa [Jbo] using hc1); simp [Jcb,Jbo,this]))))))
 have hL:Jap lw ls=true:=by simpa [Jbo] using hc1
 refine Ck (Qc (Cs (Nz 1 ?_)))
 refine Wk 1 (Jbj sl81 rfl (by first | exact SlL.sp (by assumption) | exact ClS.sp (by assumption))) ?_
 refine Wd (Qc (CS.cond rfl ?_ ?_))<;>intro hc2<;>try simp only [bq] at hc2
 ·
  refine Nz 1 ?_
  exact Wd (Qc (Cr (Qr (out1 rfl rfl (Jan (by have:20 < (cs.length:Int):=(by omega); simp [Jcb,hL,this]))))))
 refine Ck (Qc (Cs (Nz 1 ?_)))
 refine Wk 0 (Ja9 rfl) ?_
 refine Wk 0 (Cb rfl rfl Joz (fun u hu=>Jgw cs v gs u (h1.st hu) _ [.pointer (some ⟨b2,0,none⟩)] (fun c => !Jao lw ls c) Jom (fun u2 h2 i h3 h4=>Je6 _ _ _ _ _ _ u2 hL (((h1.st hu).ext h2).el i h3 h4) ((Jhe hu (j:=0) rfl).ext h2)))) ?_
 refine Wd (Qc (CS.cond rfl ?_ ?_))<;>intro hc3<;>try simp only [bq] at hc3
 ·
  refine Nz 1 ?_
  exact Wd (Qc (Cr (Qr (out1 rfl rfl (Jan (by have h20:¬ 20 < (cs.length:Int):=(by omega); have h3:cs.all (Jao lw ls)=false:=(by simpa using hc3); simp [Jcb,hL,h20,h3]))))))
 refine Ck (Qc (Nz 1 ?_))
 exact Wd (Qc (Cr (out1 rfl rfl (Jan (by have h20:¬ 20 < (cs.length:Int):=(by omega); have h3:cs.all (Jao lw ls)=true:=(by simpa using hc3); simp only [Jcb,hL,h20,h3,if_true,if_false])))))
theorem Jlc (lw ls:Int) (c:Clue) (gv:Value) (xs:List Int) (v:Value) (b:Nat) (e:TypeId) (w:World) (hU:Use lw ls c xs) (hg1:SlI w gv c.g) (h1:SlI w v xs) (hb:BlkAt w b [v] e) :
  Calls Tryz.prog 175 #[.agg #[.int .i64 c.k,.int .i64 c.a,.int .i64 c.b,.int .i64 c.n,.int .i64 c.m,gv,.bool c.nt],.pointer (some ⟨b,0,none⟩)] w (RetB w (.bool (!Jh0 c xs))):=by
 refine enter Tryz.func175 rfl rfl (Nat.le_of_ble_eq_true rfl) ?_
 refine Nz 0 ?_
 refine Wb 1 rfl rfl (fun _=>rfl) (fun _=>rfl) fun b2 hb2=>?_
 refine Wd (Qc (Nz 0 ?_))
 refine Wk 0 (Bb 0) ?_
 refine Wk 0 Ga ?_
 refine Wk 2 (Cb rfl rfl Jou (fun u hu=>Jnk _ _ _ _ _ _ u hU (hg1.st hu) (h1.st hu))) ?_
 exact Wd (Qc (Cr (out1 rfl rfl retB)))
theorem Jl8 (lw ls:Int) (cs:List Clue) (gs:List Value) (v:Value) (xs:List Int) (xv:Value) (w:World) (hU:∀ c∈cs,Use lw ls c xs) (hk:ClS w v cs gs) (h1:SlI w xv xs) :
  Calls Tryz.prog 143 #[v,xv] w (RetB w (.int .i64 (Jhc cs xs))):=by
 obtain ⟨p,cap,rfl⟩:=h1.shape
 refine enter Tryz.func143 rfl rfl (Nat.le_of_ble_eq_true rfl) ?_
 refine Nz 0 ?_
 refine Wb 1 rfl rfl (fun _=>rfl) (fun _=>rfl) fun b3 hb3=>?_
 refine Wd (Qc (Nz 1 ?_))
 refine Wk 0 (Ja9 rfl) ?_
 refine Wk 1 (Cb rfl rfl Jlo (fun u hu=>Jhs cs v gs u (hk.st hu) _ [.pointer (some ⟨b3,0,none⟩)] (fun c => !Jh0 c xs) Joe (fun u2 h2 i h3 h4=>Jlc _ _ _ _ _ _ _ _ u2 (hU _ (Jbc h3 h4)) (((hk.st hu).ext h2).el i h3 h4) ((h1.st hu).ext h2) ((Jhe hu (j:=0) rfl).ext h2)))) ?_
 exact Wd (Qc (Cr (out1 rfl rfl (Jan rfl))))
theorem Jke (lw ls:Int) (xs ys:List Int) (v1 v2:Value) (w:World) (h1:SlI w v1 xs) (h2:SlI w v2 ys) :
  Calls Tryz.prog 31 #[.agg #[.int .i64 lw,.int .i64 ls],v1,v2] w (RetB w (.tuple #[.int .i64 (if ansE lw ls xs ys=0 then Ja1 xs ys else 0),.int .i64 (if ansE lw ls xs ys=0 then Jbf xs ys 10 - Ja1 xs ys else 0),.int .i64 (ansE lw ls xs ys)])):=by
 refine enter Tryz.func31 rfl rfl (Nat.le_of_ble_eq_true rfl) ?_
 refine Nz 0 ?_
 refine Wb 3 rfl rfl (fun _=>rfl) (fun _=>rfl) fun b3 hb3=>?_
 refine Wd (Qc (Cs (Nz 0 ?_)))
 refine Wk 2 (by first | exact Jad (j:=0) rfl rfl tk45 | exact Jaf (j:=0) rfl rfl (by rfl) tk45 | exact Jag rfl (by assumption) (by rfl) tk45) ?_
 refine WS.buildSlice1 Jmf zv32 (vs:=[v1,v2]) rfl rfl (by decide) (by intro y hy; obtain ⟨_,p,cap,rfl,_⟩:=h1; obtain ⟨_,p2,cap2,rfl,_⟩:=h2; simp at hy; rcases hy with rfl | rfl <;> rfl) (fun _=>rfl) ?_; intro v12
 refine Wk 1 (Cb rfl rfl Jo6 (fun u hu=>Jfp _ _ [xs,ys] _ _ u (SlL.two (Jbi hu (j:=0) rfl) (h1.st hu) (h2.st hu)))) ?_
 refine Wd (Qc (Nz 2 ?_))
 refine Wd (Qc (CS.cond rfl ?_ ?_))<;>intro hc1<;>try simp only [bq] at hc1
 ·
  refine Nz 4 ?_
  refine Wd (Qc (Cr (Qr ?_)))
  rw [Jib]; exact out3 rfl rfl rfl rfl (Jan (by have hc1:¬ Jef lw ls [xs,ys]=0:=hc1; rw [if_neg hc1,if_neg hc1]; rfl))
 have h0:Jef lw ls [xs,ys]=0:=hc1
 obtain ⟨hL,hx,hy⟩:=Jih h0
 have hn1:=Jcd hL hx
 have hn2:=Jcd hL hy
 have hlx:=(Jci hx).1
 have hly:=(Jci hy).1
 have hae:ansE lw ls xs ys=0:=by simp [ansE,Jji,hL,hx,hy]
 refine Ck (Qc (Nz 2 ?_))
 refine Wk 5 (Cb rfl rfl Joo (fun u hu=>Jhq _ _ _ _ u (h1.st hu) (h2.st hu) (by omega) (by omega) hn1.2 hn2.2)) ?_
 refine Wd (Qc (Nz 5 ?_))
 exact Wd (Qc (Cr (out3 rfl rfl rfl rfl (Jan (by simp [hae])))))
end Go.Proofs.YtdpbapffdmahnaaGreatDoor
