/- Merged texts of this proof (walks and plain laws), printed by a program of the prover. -/
import Derived.Test.YtbboikncaihafaaGreatDoorZa
import Derived.Test.YtbboikncaihafaaGreatDoorZc
set_option maxHeartbeats 8000000
namespace Go.Proofs.YtbboikncaihafaaGreatDoor
open Go.RowKit Go.Proofs
set_option maxRecDepth 100000
set_option linter.unusedVariables false
set_option linter.unusedSimpArgs false
theorem Jdo (n low high:Int) (w:World):Calls Tryz.prog 158 #[.int .i64 n,.int .i64 low,.int .i64 high] w (RetB w (.bool (Jaj n low high))):=by
 refine enter Tryz.func158 rfl rfl (Nat.le_of_ble_eq_true rfl) ?_
 refine Nz 1 ?_
 refine Wd (Qc (Nz 4 ?_))
 refine Wt 0 rfl rfl (fun hg=>Fm) ?_
 refine Wt 0 rfl rfl (fun hg=>Fm) ?_
 refine Wt 0 rfl rfl (fun hg=>Fk) ?_
 refine Wk 1 Pa ?_
 exact Wd (Qc (Cr (out1 rfl rfl retB)))
theorem Jct (n low high:Int) (w:World):Calls Tryz.prog 251 #[.int .i64 n,.int .i64 low,.int .i64 high] w (RetB w (.bool (Jaj n low high))):=by
 refine enter Tryz.func251 rfl rfl (Nat.le_of_ble_eq_true rfl) ?_
 refine Nz 1 ?_
 refine Wd (Qc (Nz 4 ?_))
 refine Wt 0 rfl rfl (fun hg=>Fm) ?_
 refine Wt 0 rfl rfl (fun hg=>Fm) ?_
 refine Wt 0 rfl rfl (fun hg=>Fk) ?_
 refine Wk 1 Pa ?_
 exact Wd (Qc (Cr (out1 rfl rfl retB)))
theorem Ju8 (xs ys:List Int) (v1 v2:Value) (w:World) (h1:SlI w v1 xs) (h2:SlI w v2 ys) :
  Calls Tryz.prog 275 #[v1,v2] w (RetB w (.bool (decide (xs=ys)))):=by
 have hl1:=h1.le
 have hl2:=h2.le
 refine enter Tryz.func275 rfl rfl (Nat.le_of_ble_eq_true rfl) ?_
 refine Nz 1 ?_
 refine Wd (Qc (Cs (Nz 1 ?_)))
 refine Wk 1 Na ?_
 refine Wk 1 Na ?_
 refine Wd (Qc (CS.cond rfl ?_ ?_))<;>intro hc1<;>try simp only [bq] at hc1
 ·
  refine Nz 1 ?_
  exact Wd (Qc (Cr (Qr (out1 rfl rfl (Jab (Jls fun h=>by subst h; omega))))))
 refine Ck (Qc (Cs (Nz 1 ?_)))
 refine Wd (Qc (Ce ?_))
 refine CS.loopM (σ:=Int) [4,11,12,13,14,15,16,17,18,19,20,21,22,23,24,25] (fun s=>[(5,.int .i64 s)]) (fun _=>_) (fun s=>0≤s∧s≤xs.length∧xs.length=ys.length∧∀ j:Int,0≤j→j < s→nth xs j=nth ys j) (fun s=>(xs.length - s).toNat) 0 (fun _ _=>rfl) rfl rfl ⟨by omega,by omega,by omega,fun j h1 h2=>by omega⟩ ?_
 intro s t hs
 obtain ⟨hs1,hs2,hs3,hs4⟩:=hs
 refine Cs (Nz 2 ?_)
 refine Wk 1 Na ?_
 refine Wd (Qc (CS.cond rfl ?_ ?_))<;>intro hc2<;>try simp only [bq] at hc2
 ·
  refine Ck (Qc (Cs (Ce (Cs (Dr Jah 2 ?_)))))
  refine Dk 0 Xa ?_
  refine Dk 2 Ia ?_
  refine Dk 0 Xa ?_
  refine Dk 1 Ia ?_
  refine Dd (Qc (CS.cond rfl ?_ ?_))<;>intro hc3<;>try simp only [bq] at hc3
  ·
   refine Nz 1 ?_
   exact Wd (Qc (Cr (Qs (Qr (Qr (Qs (Qr (out1 rfl rfl (Jab (Jls fun h=>by subst h; omega))))))))))
  refine Ck (Qb (Qc (Ny 1 ?_)))
  refine Wk 1 Za ?_
  exact Wd (QS.head (s+1) rfl rfl ⟨⟨by omega,by omega,hs3,fun j h1 h2=>if hj:j=s then by rw [hj]; omega else hs4 j h1 (by omega)⟩,by omega⟩)
 refine Cv (Qe (Qe (Qx (Qc (Nz 1 ?_)))))
 exact Wd (Qc (Cr (out1 rfl rfl (Jab (Jvr (Jw5 hs3 fun i h1 h2=>hs4 i h1 (by omega)))))))
theorem Jnq (lw ls:Int) (w:World):Calls Tryz.prog 102 #[.agg #[.int .i64 lw,.int .i64 ls]] w (RetB w (.int .i64 (Jdh lw ls))):=by
 refine enter Tryz.func102 rfl rfl (Nat.le_of_ble_eq_true rfl) ?_
 refine Nz 0 ?_
 refine Wb 1 rfl rfl (fun _=>rfl) (fun _=>rfl) fun b1 hb1=>?_
 refine Wd (Qc (Cs (Nz 1 ?_)))
 refine Wk 0 (Ba 0) ?_
 refine Wk 2 (Cb rfl rfl Jgz (fun u hu=>Jdo _ _ _ u)) ?_
 refine Wf 0 rfl rfl (fun hg=>Ff) ?_
 refine Wf 0 rfl rfl (fun hg=>Ba 0) ?_
 refine Wf 0 rfl rfl (fun hg=>Cb rfl (ec_ (eg_ hg rfl) (ec_ rfl (ec_ rfl en_))) Jgz (fun u hu=>Jdo _ _ _ u)) ?_
 refine Wf 0 rfl rfl (fun hg=>Fn) ?_
 refine Wk 0 Po ?_
 refine Wd (Qc (CS.cond rfl ?_ ?_))<;>intro hc1<;>try simp only [bq] at hc1
 ·
  refine Nz 1 ?_
  exact Wd (Qc (Cr (Qr (out1 rfl rfl (Jab (by simp [Jdh,Jbk]; rcases hc1 with h | h <;> simp [h]))))))
 refine Ck (Qc (Nz 1 ?_))
 exact Wd (Qc (Cr (out1 rfl rfl (Jab (by simp [Jdh,Jbk,hc1])))))
theorem Jji (lw ls:Int) (w:World):Calls Tryz.prog 221 #[.agg #[.int .i64 lw,.int .i64 ls]] w (RetB w (.int .i64 (Jdh lw ls))):=by
 refine enter Tryz.func221 rfl rfl (Nat.le_of_ble_eq_true rfl) ?_
 refine Nz 0 ?_
 refine Wb 1 rfl rfl (fun _=>rfl) (fun _=>rfl) fun b1 hb1=>?_
 refine Wd (Qc (Cs (Nz 1 ?_)))
 refine Wk 0 (Ba 0) ?_
 refine Wk 2 (Cb rfl rfl Je7 (fun u hu=>Jct _ _ _ u)) ?_
 refine Wf 0 rfl rfl (fun hg=>Ff) ?_
 refine Wf 0 rfl rfl (fun hg=>Ba 0) ?_
 refine Wf 0 rfl rfl (fun hg=>Cb rfl (ec_ (eg_ hg rfl) (ec_ rfl (ec_ rfl en_))) Je7 (fun u hu=>Jct _ _ _ u)) ?_
 refine Wf 0 rfl rfl (fun hg=>Fn) ?_
 refine Wk 0 Po ?_
 refine Wd (Qc (CS.cond rfl ?_ ?_))<;>intro hc1<;>try simp only [bq] at hc1
 ·
  refine Nz 1 ?_
  exact Wd (Qc (Cr (Qr (out1 rfl rfl (Jab (by simp [Jdh,Jbk]; rcases hc1 with h | h <;> simp [h]))))))
 refine Ck (Qc (Nz 1 ?_))
 exact Wd (Qc (Cr (out1 rfl rfl (Jab (by simp [Jdh,Jbk,hc1])))))
theorem Jmd (lw ls n:Int) (w:World) (hL:Jbk lw ls=true):Calls Tryz.prog 190 #[.agg #[.int .i64 lw,.int .i64 ls],.int .i64 n] w (RetB w (.bool (Jaj n 0 (ls - 1)))):=by
 have hl:=Jd0 hL
 refine enter Tryz.func190 rfl rfl (Nat.le_of_ble_eq_true rfl) ?_
 refine Nz 0 ?_
 refine Wb 1 rfl rfl (fun _=>rfl) (fun _=>rfl) fun b2 hb2=>?_
 refine Wd (Qc (Nz 2 ?_))
 refine Wk 0 (Ba 0) ?_
 refine Wk 0 Zb ?_
 refine Wk 1 (Cb rfl rfl Jgz (fun u hu=>Jdo _ _ _ u)) ?_
 exact Wd (Qc (Cr (out1 rfl rfl retB)))
theorem Jf5 (lw ls n:Int) (w:World) (hL:Jbk lw ls=true):Calls Tryz.prog 189 #[.agg #[.int .i64 lw,.int .i64 ls],.int .i64 n] w (RetB w (.bool (Jaj n 0 (lw - 1)))):=by
 have hl:=Jd0 hL
 refine enter Tryz.func189 rfl rfl (Nat.le_of_ble_eq_true rfl) ?_
 refine Nz 0 ?_
 refine Wb 1 rfl rfl (fun _=>rfl) (fun _=>rfl) fun b2 hb2=>?_
 refine Wd (Qc (Nz 2 ?_))
 refine Wk 0 (Ba 0) ?_
 refine Wk 0 Zb ?_
 refine Wk 1 (Cb rfl rfl Jgz (fun u hu=>Jdo _ _ _ u)) ?_
 exact Wd (Qc (Cr (out1 rfl rfl retB)))
theorem J2w (xs:List (Int)) (v:Value) (w:World) (h1:SlI w v xs) (g:Nat) (lb:List Value) (p:Int→Bool) (hg:Ent Tryz.prog g)
  (hp:∀ u,Below w.heap.size w u→∀ i:Int,0≤i→i < xs.length→Calls Tryz.prog g ([.int .i64 (nth xs i)]++lb:List Value).toArray u (RetB u (.bool (p (nth xs i))))) :
  Calls Tryz.prog 173 #[v,.func (.func g) #[] lb.toArray] w (RetB w (.int .i64 (idxF p xs))):=by
 have hl1:=h1.le
 refine enter Tryz.func173 rfl rfl (Nat.le_of_ble_eq_true rfl) ?_
 refine Nz 1 ?_
 refine Wd (Qc (Cs (Nz 1 ?_)))
 refine Wk 1 Na ?_
 refine Wd (Qc (Ce ?_))
 refine CS.loopM (σ:=Int) [4,5,9,10,11,12,13,14,15,16,17,18] (fun s=>[(8,.int .i64 s)]) (fun _=>_) (fun s=>0≤s∧s≤xs.length∧∀ j:Int,0≤j→j < s→p (nth xs j)=false) (fun s=>(xs.length - s).toNat) 0 (fun _ _=>rfl) rfl rfl ⟨by omega,by omega,fun j h1 h2=>by omega⟩ ?_
 intro s t hs
 obtain ⟨hs1,hs2,hs3⟩:=hs
 refine Nz 1 ?_
 refine Wd (Qc (Cs (CS.cond rfl ?_ ?_)))<;>intro hc1<;>try simp only [bq] at hc1
 ·
  refine Ck (Qc (Cs (Ce (Nz 2 ?_))))
  refine Wd (Qc (Nz 3 ?_))
  refine Wk 0 Xa ?_
  refine Wk 0 Ia ?_
  refine Wk 0 (Cb rfl rfl hg (fun u hu=>hp u hu.below s (by omega) (by omega))) ?_
  refine Wd (Qc (CS.cond rfl ?_ ?_))<;>intro hc2<;>try simp only [bq] at hc2
  ·
   refine Nz 2 ?_
   exact Wd (Qc (Cr (Qs (Qr (Qr (Qs (Qr (out1 rfl rfl (Jab (by rw [Ja3 hs1 (by omega) hs3 hc2]))))))))))
  refine Ck (Qb (Qc (Ny 0 ?_)))
  refine Wk 1 Za ?_
  exact Wd (QS.head (s+1) rfl rfl ⟨⟨by omega,by omega,fun j h1 h2=>if hj:j=s then by rw [hj]; exact hc2 else hs3 j h1 (by omega)⟩,by omega⟩)
 refine Cv (Qe (Qe (Qx (Qc (Nz 1 ?_)))))
 exact Wd (Qc (Cr (out1 rfl rfl (Jab (by rw [Jbe fun j h1 h2=>hs3 j h1 (by omega)])))))
theorem Jqo (xs:List (Int)) (v:Value) (w:World) (h1:SlI w v xs) (g:Nat) (lb:List Value) (p:Int→Bool) (hg:Ent Tryz.prog g)
  (hp:∀ u,Below w.heap.size w u→∀ i:Int,0≤i→i < xs.length→Calls Tryz.prog g ([.int .i64 (nth xs i)]++lb:List Value).toArray u (RetB u (.bool (p (nth xs i))))) :
  Calls Tryz.prog 125 #[v,.func (.func g) #[] lb.toArray] w (RetB w (.bool (xs.any p))):=by
 refine enter Tryz.func125 rfl rfl (Nat.le_of_ble_eq_true rfl) ?_
 refine Nz 1 ?_
 refine Wd (Qc (Nz 2 ?_))
 refine Wk 2 (Cb rfl rfl J3b (fun u hu=>J2w xs v u (h1.st hu) g lb p hg (fun u2 h2=>hp u2 (Jba hu.below h2)))) ?_
 exact Wd (Qc (Cr (out1 rfl rfl (Jab (by rw [Jcx])))))
theorem J2b (xs:List (List Int)) (v:Value) (gs:List Value) (w:World) (h1:SlL w v xs gs) (g:Nat) (lb:List Value) (p:List Int→Bool) (hg:Ent Tryz.prog g)
  (hp:∀ u,Below w.heap.size w u→∀ i:Int,0≤i→i < xs.length→Calls Tryz.prog g ([nth gs i]++lb:List Value).toArray u (RetB u (.bool (p (nth xs i))))) :
  Calls Tryz.prog 242 #[v,.func (.func g) #[] lb.toArray] w (RetB w (.int .i64 (idxF p xs))):=by
 have hl1:=h1.le
 refine enter Tryz.func242 rfl rfl (Nat.le_of_ble_eq_true rfl) ?_
 refine Nz 1 ?_
 refine Wd (Qc (Cs (Nz 1 ?_)))
 refine Wk 1 (Jb6 sl33 rfl (by first | exact SlL.sp (by assumption) | exact ClS.sp (by assumption))) ?_
 refine Wd (Qc (Ce ?_))
 refine CS.loopM (σ:=Int) [4,5,9,10,11,12,13,14,15,16,17,18] (fun s=>[(8,.int .i64 s)]) (fun _=>_) (fun s=>0≤s∧s≤xs.length∧∀ j:Int,0≤j→j < s→p (nth xs j)=false) (fun s=>(xs.length - s).toNat) 0 (fun _ _=>rfl) rfl rfl ⟨by omega,by omega,fun j h1 h2=>by omega⟩ ?_
 intro s t hs
 obtain ⟨hs1,hs2,hs3⟩:=hs
 refine Nz 1 ?_
 refine Wd (Qc (Cs (CS.cond rfl ?_ ?_)))<;>intro hc1<;>try simp only [bq] at hc1
 ·
  refine Ck (Qc (Cs (Ce (Nz 2 ?_))))
  refine Wd (Qc (Nz 3 ?_))
  refine Wk 0 (J21 sl33 rfl rfl (by assumption) (by omega) (by omega)) ?_
  refine Wk 0 (J5s rfl (by assumption) (by omega) tk42) ?_
  refine Wk 0 (Cb rfl rfl hg (fun u hu=>hp u hu.below s (by omega) (by omega))) ?_
  refine Wd (Qc (CS.cond rfl ?_ ?_))<;>intro hc2<;>try simp only [bq] at hc2
  ·
   refine Nz 2 ?_
   exact Wd (Qc (Cr (Qs (Qr (Qr (Qs (Qr (out1 rfl rfl (Jab (by rw [Ja3 hs1 (by omega) hs3 hc2]))))))))))
  refine Ck (Qb (Qc (Ny 0 ?_)))
  refine Wk 1 Za ?_
  exact Wd (QS.head (s+1) rfl rfl ⟨⟨by omega,by omega,fun j h1 h2=>if hj:j=s then by rw [hj]; exact hc2 else hs3 j h1 (by omega)⟩,by omega⟩)
 refine Cv (Qe (Qe (Qx (Qc (Nz 1 ?_)))))
 exact Wd (Qc (Cr (out1 rfl rfl (Jab (by rw [Jbe fun j h1 h2=>hs3 j h1 (by omega)])))))
theorem Jqn (xs:List (List Int)) (v:Value) (gs:List Value) (w:World) (h1:SlL w v xs gs) (g:Nat) (lb:List Value) (p:List Int→Bool) (hg:Ent Tryz.prog g)
  (hp:∀ u,Below w.heap.size w u→∀ i:Int,0≤i→i < xs.length→Calls Tryz.prog g ([nth gs i]++lb:List Value).toArray u (RetB u (.bool (p (nth xs i))))) :
  Calls Tryz.prog 207 #[v,.func (.func g) #[] lb.toArray] w (RetB w (.bool (xs.any p))):=by
 refine enter Tryz.func207 rfl rfl (Nat.le_of_ble_eq_true rfl) ?_
 refine Nz 1 ?_
 refine Wd (Qc (Nz 2 ?_))
 refine Wk 2 (Cb rfl rfl J9o (fun u hu=>J2b xs v gs u (h1.st hu) g lb p hg (fun u2 h2=>hp u2 (Jba hu.below h2)))) ?_
 exact Wd (Qc (Cr (out1 rfl rfl (Jab (by rw [Jcx])))))
theorem J43 (lw ls n:Int) (b:Nat) (e:TypeId) (w:World) (hL:Jbk lw ls=true) (hb:BlkAt w b [.int .i64 lw,.int .i64 ls] e) :
  Calls Tryz.prog 230 #[.int .i64 n,.pointer (some ⟨b,0,none⟩)] w (RetB w (.bool (!Jaj n 0 (ls - 1)))):=by
 refine enter Tryz.func230 rfl rfl (Nat.le_of_ble_eq_true rfl) ?_
 refine Nz 1 ?_
 refine Wd (Qc (Nz 0 ?_))
 refine Wk 1 Gb ?_
 refine Wk 2 (Cb rfl rfl Jwi (fun u hu=>Jmd _ _ _ u hL)) ?_
 exact Wd (Qc (Cr (out1 rfl rfl retB)))
theorem J4i (lw ls:Int) (xs:List Int) (v:Value) (w:World) (hL:Jbk lw ls=true) (h1:SlI w v xs) :
  Calls Tryz.prog 191 #[.agg #[.int .i64 lw,.int .i64 ls],v] w (RetB w (.bool (Jc7 lw ls xs))):=by
 refine enter Tryz.func191 rfl rfl (Nat.le_of_ble_eq_true rfl) ?_
 refine Nz 0 ?_
 refine Wb 1 rfl rfl (fun _=>rfl) (fun _=>rfl) fun b2 hb2=>?_
 refine Wd (Qc (Nz 1 ?_))
 refine Wk 1 Na ?_
 refine Wk 2 (Ba 0) ?_
 refine Wt 0 rfl rfl (fun hg=>Fm) ?_
 refine Wt 0 rfl rfl (fun hg=>Jal rfl) ?_
 refine Wt 0 rfl rfl (fun hg=>Cb rfl (ec_ (eg_ hg rfl) (ec_ (eg_ hg rfl) en_)) Js0 (fun u hu=>Jqo xs v u (h1.st hu) _ [.pointer (some ⟨b2,0,none⟩)] (fun x => !Jaj x 0 (ls - 1)) J9b (fun u2 h2 i _ _=>J43 _ _ _ _ _ u2 hL ((Ja0 hu (j:=0) rfl).ext h2)))) ?_
 refine Wt 0 rfl rfl (fun hg=>Fn) ?_
 refine Wk 1 Pa ?_
 exact Wd (Qc (Cr (out1 rfl rfl (Jab (by simp [Jc7,List.all_eq_not_any_not])))))
theorem Jnd (lw ls:Int) (xs:List Int) (v:Value) (b:Nat) (e:TypeId) (w:World) (hL:Jbk lw ls=true) (h1:SlI w v xs) (hb:BlkAt w b [.int .i64 lw,.int .i64 ls] e) :
  Calls Tryz.prog 208 #[v,.pointer (some ⟨b,0,none⟩)] w (RetB w (.bool (!Jc7 lw ls xs))):=by
 refine enter Tryz.func208 rfl rfl (Nat.le_of_ble_eq_true rfl) ?_
 refine Nz 1 ?_
 refine Wd (Qc (Nz 0 ?_))
 refine Wk 1 Gb ?_
 refine Wk 2 (Cb rfl rfl J39 (fun u hu=>J4i _ _ _ _ u hL (h1.st hu))) ?_
 exact Wd (Qc (Cr (out1 rfl rfl retB)))
theorem Joa (lw ls:Int) (xss:List (List Int)) (gs:List Value) (v:Value) (w:World) (h1:SlL w v xss gs) :
  Calls Tryz.prog 159 #[.agg #[.int .i64 lw,.int .i64 ls],v] w (RetB w (.int .i64 (if Jbk lw ls then if xss.all (Jc7 lw ls) then 0 else 12 else 10))):=by
 refine enter Tryz.func159 rfl rfl (Nat.le_of_ble_eq_true rfl) ?_
 refine Nz 0 ?_
 refine Wb 1 rfl rfl (fun _=>rfl) (fun _=>rfl) fun b2 hb2=>?_
 refine Wd (Qc (Cs (Nz 0 ?_)))
 refine Wk 0 (Bb 0) ?_
 refine Wk 1 (Cb rfl rfl Jsq (fun u hu=>Jnq _ _ u)) ?_
 refine Wd (Qc (Nz 2 ?_))
 refine Wd (Qc (CS.cond rfl ?_ ?_))<;>intro hc1<;>try simp only [bq] at hc1
 ·
  refine Nz 2 ?_
  exact Wd (Qc (Cr (Qr (out1 rfl rfl (Jab (by have:Jbk lw ls=false:=(by simpa [Jdh] using hc1); simp [Jdh,this]))))))
 have hL:Jbk lw ls=true:=by simpa [Jdh] using hc1
 refine Ck (Qc (Cs (Nz 1 ?_)))
 refine Wk 0 (Jal rfl) ?_
 refine Wk 0 (Cb rfl rfl J76 (fun u hu=>Jqn xss v gs u (h1.st hu) _ [.pointer (some ⟨b2,0,none⟩)] (fun xs => !Jc7 lw ls xs) J8n (fun u2 h2 i h3 h4=>Jnd _ _ _ _ _ _ u2 hL (((h1.st hu).ext h2).el i h3 h4) ((Ja0 hu (j:=0) rfl).ext h2)))) ?_
 refine Wd (Qc (CS.cond rfl ?_ ?_))<;>intro hc2<;>try simp only [bq] at hc2
 ·
  refine Nz 1 ?_
  exact Wd (Qc (Cr (Qr (out1 rfl rfl (Jab (by simp [hL] at hc2 ⊢; simpa using hc2))))))
 refine Ck (Qc (Nz 1 ?_))
 exact Wd (Qc (Cr (out1 rfl rfl (Jab (by simp [hL] at hc2 ⊢; simpa using hc2)))))
theorem Jk0 (lw ls:Int) (xs:List Int) (v:Value) (w:World) (h1:SlI w v xs) :
  Calls Tryz.prog 103 #[.agg #[.int .i64 lw,.int .i64 ls],v] w (RetB w (.int .i64 (Jfy lw ls xs))):=by
 refine enter Tryz.func103 rfl rfl (Nat.le_of_ble_eq_true rfl) ?_
 refine Nz 0 ?_
 refine Wb 1 rfl rfl (fun _=>rfl) (fun _=>rfl) fun b2 hb2=>?_
 refine Wd (Qc (Nz 0 ?_))
 refine Wk 1 (Bb 0) ?_
 refine WS.buildSlice1 sl33 zv42 (vs:=[v]) rfl rfl (by decide) (by intro y hy; obtain ⟨_,p,cap,rfl,_⟩:=h1; simp at hy; subst hy; rfl) (fun _=>rfl) ?_; intro v12
 refine Wk 1 (Cb rfl rfl J95 (fun u hu=>Joa _ _ [xs] _ _ u (SlL.one (Jbx hu (j:=0) rfl) (h1.st hu)))) ?_
 exact Wd (Qc (Cr (out1 rfl rfl (Jab (by simp [Jfy])))))
theorem Jrn (lw ls:Int) (xs:List Int) (v:Value) (w:World) (hL:Jbk lw ls=true) (h1:SlI w v xs) :
  Calls Tryz.prog 252 #[.agg #[.int .i64 lw,.int .i64 ls],v] w (RetB w (.bool (Jc7 lw ls xs))):=by
 have hl1:=h1.le
 have hl:=Jd0 hL
 refine enter Tryz.func252 rfl rfl (Nat.le_of_ble_eq_true rfl) ?_
 refine Nz 0 ?_
 refine Wb 1 rfl rfl (fun _=>rfl) (fun _=>rfl) fun b2 hb2=>?_
 refine Wd (Qc (Cs (Nz 1 ?_)))
 refine Wk 1 Na ?_
 refine Wk 1 (Ba 0) ?_
 refine Wd (Qc (CS.cond rfl ?_ ?_))<;>intro hc1<;>try simp only [bq] at hc1
 ·
  refine Nz 1 ?_
  exact Wd (Qc (Cr (Qr (out1 rfl rfl (Jab (by rw [J0d hc1]))))))
 refine Ck (Qc (Cs (Nz 1 ?_)))
 refine Wd (Qc (Ce ?_))
 refine CS.loopM (σ:=Int) [4,11,12,13,14,15,16,17,18,19,20,21,22,23,24,25] (fun s=>[(5,.int .i64 s)]) (fun _=>_) (fun s=>0≤s∧s≤xs.length∧∀ j:Int,0≤j→j < s→Jaj (nth xs j) 0 (ls - 1)=true) (fun s=>(xs.length - s).toNat) 0 (fun _ _=>rfl) rfl rfl ⟨by omega,by omega,fun j h1 h2=>by omega⟩ ?_
 intro s t hs
 obtain ⟨hs1,hs2,hs3⟩:=hs
 refine Cs (Nz 2 ?_)
 refine Wk 1 Na ?_
 refine Wd (Qc (CS.cond rfl ?_ ?_))<;>intro hc2<;>try simp only [bq] at hc2
 ·
  refine Ck (Qc (Cs (Ce (Cs (Dr Jah 2 ?_)))))
  refine Dk 0 Xa ?_
  refine Dk 1 Ia ?_
  refine Dk 0 (Ba 0) ?_
  refine Dk 0 Zb ?_
  refine Dk 1 (Cb rfl rfl Je7 (fun u hu=>Jct _ _ _ u)) ?_
  refine Dd (Qc (CS.cond rfl ?_ ?_))<;>intro hc3<;>try simp only [bq] at hc3
  ·
   refine Nz 1 ?_
   exact Wd (Qc (Cr (Qs (Qr (Qr (Qs (Qr (out1 rfl rfl (Jab (by rw [Jwy hs1 (by omega) hc3]))))))))))
  refine Ck (Qb (Qc (Ny 1 ?_)))
  refine Wk 1 Za ?_
  exact Wd (QS.head (s+1) rfl rfl ⟨⟨by omega,by omega,fun j h1 h2=>if hj:j=s then by rw [hj]; exact hc3 else hs3 j h1 (by omega)⟩,by omega⟩)
 refine Cv (Qe (Qe (Qx (Qc (Nz 1 ?_)))))
 exact Wd (Qc (Cr (out1 rfl rfl (Jab (by rw [Jx8 (by omega) fun j h1 h2=>hs3 j h1 (by omega)])))))
theorem Jn5 (lw ls:Int) (xs:List Int) (v:Value) (w:World) (h1:SlI w v xs) :
  Calls Tryz.prog 222 #[.agg #[.int .i64 lw,.int .i64 ls],v] w (RetB w (.int .i64 (Jfy lw ls xs))):=by
 refine enter Tryz.func222 rfl rfl (Nat.le_of_ble_eq_true rfl) ?_
 refine Nz 0 ?_
 refine Wb 1 rfl rfl (fun _=>rfl) (fun _=>rfl) fun b2 hb2=>?_
 refine Wd (Qc (Cs (Nz 0 ?_)))
 refine Wk 0 (Bb 0) ?_
 refine Wk 1 (Cb rfl rfl Jta (fun u hu=>Jji _ _ u)) ?_
 refine Wd (Qc (Nz 2 ?_))
 refine Wd (Qc (CS.cond rfl ?_ ?_))<;>intro hc1<;>try simp only [bq] at hc1
 ·
  refine Nz 2 ?_
  exact Wd (Qc (Cr (Qr (out1 rfl rfl (Jab (by have:Jbk lw ls=false:=(by simpa [Jdh] using hc1); simp [Jfy,Jdh,this]))))))
 have hL:Jbk lw ls=true:=by simpa [Jdh] using hc1
 refine Ck (Qc (Cs (Nz 0 ?_)))
 refine Wk 1 (Bb 0) ?_
 refine Wk 1 (Cb rfl rfl J4a (fun u hu=>Jrn _ _ _ _ u hL (h1.st hu))) ?_
 refine Wd (Qc (CS.cond rfl ?_ ?_))<;>intro hc2<;>try simp only [bq] at hc2
 ·
  refine Nz 1 ?_
  exact Wd (Qc (Cr (Qr (out1 rfl rfl (Jab (by simp [Jfy,hL,hc2]))))))
 refine Ck (Qc (Nz 1 ?_))
 exact Wd (Qc (Cr (out1 rfl rfl (Jab (by simp [Jfy,hL,hc2])))))
theorem Jp6 (xs:List Int) (v:Value) (y:Int) (w:World) (h1:SlI w v xs) :
  Calls Tryz.prog 268 #[v,.int .i64 y] w (RetB w (.int .i64 (cnt xs y))):=by
 have hl1:=h1.le
 refine enter Tryz.func268 rfl rfl (Nat.le_of_ble_eq_true rfl) ?_
 refine Nz 1 ?_
 refine Wd (Qc (Nz 1 ?_))
 refine Wd (Qc (Cs (Nz 1 ?_)))
 refine Wd (Qc (Ce ?_))
 refine CS.loopM (σ:=Int × Int) [7,8,9,10,11,12,13,14,15,16,17,18,19,20] (fun s=>[(5,.int .i64 s.2),(6,.int .i64 s.1)]) (fun _=>_) (fun s=>0≤s.1∧s.1≤xs.length∧s.2=cnt (xs.take s.1.toNat) y) (fun s=>(xs.length - s.1).toNat) (0,0) (fun _ _=>rfl) rfl rfl ⟨by simp,by simp,rfl⟩ ?_
 intro s t hs
 obtain ⟨hs1,hs2,hs3⟩:=hs
 have hbd:=Jeh (xs.take s.1.toNat) y
 have hlt:=List.length_take_le s.1.toNat xs
 refine Cs (Nz 2 ?_)
 refine Wk 1 Na ?_
 refine Wd (Qc (CS.cond rfl ?_ ?_))<;>intro hc1<;>try simp only [bq] at hc1
 ·
  refine Ck (Qc (Cs (Ce (Nz 2 ?_))))
  refine Wk 0 Xa ?_
  refine Wk 2 Ia ?_
  refine Wd (Qc (CS.cond rfl ?_ ?_))<;>intro hc2<;>try simp only [bq] at hc2
  ·
   refine Ny 1 ?_
   refine Wk 1 Za ?_
   refine Wd (Qb (Qc (Ny 1 ?_)))
   refine Wk 1 Za ?_
   exact Wd (QS.head ((s.1+1,s.2+1)) rfl rfl ⟨⟨by simp; omega,by simp; omega,by simp only; rw [Jbg xs hs1 (by omega),Jfg,hs3]; simp [hc2]⟩,by simp; omega⟩)
  refine Ck (Qb (Qc (Ny 1 ?_)))
  refine Wk 1 Za ?_
  exact Wd (QS.head ((s.1+1,s.2)) rfl rfl ⟨⟨by simp; omega,by simp; omega,by simp only; rw [Jbg xs hs1 (by omega),Jfg,hs3]; simp [hc2]⟩,by simp; omega⟩)
 refine Cv (Qe (Qe (Qx (Qc (Nz 2 ?_)))))
 exact Wd (Qc (Cr (out1 rfl rfl (Jab (by rw [hs3,Jfm xs (by omega)])))))
theorem Jy4 (xs ys:List Int) (v1 v2:Value) (w:World) (h1:SlI w v1 xs) (h2:SlI w v2 ys) (hl:xs.length=ys.length) (hm:xs.length≤4) :
  Calls Tryz.prog 269 #[v1,v2] w (RetB w (.tuple #[.int .i64 (Jca xs ys),.int .i64 (Jcj xs ys 10 - Jca xs ys)])):=by
 refine enter Tryz.func269 rfl rfl (Nat.le_of_ble_eq_true rfl) ?_
 refine Nz 2 ?_
 refine Wd (Qc (Nz 2 ?_))
 refine Wd (Qc (Cs (Nz 1 ?_)))
 refine Wd (Qc (Ce ?_))
 refine CS.loopM (σ:=Int × Int) [10,11,12,13,14,15,16,17,18,19,20,21,22,23,24,25,26] (fun s=>[(6,.int .i64 s.2),(8,.int .i64 s.1)]) (fun _=>_) (fun s=>0≤s.1∧s.1≤xs.length∧s.2=Jca (xs.take s.1.toNat) (ys.take s.1.toNat)) (fun s=>(xs.length - s.1).toNat) (0,0) (fun _ _=>rfl) rfl rfl ⟨by simp,by simp,by simp [Jca]⟩ ?_
 intro s t hs
 obtain ⟨hs1,hs2,hs3⟩:=hs
 have hbd:=Jf3 (xs.take s.1.toNat) (ys.take s.1.toNat)
 have hlt:=List.length_take_le s.1.toNat xs
 refine Cs (Nz 2 ?_)
 refine Wk 1 Na ?_
 refine Wd (Qc (CS.cond rfl ?_ ?_))<;>intro hc1<;>try simp only [bq] at hc1
 ·
  refine Ck (Qc (Cs (Ce (Cs (Dr Jah 2 ?_)))))
  refine Dk 0 Xa ?_
  refine Dk 2 Ia ?_
  refine Dk 0 Xa ?_
  refine Dk 1 Ia ?_
  refine Dd (Qc (CS.cond rfl ?_ ?_))<;>intro hc2<;>try simp only [bq] at hc2
  ·
   refine Ny 1 ?_
   refine Wk 1 Za ?_
   refine Wd (Qb (Qc (Ny 1 ?_)))
   refine Wk 1 Za ?_
   exact Wd (QS.head ((s.1+1,s.2+1)) rfl rfl ⟨⟨by simp; omega,by simp; omega,by simp only; rw [Jfn xs ys hl hs1 (by omega),hs3]; simp [hc2]⟩,by simp; omega⟩)
  refine Ck (Qb (Qc (Ny 1 ?_)))
  refine Wk 1 Za ?_
  exact Wd (QS.head ((s.1+1,s.2)) rfl rfl ⟨⟨by simp; omega,by simp; omega,by simp only; rw [Jfn xs ys hl hs1 (by omega),hs3]; simp [hc2]⟩,by simp; omega⟩)
 have e1:=Jfm xs (i:=s.1) (by omega)
 have e2:=Jfm ys (i:=s.1) (by omega)
 rw [e1,e2] at hs3
 have hb3:=Jf3 xs ys
 have hb4:=Je0 xs ys 10
 refine Cv (Qe (Qe (Qx (Qc (Cs (Nz 1 ?_))))))
 refine Wd (Qc (Ce ?_))
 refine CS.loopM (σ:=Int × Int) [27,28,29,30,31,32,33,34,35,36,37,38,39] (fun s=>[(7,.int .i64 s.2),(9,.int .i64 s.1)]) (fun _=>_) (fun s=>0≤s.1∧s.1≤10∧s.2=Jcj xs ys s.1.toNat) (fun s=>(10 - s.1).toNat) (0,0) (fun _ _=>rfl) rfl rfl ⟨by simp,by simp,by simp [Jcj]⟩ ?_
 intro r t hs
 obtain ⟨ks1,ks2,ks3⟩:=hs
 have kbd:=Je0 xs ys r.1.toNat
 have kb2:((r.1.toNat:Nat):Int) * (xs.length:Int)≤10 * 4:=Int.mul_le_mul (by omega) (by omega) (by omega) (by omega)
 have kc1:=Jeh xs r.1
 have kc2:=Jeh ys r.1
 refine Cs (Nz 2 ?_)
 refine Wd (Qc (CS.cond rfl ?_ ?_))<;>intro hc3<;>try simp only [bq] at hc3
 ·
  refine Ck (Qc (Cs (Ce (Ny 3 ?_))))
  refine Wk 2 (Cb rfl rfl Jza (fun u hu=>Jp6 _ _ _ u (h1.st hu))) ?_
  refine Wk 0 (Cb rfl rfl Jza (fun u hu=>Jp6 _ _ _ u (h2.st hu))) ?_
  refine Wk 0 (Jzs rfl rfl) ?_
  refine Wk 1 Za ?_
  refine Wd (Qb (Qc (Ny 1 ?_)))
  refine Wk 1 Za ?_
  exact Wd (QS.head ((r.1+1,r.2+min (cnt xs r.1) (cnt ys r.1))) rfl rfl ⟨⟨by simp; omega,by simp; omega,by have e:(r.1+1).toNat=r.1.toNat+1:=(by omega); have e2:((r.1.toNat:Nat):Int)=r.1:=(by omega); simp only [e,Jcj,e2,ks3]⟩,by simp; omega⟩)
 have e3:r.1=10:=by omega
 rw [e3] at ks3
 have ks4:r.2=Jcj xs ys 10:=ks3
 refine Cv (Qe (Qe (Qx (Qc (Nz 3 ?_)))))
 refine Wk 2 Zb ?_
 exact Wd (Qc (Cr (out2 rfl rfl rfl (Jab (by rw [ks4,hs3])))))
theorem J08 (xs ys:List Int) (v1 v2:Value) (w:World) (h1:SlI w v1 xs) (h2:SlI w v2 ys) (hl:xs.length=ys.length) (hm:xs.length≤4)
  (hx:∀ x∈xs,0≤x∧x < 10) (hy:∀ x∈ys,0≤x∧x < 10) :
  Calls Tryz.prog 264 #[v1,v2] w (RetB w (.tuple #[.int .i64 (Jca xs ys),.int .i64 (Jcj xs ys 10 - Jca xs ys)])):=by
 refine enter Tryz.func264 rfl rfl (Nat.le_of_ble_eq_true rfl) ?_
 refine Nz 2 ?_
 refine Wd (Qc (Nz 0 ?_))
 refine Wl 0 J7v (fun _=>rfl) (fun _=>rfl) fun b6 hb6=>?_
 refine Wl 0 J7v (fun _=>rfl) (fun _=>rfl) fun b7 hb7=>?_
 refine Wd (Qc (Cs (Nz 1 ?_)))
 refine Wk 1 Na ?_
 refine Wd (Qc (Ce ?_))
 refine CS.loopM (σ:=Int × Int) [8,9,14,15,16,17,18,19,20,21,22,23,24,25,26,27,28,29,30,31,32,33,34,35,36,37,38,39] (fun s=>[(4,.int .i64 s.2),(13,.int .i64 s.1)]) (fun s=>[blk b7 (Jh5 (ys.take s.1.toNat)) 307,blk b6 (Jh5 (xs.take s.1.toNat)) 307]) (fun s=>0≤s.1∧s.1≤xs.length∧s.2=Jca (xs.take s.1.toNat) (ys.take s.1.toNat)) (fun s=>(xs.length - s.1).toNat) (0,0) (fun _ _=>rfl) rfl rfl ⟨by simp,by simp,by simp [Jca]⟩ ?_
 intro s t hs
 obtain ⟨hs1,hs2,hs3⟩:=hs
 have hbd:=Jf3 (xs.take s.1.toNat) (ys.take s.1.toNat)
 have hlt:=List.length_take_le s.1.toNat xs
 have hlt2:=List.length_take_le s.1.toNat ys
 refine Nz 1 ?_
 refine Wd (Qc (Cs (CS.cond rfl ?_ ?_)))<;>intro hc1<;>try simp only [bq] at hc1
 ·
  have hlx:s.1 < xs.length:=by omega
  have hly:s.1 < ys.length:=by omega
  have hnx:=hx _ (Jai hs1 hlx)
  have hny:=hy _ (Jai hs1 hly)
  have ct1:=Jeh (xs.take s.1.toNat) (nth xs s.1)
  have ct2:=Jeh (ys.take s.1.toNat) (nth ys s.1)
  refine Ck (Qc (Cs (Ce (Nz 1 ?_))))
  refine Wk 0 Xa ?_
  refine Wk 2 Ia ?_
  refine Wd (Qc (Cs (Nz 3 ?_)))
  refine Wk 0 Xa ?_
  refine Wk 1 Ia ?_
  refine Wd (Qc (CS.cond rfl ?_ ?_))<;>intro hc2<;>try simp only [bq] at hc2
  ·
   refine Ny 1 ?_
   refine Wk 1 Za ?_
   refine Wd (Qc (Nz 1 ?_))
   refine Wk 0 (Jcg Jgw rfl rfl (by omega) (by omega)) ?_
   refine Wk 0 (Jas (j:=1) rfl rfl (Jgq hnx.1 hnx.2) tk3) ?_
   refine Wk 0 Za ?_
   refine Wk 0 (Jcg Jgw rfl rfl (by omega) (by omega)) ?_
   refine WS.store (j:=1) rfl rfl (by simp [Jfz]; omega) rfl rfl tk3 (Ja1 _ _ _) rfl ?_
   refine Wd (Qc (Ny 2 ?_))
   refine Wk 0 Xa ?_
   refine Wk 0 Ia ?_
   refine Wk 0 (Jcg Jgw rfl rfl (by omega) (by omega)) ?_
   refine Wk 0 (Jas (j:=0) rfl rfl (Jgq hny.1 hny.2) tk3) ?_
   refine Wk 0 Za ?_
   refine Wk 0 (Jcg Jgw rfl rfl (by omega) (by omega)) ?_
   refine WS.store (j:=0) rfl rfl (by simp [Jfz]; omega) rfl rfl tk3 (Ja1 _ _ _) rfl ?_
   refine Wd (Qb (Qc (Ny 0 ?_)))
   refine Wk 1 Za ?_
   exact Wd (QS.head ((s.1+1,s.2+1)) rfl (by simp only [Jh3 hnx.1 hnx.2,Jh3 hny.1 hny.2,Jbg xs hs1 hlx,Jbg ys hs1 hly]) ⟨⟨by simp; omega,by simp; omega,by simp only; rw [Jfn xs ys hl hs1 (by omega),hs3]; simp [hc2]⟩,by simp; omega⟩)
  refine Ck (Qc (Nz 1 ?_))
  refine Wk 0 (Jcg Jgw rfl rfl (by omega) (by omega)) ?_
  refine Wk 0 (Jas (j:=1) rfl rfl (Jgq hnx.1 hnx.2) tk3) ?_
  refine Wk 0 Za ?_
  refine Wk 0 (Jcg Jgw rfl rfl (by omega) (by omega)) ?_
  refine WS.store (j:=1) rfl rfl (by simp [Jfz]; omega) rfl rfl tk3 (Ja1 _ _ _) rfl ?_
  refine Wd (Qc (Ny 2 ?_))
  refine Wk 0 Xa ?_
  refine Wk 0 Ia ?_
  refine Wk 0 (Jcg Jgw rfl rfl (by omega) (by omega)) ?_
  refine Wk 0 (Jas (j:=0) rfl rfl (Jgq hny.1 hny.2) tk3) ?_
  refine Wk 0 Za ?_
  refine Wk 0 (Jcg Jgw rfl rfl (by omega) (by omega)) ?_
  refine WS.store (j:=0) rfl rfl (by simp [Jfz]; omega) rfl rfl tk3 (Ja1 _ _ _) rfl ?_
  refine Wd (Qb (Qc (Ny 0 ?_)))
  refine Wk 1 Za ?_
  exact Wd (QS.head ((s.1+1,s.2)) rfl (by simp only [Jh3 hnx.1 hnx.2,Jh3 hny.1 hny.2,Jbg xs hs1 hlx,Jbg ys hs1 hly]) ⟨⟨by simp; omega,by simp; omega,by simp only; rw [Jfn xs ys hl hs1 (by omega),hs3]; simp [hc2]⟩,by simp; omega⟩)
 have e1:=Jfm xs (i:=s.1) (by omega)
 have e2:=Jfm ys (i:=s.1) (by omega)
 rw [e1,e2] at hs3
 have hb3:=Jf3 xs ys
 have hb4:=Je0 xs ys 10
 refine Cv (Qe (Qe (Qx (Qc (Cs (Nz 1 ?_))))))
 refine Wd (Qc (Ce ?_))
 refine CS.loopM (σ:=Int × Int) [10,41,42,43,44,45,46,47,48,49,50,51,52] (fun s=>[(5,.int .i64 s.2),(40,.int .i64 s.1)]) (fun s=>[blk b7 (Jh5 ys) 307,blk b6 (Jh5 xs) 307]) (fun s=>0≤s.1∧s.1≤10∧s.2=Jcj xs ys s.1.toNat) (fun s=>(10 - s.1).toNat) (0,0) (fun _ _=>rfl) rfl (by rw [e1,e2]) ⟨by simp,by simp,by simp [Jcj]⟩ ?_
 intro r t hs
 obtain ⟨ks1,ks2,ks3⟩:=hs
 have kbd:=Je0 xs ys r.1.toNat
 have kb2:((r.1.toNat:Nat):Int) * (xs.length:Int)≤10 * 4:=Int.mul_le_mul (by omega) (by omega) (by omega) (by omega)
 have kc1:=Jeh xs r.1
 have kc2:=Jeh ys r.1
 refine Nz 1 ?_
 refine Wd (Qc (Cs (CS.cond rfl ?_ ?_)))<;>intro hc3<;>try simp only [bq] at hc3
 ·
  refine Ck (Qc (Cs (Ce (Nz 2 ?_))))
  refine Wd (Qc (Dr Jah 2 ?_))
  refine Dk 0 (Jcg Jgw rfl rfl (by omega) (by omega)) ?_
  refine Dk 1 (Jas (j:=1) rfl rfl (Jgq (by omega) (by omega)) tk3) ?_
  refine Dk 0 (Jcg Jgw rfl rfl (by omega) (by omega)) ?_
  refine Dk 0 (Jas (j:=0) rfl rfl (Jgq (by omega) (by omega)) tk3) ?_
  refine Dk 0 (Jzs rfl rfl) ?_
  refine Dk 1 Za ?_
  refine Dd (Qb (Qc (Ny 0 ?_)))
  refine Wk 1 Za ?_
  exact Wd (QS.head ((r.1+1,r.2+min (cnt xs r.1) (cnt ys r.1))) rfl rfl ⟨⟨by simp; omega,by simp; omega,by have e:(r.1+1).toNat=r.1.toNat+1:=(by omega); have e2:((r.1.toNat:Nat):Int)=r.1:=(by omega); simp only [e,Jcj,e2,ks3]⟩,by simp; omega⟩)
 have e3:r.1=10:=by omega
 rw [e3] at ks3
 have ks4:r.2=Jcj xs ys 10:=ks3
 refine Cv (Qe (Qe (Qx (Qc (Nz 3 ?_)))))
 refine Wk 2 Zb ?_
 exact Wd (Qc (Cr (out2 rfl rfl rfl (Jab (by rw [ks4,hs3])))))
theorem Jt8 (c d:Clue) (gv hv:Value) (w:World) (h1:SlI w gv c.g) (h2:SlI w hv d.g) :
  Calls Tryz.prog 272 #[.agg #[.int .i64 c.k,.int .i64 c.a,.int .i64 c.b,.int .i64 c.n,.int .i64 c.m,gv,.bool c.nt],.agg #[.int .i64 d.k,.int .i64 d.a,.int .i64 d.b,.int .i64 d.n,.int .i64 d.m,hv,.bool d.nt]] w (RetB w (.bool (decide (c=d)))):=by
 refine enter Tryz.func272 rfl rfl (Nat.le_of_ble_eq_true rfl) ?_
 refine Nz 0 ?_
 refine Wb 0 rfl rfl (fun _=>rfl) (fun _=>rfl) fun b2 hb2=>?_
 refine Wb 1 rfl rfl (fun _=>rfl) (fun _=>rfl) fun b3 hb3=>?_
 refine Wd (Qc (Nz 1 ?_))
 refine Wk 1 (Ba 1) ?_
 refine Wk 2 (Ba 0) ?_
 refine Wt 0 rfl rfl (fun hg=>Ff) ?_
 refine Wt 0 rfl rfl (fun hg=>Ba 1) ?_
 refine Wt 0 rfl rfl (fun hg=>Ff) ?_
 refine Wt 0 rfl rfl (fun hg=>Ba 0) ?_
 refine Wt 0 rfl rfl (fun hg=>Fq) ?_
 refine Wk 1 Pa ?_
 refine Wt 0 rfl rfl (fun hg=>Ff) ?_
 refine Wt 0 rfl rfl (fun hg=>Ba 1) ?_
 refine Wt 0 rfl rfl (fun hg=>Ff) ?_
 refine Wt 0 rfl rfl (fun hg=>Ba 0) ?_
 refine Wt 0 rfl rfl (fun hg=>Fq) ?_
 refine Wk 1 Pa ?_
 refine Wt 0 rfl rfl (fun hg=>Ff) ?_
 refine Wt 0 rfl rfl (fun hg=>Ba 1) ?_
 refine Wt 0 rfl rfl (fun hg=>Ff) ?_
 refine Wt 0 rfl rfl (fun hg=>Ba 0) ?_
 refine Wt 0 rfl rfl (fun hg=>Fq) ?_
 refine Wk 1 Pa ?_
 refine Wt 0 rfl rfl (fun hg=>Ff) ?_
 refine Wt 0 rfl rfl (fun hg=>Ba 1) ?_
 refine Wt 0 rfl rfl (fun hg=>Ff) ?_
 refine Wt 0 rfl rfl (fun hg=>Ba 0) ?_
 refine Wt 0 rfl rfl (fun hg=>Fq) ?_
 refine Wk 1 Pa ?_
 refine Wt 0 rfl rfl (fun hg=>Ff) ?_
 refine Wt 0 rfl rfl (fun hg=>Ba 1) ?_
 refine Wt 0 rfl rfl (fun hg=>Ff) ?_
 refine Wt 0 rfl rfl (fun hg=>Ba 0) ?_
 refine Wt 0 rfl rfl (fun hg=>Jqe (eg_ hg rfl) (eg_ hg rfl) Tryz.underlying4) ?_
 refine Wk 1 Pa ?_
 refine Wt 0 rfl rfl (fun hg=>Ff) ?_
 refine Wt 0 rfl rfl (fun hg=>Ba 1) ?_
 refine Wt 0 rfl rfl (fun hg=>Ff) ?_
 refine Wt 0 rfl rfl (fun hg=>Ba 0) ?_
 refine Wt 0 rfl rfl (fun hg=>Cb rfl (ec_ (eg_ hg rfl) (ec_ (eg_ hg rfl) en_)) J8d (fun u hu=>Ju8 _ _ _ _ u (h1.st hu) (h2.st hu))) ?_
 refine Wk 1 Pa ?_
 exact Wd (Qc (Cr (out1 rfl rfl (Jab (by cases c; cases d; simp [Clue.mk.injEq,Bool.and_assoc,and_assoc]; grind)))))
theorem J3l (lw ls:Int) (c:Clue) (gv:Value) (w:World) (hL:Jbk lw ls=true) (h1:SlI w gv c.g) :
  Calls Tryz.prog 147 #[.agg #[.int .i64 lw,.int .i64 ls],.agg #[.int .i64 c.k,.int .i64 c.a,.int .i64 c.b,.int .i64 c.n,.int .i64 c.m,gv,.bool c.nt]] w (RetB w (.bool (Jbi lw ls c))):=by
 have hl:=Jd0 hL
 obtain ⟨hgn,p,cap,rfl,hcap,hp⟩:=h1
 have h1:SlI w (.slice p c.g.length cap) c.g:=⟨hgn,p,cap,rfl,hcap,hp⟩
 clear hgn hcap hp
 refine enter Tryz.func147 rfl rfl (Nat.le_of_ble_eq_true rfl) ?_
 refine Nz 0 ?_
 refine Wb 0 rfl rfl (fun _=>rfl) (fun _=>rfl) fun b2 hb2=>?_
 refine Wb 1 rfl rfl (fun _=>rfl) (fun _=>rfl) fun b3 hb3=>?_
 refine Wd (Qc (Nz 1 ?_))
 refine Wk 1 (Ba 0) ?_
 refine Wk 0 (Ba 0) ?_
 refine Wk 0 (Db J01 zv92) ?_
 refine Wl 0 zv92 (fun _=>rfl) (fun _=>rfl) fun b5 hb5=>?_
 refine Wv 0 0 ?_
 refine Wd (Qc (Nz 1 ?_))
 refine Wd (Qc ?_)
 refine CS.cut (σ:=Used) [12,13,14,15,16,17,18,19,20,21,22,23,24,25,26,27,28,29,30,31,32,33,34,35,36,37,38,39,40,41,42,43,44,45,46,47,48,49,50,51,52,53,54,55,56,57,58,59,60,61,62,63,64,65,66,67,68,69,70,71,72,73,74,75,76,77,78,79,80,81,82,83,84,85,86,87,88,89,90,91,92,93,94,95,96,97,98,99,100,101,102,103,104,105,106,107,108,109,110,111,112,113,114,115,116,117,118,119,120,121,122,123,124,125,126,127,128,129,130,131,132,133,134,135,136,137,138,139,140,141,142,143,144,145,146,147,148,149,150,151,152,153,154,155,156,157,158,159,160,161,162,163,164,165,166] (fun s=>[(6,.bool s.is)]) (fun s=>[blk b5 [.int .i64 c.k,.int .i64 s.a,.int .i64 s.b,.int .i64 s.n,.int .i64 s.m,.slice s.q s.l s.cap,.bool c.nt] 92,blk b3 [.int .i64 c.k,.int .i64 c.a,.int .i64 c.b,.int .i64 c.n,.int .i64 c.m,.slice p c.g.length cap,.bool c.nt] 92,blk b2 [.int .i64 lw,.int .i64 ls] 184]) (fun s=>Jf6 c s=Jbi lw ls c) (fun _ _=>rfl) ?_ ?_
 ·
  refine Nz 1 ?_
  refine Wk 0 (Ba 1) ?_
  refine Wd (Qc (Ce (Nz 2 ?_)))
  refine Wd (Qc (CS.cond rfl ?_ ?_))<;>intro hc1<;>try simp only [bq] at hc1
  ·
   refine Cs ?_
   refine CS.drawnBut 0 (k:=8) Jah rfl rfl rfl ?_
   refine Ar [0] ?_
   refine Ak 1 [2] rfl (Ba 0) ?_
   refine Ak 3 [4] rfl (Ba 0) ?_
   refine Ao 5 rfl ?_
   refine Ws 0 0 ?_
   refine Wd (Qa ?_)
   refine Ar [6] ?_
   refine Ao 7 rfl ?_
   refine Ws 0 0 ?_
   refine Wd (Qa ?_)
   refine Ae ?_
   refine Qc (Ny 0 ?_)
   refine Wk 1 (Bb 2) ?_
   refine Wk 0 (Ba 1) ?_
   refine Wk 1 (Cb rfl rfl Ji4 (fun u hu=>Jf5 _ _ _ u hL)) ?_
   refine Wt 0 rfl rfl (fun hg=>Bb 2) ?_
   refine Wt 0 rfl rfl (fun hg=>Ff) ?_
   refine Wt 0 rfl rfl (fun hg=>Ba 1) ?_
   refine Wt 0 rfl rfl (fun hg=>Cb rfl (ec_ (eg_ hg rfl) (ec_ (eg_ hg rfl) en_)) Jwi (fun u hu=>Jmd _ _ _ u hL)) ?_
   refine Wk 1 Pa ?_
   exact Wd (Qb (QS.head (⟨Jaj c.a 0 (lw - 1) && Jaj c.n 0 (ls - 1),c.a,0,c.n,0,none,0,0⟩) rfl rfl (J63 hc1 none 0)))
  refine Nz 2 ?_
  refine Wd (Qc (CS.cond rfl ?_ ?_))<;>intro hc2<;>try simp only [bq] at hc2
  ·
   refine Cs ?_
   refine CS.drawnBut 0 (k:=12) Jah rfl rfl rfl ?_
   refine Ar [0] ?_
   refine Ak 1 [2] rfl (Ba 0) ?_
   refine Ak 3 [4] rfl (Ba 0) ?_
   refine Ak 5 [6] rfl (Ba 0) ?_
   refine Ao 7 rfl ?_
   refine Ws 0 0 ?_
   refine Wd (Qa ?_)
   refine Ar [8] ?_
   refine Ao 9 rfl ?_
   refine Ws 0 0 ?_
   refine Wd (Qa ?_)
   refine Ar [10] ?_
   refine Ao 11 rfl ?_
   refine Ws 0 0 ?_
   refine Wd (Qa ?_)
   refine Ae ?_
   refine Qc (Ny 0 ?_)
   refine Wk 1 (Bb 2) ?_
   refine Wk 0 (Ba 1) ?_
   refine Wk 1 (Cb rfl rfl Ji4 (fun u hu=>Jf5 _ _ _ u hL)) ?_
   refine Wt 0 rfl rfl (fun hg=>Bb 2) ?_
   refine Wt 0 rfl rfl (fun hg=>Ff) ?_
   refine Wt 0 rfl rfl (fun hg=>Ba 1) ?_
   refine Wt 0 rfl rfl (fun hg=>Cb rfl (ec_ (eg_ hg rfl) (ec_ (eg_ hg rfl) en_)) Ji4 (fun u hu=>Jf5 _ _ _ u hL)) ?_
   refine Wk 1 Pa ?_
   refine Wt 0 rfl rfl (fun hg=>Ff) ?_
   refine Wt 0 rfl rfl (fun hg=>Ba 1) ?_
   refine Wt 0 rfl rfl (fun hg=>Ff) ?_
   refine Wt 0 rfl rfl (fun hg=>Ba 1) ?_
   refine Wt 0 rfl rfl (fun hg=>Fk) ?_
   refine Wk 1 Pa ?_
   refine Wt 0 rfl rfl (fun hg=>Ff) ?_
   refine Wt 0 rfl rfl (fun hg=>Ba 1) ?_
   refine Wt 0 rfl rfl (fun hg=>Cb rfl (ec_ (eg_ hg rfl) (ec_ rfl (ec_ rfl en_))) Jgz (fun u hu=>Jdo _ _ _ u)) ?_
   refine Wk 1 Pa ?_
   exact Wd (Qb (QS.head (⟨((Jaj c.a 0 (lw - 1) && Jaj c.b 0 (lw - 1)) && decide (c.a≤c.b)) && Jaj c.n 0 100,c.a,c.b,c.n,0,none,0,0⟩) rfl rfl (J5c hc2 none 0)))
  refine Cs (Nz 2 ?_)
  refine Wd (Qc (CS.cond rfl ?_ ?_))<;>intro hc3<;>try simp only [bq] at hc3
  ·
   refine Ck (Qc (CS.cond rfl ?_ ?_))<;>intro hc4<;>try simp only [bq] at hc4
   ·
    refine Cs ?_
    refine CS.drawnBut 0 (k:=8) Jah rfl rfl rfl ?_
    refine Ar [0] ?_
    refine Ak 1 [2] rfl (Ba 0) ?_
    refine Ak 3 [4] rfl (Ba 0) ?_
    refine Ao 5 rfl ?_
    refine Ws 0 0 ?_
    refine Wd (Qa ?_)
    refine Ar [6] ?_
    refine Ao 7 rfl ?_
    refine Ws 0 0 ?_
    refine Wd (Qa ?_)
    refine Ae ?_
    refine Qc (Ny 0 ?_)
    refine Wk 1 (Bb 2) ?_
    refine Wk 0 (Ba 1) ?_
    refine Wk 1 (Cb rfl rfl Ji4 (fun u hu=>Jf5 _ _ _ u hL)) ?_
    refine Wt 0 rfl rfl (fun hg=>Bb 2) ?_
    refine Wt 0 rfl rfl (fun hg=>Ff) ?_
    refine Wt 0 rfl rfl (fun hg=>Ba 1) ?_
    refine Wt 0 rfl rfl (fun hg=>Cb rfl (ec_ (eg_ hg rfl) (ec_ (eg_ hg rfl) en_)) Ji4 (fun u hu=>Jf5 _ _ _ u hL)) ?_
    refine Wk 1 Pa ?_
    refine Wt 0 rfl rfl (fun hg=>Ff) ?_
    refine Wt 0 rfl rfl (fun hg=>Ba 1) ?_
    refine Wt 0 rfl rfl (fun hg=>Ff) ?_
    refine Wt 0 rfl rfl (fun hg=>Ba 1) ?_
    refine Wt 0 rfl rfl (fun hg=>Fr) ?_
    refine Wk 1 Pa ?_
    exact Wd (Qb (QS.head (⟨(Jaj c.a 0 (lw - 1) && Jaj c.b 0 (lw - 1)) && decide (c.a≠c.b),c.a,c.b,0,0,none,0,0⟩) rfl rfl (J5f hc3 none 0)))
   exact absurd hc3 hc4
  refine Ny 2 ?_
  refine Wd (Qc (CS.cond rfl ?_ ?_))<;>intro hc5<;>try simp only [bq] at hc5
  ·
   refine Cs ?_
   refine CS.drawnBut 0 (k:=8) Jah rfl rfl rfl ?_
   refine Ar [0] ?_
   refine Ak 1 [2] rfl (Ba 0) ?_
   refine Ak 3 [4] rfl (Ba 0) ?_
   refine Ao 5 rfl ?_
   refine Ws 0 0 ?_
   refine Wd (Qa ?_)
   refine Ar [6] ?_
   refine Ao 7 rfl ?_
   refine Ws 0 0 ?_
   refine Wd (Qa ?_)
   refine Ae ?_
   refine Qc (Ny 0 ?_)
   refine Wk 1 (Bb 2) ?_
   refine Wk 0 (Ba 1) ?_
   refine Wk 1 (Cb rfl rfl Ji4 (fun u hu=>Jf5 _ _ _ u hL)) ?_
   refine Wt 0 rfl rfl (fun hg=>Bb 2) ?_
   refine Wt 0 rfl rfl (fun hg=>Ff) ?_
   refine Wt 0 rfl rfl (fun hg=>Ba 1) ?_
   refine Wt 0 rfl rfl (fun hg=>Cb rfl (ec_ (eg_ hg rfl) (ec_ (eg_ hg rfl) en_)) Ji4 (fun u hu=>Jf5 _ _ _ u hL)) ?_
   refine Wk 1 Pa ?_
   refine Wt 0 rfl rfl (fun hg=>Ff) ?_
   refine Wt 0 rfl rfl (fun hg=>Ba 1) ?_
   refine Wt 0 rfl rfl (fun hg=>Ff) ?_
   refine Wt 0 rfl rfl (fun hg=>Ba 1) ?_
   refine Wt 0 rfl rfl (fun hg=>Fr) ?_
   refine Wk 1 Pa ?_
   exact Wd (Qb (QS.head (⟨(Jaj c.a 0 (lw - 1) && Jaj c.b 0 (lw - 1)) && decide (c.a≠c.b),c.a,c.b,0,0,none,0,0⟩) rfl rfl (J6k hc5 none 0)))
  refine Nz 2 ?_
  refine Wd (Qc (CS.cond rfl ?_ ?_))<;>intro hc6<;>try simp only [bq] at hc6
  ·
   refine Cs ?_
   refine CS.drawnBut 0 (k:=8) Jah rfl rfl rfl ?_
   refine Ar [0] ?_
   refine Ak 1 [2] rfl (Ba 0) ?_
   refine Ak 3 [4] rfl (Ba 0) ?_
   refine Ao 5 rfl ?_
   refine Ws 0 0 ?_
   refine Wd (Qa ?_)
   refine Ar [6] ?_
   refine Ao 7 rfl ?_
   refine Ws 0 0 ?_
   refine Wd (Qa ?_)
   refine Ae ?_
   refine Qc (Ny 0 ?_)
   refine Wk 1 (Bb 2) ?_
   refine Wk 0 (Ba 1) ?_
   refine Wk 1 (Cb rfl rfl Jwi (fun u hu=>Jmd _ _ _ u hL)) ?_
   refine Wt 0 rfl rfl (fun hg=>Ff) ?_
   refine Wt 0 rfl rfl (fun hg=>Ba 1) ?_
   refine Wt 0 rfl rfl (fun hg=>Ff) ?_
   refine Wt 0 rfl rfl (fun hg=>Ba 2) ?_
   refine Wt 0 rfl rfl (fun hg=>Cb rfl (ec_ (eg_ hg rfl) (ec_ rfl (ec_ (eg_ hg rfl) en_))) Jgz (fun u hu=>Jdo _ _ _ u)) ?_
   refine Wk 1 Pa ?_
   exact Wd (Qb (QS.head (⟨Jaj c.n 0 (ls - 1) && Jaj c.m 0 lw,0,0,c.n,c.m,none,0,0⟩) rfl rfl (J5e hc6 none 0)))
  refine Nz 2 ?_
  refine Wd (Qc (CS.cond rfl ?_ ?_))<;>intro hc7<;>try simp only [bq] at hc7
  ·
   refine Cs ?_
   refine CS.drawnBut 0 (k:=12) Jah rfl rfl rfl ?_
   refine Ar [0] ?_
   refine Ak 1 [2] rfl (Ba 0) ?_
   refine Ak 3 [4] rfl (Ba 0) ?_
   refine Ak 5 [6] rfl (Ba 0) ?_
   refine Ao 7 rfl ?_
   refine Ws 0 0 ?_
   refine Wd (Qa ?_)
   refine Ar [8] ?_
   refine Ao 9 rfl ?_
   refine Ws 0 0 ?_
   refine Wd (Qa ?_)
   refine Ar [10] ?_
   refine Ao 11 rfl ?_
   refine Ws 0 0 ?_
   refine Wd (Qa ?_)
   refine Ae ?_
   refine Qc (Ny 1 ?_)
   refine Wk 1 (Ba 1) ?_
   refine Wk 0 (Ba 2) ?_
   refine Wk 1 (Cb rfl rfl Jgz (fun u hu=>Jdo _ _ _ u)) ?_
   refine Wt 0 rfl rfl (fun hg=>Ff) ?_
   refine Wt 0 rfl rfl (fun hg=>Ba 1) ?_
   refine Wt 0 rfl rfl (fun hg=>Ff) ?_
   refine Wt 0 rfl rfl (fun hg=>Ba 2) ?_
   refine Wt 0 rfl rfl (fun hg=>Cb rfl (ec_ (eg_ hg rfl) (ec_ rfl (ec_ (eg_ hg rfl) en_))) Jgz (fun u hu=>Jdo _ _ _ u)) ?_
   refine Wk 1 Pa ?_
   refine Wt 0 rfl rfl (fun hg=>Bb 2) ?_
   refine Wt 0 rfl rfl (fun hg=>Ff) ?_
   refine Wt 0 rfl rfl (fun hg=>Ba 1) ?_
   refine Wt 0 rfl rfl (fun hg=>Cb rfl (ec_ (eg_ hg rfl) (ec_ (eg_ hg rfl) en_)) J39 (fun u hu=>J4i _ _ _ _ u hL (h1.st hu))) ?_
   refine Wk 1 Pa ?_
   exact Wd (Qb (QS.head (⟨(Jaj c.n 0 lw && Jaj c.m 0 lw) && Jc7 lw ls c.g,0,0,c.n,c.m,p,c.g.length,cap⟩) rfl rfl (J5h hc7 p cap)))
  refine Nz 2 ?_
  refine Wd (Qc (CS.cond rfl ?_ ?_))<;>intro hc8<;>try simp only [bq] at hc8
  ·
   refine Cs ?_
   refine CS.drawnBut 0 (k:=12) Jah rfl rfl rfl ?_
   refine Ar [0] ?_
   refine Ak 1 [2] rfl (Ba 0) ?_
   refine Ak 3 [4] rfl (Ba 0) ?_
   refine Ak 5 [6] rfl (Ba 0) ?_
   refine Ao 7 rfl ?_
   refine Ws 0 0 ?_
   refine Wd (Qa ?_)
   refine Ar [8] ?_
   refine Ao 9 rfl ?_
   refine Ws 0 0 ?_
   refine Wd (Qa ?_)
   refine Ar [10] ?_
   refine Ao 11 rfl ?_
   refine Ws 0 0 ?_
   refine Wd (Qa ?_)
   refine Ae ?_
   refine Qc (Ny 0 ?_)
   refine Wk 1 (Bb 2) ?_
   refine Wk 0 (Ba 1) ?_
   refine Wk 1 (Cb rfl rfl Ji4 (fun u hu=>Jf5 _ _ _ u hL)) ?_
   refine Wt 0 rfl rfl (fun hg=>Ff) ?_
   refine Wt 0 rfl rfl (fun hg=>Ba 1) ?_
   refine Wt 0 rfl rfl (fun hg=>Cb rfl (ec_ (eg_ hg rfl) (ec_ rfl (ec_ rfl en_))) Jgz (fun u hu=>Jdo _ _ _ u)) ?_
   refine Wk 1 Pa ?_
   refine Wt 0 rfl rfl (fun hg=>Ff) ?_
   refine Wt 0 rfl rfl (fun hg=>Ba 1) ?_
   refine Wt 0 rfl rfl (fun hg=>Ff) ?_
   refine Wt 0 rfl rfl (fun hg=>Ba 1) ?_
   refine Wt 0 rfl rfl (fun hg=>Jhd (eg_ hg rfl) rfl (by simp [Jaj] at hg; omega)) ?_
   refine Wt 0 rfl rfl (fun hg=>Cb rfl (ec_ (eg_ hg rfl) (ec_ rfl (ec_ (eg_ hg rfl) en_))) Jgz (fun u hu=>Jdo _ _ _ u)) ?_
   refine Wk 1 Pa ?_
   exact Wd (Qb (QS.head (⟨(Jaj c.a 0 (lw - 1) && Jaj c.n 2 10) && Jaj c.m 0 (c.n - 1),c.a,0,c.n,c.m,none,0,0⟩) rfl rfl (J5m hc8 none 0)))
  exact Ck (Qb (QS.head (⟨false,0,0,0,0,none,0,0⟩) rfl rfl (J0x hc1 hc2 hc3 hc5 hc6 hc7 hc8 _ _ _ _ _ _ _)))
 intro s t hs
 refine Nz 2 ?_
 refine Wt 0 rfl rfl (fun hg=>Ff) ?_
 refine Wt 0 rfl rfl (fun hg=>Ba 1) ?_
 refine Wt 0 rfl rfl (fun hg=>Ff) ?_
 refine Wt 0 rfl rfl (fun hg=>Ba 0) ?_
 refine Wt 0 rfl rfl (fun hg=>Fq) ?_
 refine Wk 1 Pa ?_
 refine Wt 0 rfl rfl (fun hg=>Ff) ?_
 refine Wt 0 rfl rfl (fun hg=>Ba 1) ?_
 refine Wt 0 rfl rfl (fun hg=>Ff) ?_
 refine Wt 0 rfl rfl (fun hg=>Ba 0) ?_
 refine Wt 0 rfl rfl (fun hg=>Fq) ?_
 refine Wk 1 Pa ?_
 refine Wt 0 rfl rfl (fun hg=>Ff) ?_
 refine Wt 0 rfl rfl (fun hg=>Ba 1) ?_
 refine Wt 0 rfl rfl (fun hg=>Ff) ?_
 refine Wt 0 rfl rfl (fun hg=>Ba 0) ?_
 refine Wt 0 rfl rfl (fun hg=>Fq) ?_
 refine Wk 1 Pa ?_
 refine Wt 0 rfl rfl (fun hg=>Ff) ?_
 refine Wt 0 rfl rfl (fun hg=>Ba 1) ?_
 refine Wt 0 rfl rfl (fun hg=>Ff) ?_
 refine Wt 0 rfl rfl (fun hg=>Ba 0) ?_
 refine Wt 0 rfl rfl (fun hg=>Fq) ?_
 refine Wk 1 Pa ?_
 refine Wt 0 rfl rfl (fun hg=>Ff) ?_
 refine Wt 0 rfl rfl (fun hg=>Ba 1) ?_
 refine Wt 0 rfl rfl (fun hg=>Na (eg_ hg rfl)) ?_
 refine Wt 0 rfl rfl (fun hg=>Ff) ?_
 refine Wt 0 rfl rfl (fun hg=>Ba 0) ?_
 refine Wt 0 rfl rfl (fun hg=>Jhm sl42 (eg_ hg rfl) ⟨_,_,rfl⟩) ?_
 refine Wt 0 rfl rfl (fun hg=>Fq) ?_
 refine Wk 1 Pa ?_
 exact Wd (Qc (Cr (out1 rfl rfl (Jab (by rw [← hs]; rfl)))))
theorem Jrf (lw ls:Int) (c:Clue) (gv:Value) (w:World) (hL:Jbk lw ls=true) (h1:SlI w gv c.g) :
  Calls Tryz.prog 267 #[.agg #[.int .i64 lw,.int .i64 ls],.agg #[.int .i64 c.k,.int .i64 c.a,.int .i64 c.b,.int .i64 c.n,.int .i64 c.m,gv,.bool c.nt]] w (RetB w (.bool (Jbi lw ls c))):=by
 have hl:=Jd0 hL
 obtain ⟨hgn,p,cap,rfl,hcap,hp⟩:=h1
 have h1:SlI w (.slice p c.g.length cap) c.g:=⟨hgn,p,cap,rfl,hcap,hp⟩
 clear hgn hcap hp
 refine enter Tryz.func267 rfl rfl (Nat.le_of_ble_eq_true rfl) ?_
 refine Nz 0 ?_
 refine Wb 0 rfl rfl (fun _=>rfl) (fun _=>rfl) fun b2 hb2=>?_
 refine Wb 1 rfl rfl (fun _=>rfl) (fun _=>rfl) fun b3 hb3=>?_
 refine Wd (Qc (Cs (Dr Jah 1 ?_)))
 refine Dk 1 (Ba 0) ?_
 refine Dk 0 (Ba 1) ?_
 refine Dk 0 Zb ?_
 refine Dk 1 (Cb rfl rfl Je7 (fun u hu=>Jct _ _ _ u)) ?_
 refine Dk 1 (Ba 0) ?_
 refine Dk 0 (Ba 1) ?_
 refine Dk 0 Zb ?_
 refine Dk 2 (Cb rfl rfl Je7 (fun u hu=>Jct _ _ _ u)) ?_
 refine Dd (Qc (Nz 1 ?_))
 refine Wk 1 (Ba 0) ?_
 refine Wk 0 (Ba 0) ?_
 refine Wk 0 (Db J01 zv92) ?_
 refine Wl 0 zv92 (fun _=>rfl) (fun _=>rfl) fun b7 hb7=>?_
 refine Wv 0 0 ?_
 refine Wd (Qc (Nz 1 ?_))
 refine Wd (Qc ?_)
 refine CS.cut (σ:=Used) [26,27,28,29,30,31,32,33,34,35,36,37,38,39,40,41,42,43,44,45,46,47,48,49,50,51,52,53,54,55,56,57,58,59,60,61,62,63,64,65,66,67,68,69,70,71,72,73,74,75,76,77,78,79,80,81,82,83,84,85,86,87,88,89,90,91,92,93,94,95,96,97,98,99,100,101,102,103,104,105,106,107,108,109,110,111,112,113,114,115,116,117,118,119,120,121,122,123,124,125,126,127,128,129,130,131,132,133,134,135,136,137,138,139,140,141,142,143,144,145,146,147,148,149,150,151,152,153,154,155,156,157,158,159,160,161,162,163,164,165,166] (fun s=>[(8,.bool s.is)]) (fun s=>[blk b7 [.int .i64 c.k,.int .i64 s.a,.int .i64 s.b,.int .i64 s.n,.int .i64 s.m,.slice s.q s.l s.cap,.bool c.nt] 92,blk b3 [.int .i64 c.k,.int .i64 c.a,.int .i64 c.b,.int .i64 c.n,.int .i64 c.m,.slice p c.g.length cap,.bool c.nt] 92,blk b2 [.int .i64 lw,.int .i64 ls] 90]) (fun s=>RU w lw ls c s) (fun _ _=>rfl) ?_ ?_
 ·
  refine Nz 1 ?_
  refine Wk 0 (Ba 1) ?_
  refine Wd (Qc (Ce (Nz 2 ?_)))
  refine Wd (Qc (CS.cond rfl ?_ ?_))<;>intro hc1<;>try simp only [bq] at hc1
  ·
   refine Nz 2 ?_
   refine Wt 0 rfl rfl (fun hg=>Ff) ?_
   refine Wt 0 rfl rfl (fun hg=>Ba 1) ?_
   refine Wt 0 rfl rfl (fun hg=>Ff) ?_
   refine Wt 0 rfl rfl (fun hg=>Ba 2) ?_
   refine Wt 0 rfl rfl (fun hg=>Zb) ?_
   refine Wt 0 rfl rfl (fun hg=>Cb rfl (ec_ (eg_ hg rfl) (ec_ rfl (ec_ (eg_ hg rfl) en_))) Je7 (fun u hu=>Jct _ _ _ u)) ?_
   refine Wk 1 Pa ?_
   refine Wd (Qc (Nz 1 ?_))
   refine Wk 1 (Ba 1) ?_
   refine Ws 0 0 ?_
   refine Wd (Qc (Ny 1 ?_))
   refine Wk 1 (Ba 1) ?_
   refine Ws 0 0 ?_
   exact Wd (Qb (QS.head (⟨Jaj c.a 0 (lw - 1) && Jaj c.n 0 (ls - 1),c.a,0,c.n,0,none,0,0⟩) rfl rfl (J4p hc1)))
  refine Nz 2 ?_
  refine Wd (Qc (CS.cond rfl ?_ ?_))<;>intro hc2<;>try simp only [bq] at hc2
  ·
   refine Nz 2 ?_
   refine Wt 0 rfl rfl (fun hg=>Fm) ?_
   refine Wk 1 Pa ?_
   refine Wt 0 rfl rfl (fun hg=>Ff) ?_
   refine Wt 0 rfl rfl (fun hg=>Ba 1) ?_
   refine Wt 0 rfl rfl (fun hg=>Ff) ?_
   refine Wt 0 rfl rfl (fun hg=>Ba 1) ?_
   refine Wt 0 rfl rfl (fun hg=>Fk) ?_
   refine Wk 1 Pa ?_
   refine Wt 0 rfl rfl (fun hg=>Ff) ?_
   refine Wt 0 rfl rfl (fun hg=>Ba 1) ?_
   refine Wt 0 rfl rfl (fun hg=>Cb rfl (ec_ (eg_ hg rfl) (ec_ rfl (ec_ rfl en_))) Je7 (fun u hu=>Jct _ _ _ u)) ?_
   refine Wk 1 Pa ?_
   refine Wd (Qc (Nz 1 ?_))
   refine Wk 1 (Ba 1) ?_
   refine Ws 0 0 ?_
   refine Wd (Qc (Nz 1 ?_))
   refine Wk 1 (Ba 1) ?_
   refine Ws 0 0 ?_
   refine Wd (Qc (Ny 1 ?_))
   refine Wk 1 (Ba 1) ?_
   refine Ws 0 0 ?_
   exact Wd (Qb (QS.head (⟨((Jaj c.a 0 (lw - 1) && Jaj c.b 0 (lw - 1)) && decide (c.a≤c.b)) && Jaj c.n 0 100,c.a,c.b,c.n,0,none,0,0⟩) rfl rfl (J6t hc2)))
  refine Cs (Nz 2 ?_)
  refine Wd (Qc (CS.cond rfl ?_ ?_))<;>intro hc3<;>try simp only [bq] at hc3
  ·
   refine Ck (Qc (CS.cond rfl ?_ ?_))<;>intro hc4<;>try simp only [bq] at hc4
   ·
    refine Nz 2 ?_
    refine Wt 0 rfl rfl (fun hg=>Fm) ?_
    refine Wk 1 Pa ?_
    refine Wt 0 rfl rfl (fun hg=>Ff) ?_
    refine Wt 0 rfl rfl (fun hg=>Ba 1) ?_
    refine Wt 0 rfl rfl (fun hg=>Ff) ?_
    refine Wt 0 rfl rfl (fun hg=>Ba 1) ?_
    refine Wt 0 rfl rfl (fun hg=>Fr) ?_
    refine Wk 1 Pa ?_
    refine Wd (Qc (Nz 1 ?_))
    refine Wk 1 (Ba 1) ?_
    refine Ws 0 0 ?_
    refine Wd (Qc (Ny 1 ?_))
    refine Wk 1 (Ba 1) ?_
    refine Ws 0 0 ?_
    exact Wd (Qb (QS.head (⟨(Jaj c.a 0 (lw - 1) && Jaj c.b 0 (lw - 1)) && decide (c.a≠c.b),c.a,c.b,0,0,none,0,0⟩) rfl rfl (J5q hc3)))
   exact absurd hc3 hc4
  refine Ny 2 ?_
  refine Wd (Qc (CS.cond rfl ?_ ?_))<;>intro hc5<;>try simp only [bq] at hc5
  ·
   refine Nz 2 ?_
   refine Wt 0 rfl rfl (fun hg=>Fm) ?_
   refine Wk 1 Pa ?_
   refine Wt 0 rfl rfl (fun hg=>Ff) ?_
   refine Wt 0 rfl rfl (fun hg=>Ba 1) ?_
   refine Wt 0 rfl rfl (fun hg=>Ff) ?_
   refine Wt 0 rfl rfl (fun hg=>Ba 1) ?_
   refine Wt 0 rfl rfl (fun hg=>Fr) ?_
   refine Wk 1 Pa ?_
   refine Wd (Qc (Nz 1 ?_))
   refine Wk 1 (Ba 1) ?_
   refine Ws 0 0 ?_
   refine Wd (Qc (Ny 1 ?_))
   refine Wk 1 (Ba 1) ?_
   refine Ws 0 0 ?_
   exact Wd (Qb (QS.head (⟨(Jaj c.a 0 (lw - 1) && Jaj c.b 0 (lw - 1)) && decide (c.a≠c.b),c.a,c.b,0,0,none,0,0⟩) rfl rfl (J6j hc5)))
  refine Nz 2 ?_
  refine Wd (Qc (CS.cond rfl ?_ ?_))<;>intro hc6<;>try simp only [bq] at hc6
  ·
   refine Nz 1 ?_
   refine Wk 1 (Ba 1) ?_
   refine Wk 0 (Ba 2) ?_
   refine Wk 0 Zb ?_
   refine Wk 1 (Cb rfl rfl Je7 (fun u hu=>Jct _ _ _ u)) ?_
   refine Wt 0 rfl rfl (fun hg=>Ff) ?_
   refine Wt 0 rfl rfl (fun hg=>Ba 1) ?_
   refine Wt 0 rfl rfl (fun hg=>Ff) ?_
   refine Wt 0 rfl rfl (fun hg=>Ba 2) ?_
   refine Wt 0 rfl rfl (fun hg=>Cb rfl (ec_ (eg_ hg rfl) (ec_ rfl (ec_ (eg_ hg rfl) en_))) Je7 (fun u hu=>Jct _ _ _ u)) ?_
   refine Wk 1 Pa ?_
   refine Wd (Qc (Nz 1 ?_))
   refine Wk 1 (Ba 1) ?_
   refine Ws 0 0 ?_
   refine Wd (Qc (Ny 1 ?_))
   refine Wk 1 (Ba 1) ?_
   refine Ws 0 0 ?_
   exact Wd (Qb (QS.head (⟨Jaj c.n 0 (ls - 1) && Jaj c.m 0 lw,0,0,c.n,c.m,none,0,0⟩) rfl rfl (J4s hc6)))
  refine Nz 2 ?_
  refine Wd (Qc (CS.cond rfl ?_ ?_))<;>intro hc7<;>try simp only [bq] at hc7
  ·
   refine Nz 0 ?_
   refine Wk 1 (Bb 2) ?_
   refine Wk 0 (Ba 1) ?_
   refine Wk 1 (Cb rfl rfl J4a (fun u hu=>Jrn _ _ _ _ u hL (h1.st hu))) ?_
   refine Wt 0 rfl rfl (fun hg=>Ff) ?_
   refine Wt 0 rfl rfl (fun hg=>Ba 1) ?_
   refine Wt 0 rfl rfl (fun hg=>Ff) ?_
   refine Wt 0 rfl rfl (fun hg=>Ba 2) ?_
   refine Wt 0 rfl rfl (fun hg=>Cb rfl (ec_ (eg_ hg rfl) (ec_ rfl (ec_ (eg_ hg rfl) en_))) Je7 (fun u hu=>Jct _ _ _ u)) ?_
   refine Wk 1 Pa ?_
   refine Wt 0 rfl rfl (fun hg=>Ff) ?_
   refine Wt 0 rfl rfl (fun hg=>Ba 1) ?_
   refine Wt 0 rfl rfl (fun hg=>Ff) ?_
   refine Wt 0 rfl rfl (fun hg=>Ba 2) ?_
   refine Wt 0 rfl rfl (fun hg=>Cb rfl (ec_ (eg_ hg rfl) (ec_ rfl (ec_ (eg_ hg rfl) en_))) Je7 (fun u hu=>Jct _ _ _ u)) ?_
   refine Wk 1 Pa ?_
   refine Wd (Qc (Nz 1 ?_))
   refine Wk 1 (Ba 1) ?_
   refine Ws 0 0 ?_
   refine Wd (Qc (Nz 1 ?_))
   refine Wk 1 (Ba 1) ?_
   refine Ws 0 0 ?_
   refine Wd (Qc (Ny 1 ?_))
   refine Wk 1 (Ba 1) ?_
   refine Ws 0 0 ?_
   exact Wd (Qb (QS.head (⟨(Jc7 lw ls c.g && Jaj c.n 0 lw) && Jaj c.m 0 lw,0,0,c.n,c.m,p,c.g.length,cap⟩) rfl rfl (J5g hc7 h1)))
  refine Nz 2 ?_
  refine Wd (Qc (CS.cond rfl ?_ ?_))<;>intro hc8<;>try simp only [bq] at hc8
  ·
   refine Nz 2 ?_
   refine Wt 0 rfl rfl (fun hg=>Ff) ?_
   refine Wt 0 rfl rfl (fun hg=>Ba 1) ?_
   refine Wt 0 rfl rfl (fun hg=>Cb rfl (ec_ (eg_ hg rfl) (ec_ rfl (ec_ rfl en_))) Je7 (fun u hu=>Jct _ _ _ u)) ?_
   refine Wk 1 Pa ?_
   refine Wt 0 rfl rfl (fun hg=>Ff) ?_
   refine Wt 0 rfl rfl (fun hg=>Ba 1) ?_
   refine Wt 0 rfl rfl (fun hg=>Ff) ?_
   refine Wt 0 rfl rfl (fun hg=>Ba 1) ?_
   refine Wt 0 rfl rfl (fun hg=>Jhd (eg_ hg rfl) rfl (by simp [Jaj] at hg; omega)) ?_
   refine Wt 0 rfl rfl (fun hg=>Cb rfl (ec_ (eg_ hg rfl) (ec_ rfl (ec_ (eg_ hg rfl) en_))) Je7 (fun u hu=>Jct _ _ _ u)) ?_
   refine Wk 1 Pa ?_
   refine Wd (Qc (Nz 1 ?_))
   refine Wk 1 (Ba 1) ?_
   refine Ws 0 0 ?_
   refine Wd (Qc (Nz 1 ?_))
   refine Wk 1 (Ba 1) ?_
   refine Ws 0 0 ?_
   refine Wd (Qc (Ny 1 ?_))
   refine Wk 1 (Ba 1) ?_
   refine Ws 0 0 ?_
   exact Wd (Qb (QS.head (⟨(Jaj c.a 0 (lw - 1) && Jaj c.n 2 10) && Jaj c.m 0 (c.n - 1),c.a,0,c.n,c.m,none,0,0⟩) rfl rfl (J6w hc8)))
  exact Ck (Qb (QS.head (⟨false,0,0,0,0,none,0,0⟩) rfl rfl (J1x hc1 hc2 hc3 hc5 hc6 hc7 hc8)))
 intro s t hs
 obtain ⟨g,h2,hs⟩:=hs
 refine Nz 2 ?_
 refine Wt 0 rfl rfl (fun hg=>Bb 1) ?_
 refine Wt 0 rfl rfl (fun hg=>Bb 0) ?_
 refine Wt 0 rfl rfl (fun hg=>Cb rfl (ec_ (eg_ hg rfl) (ec_ (eg_ hg rfl) en_)) J7y (fun u hu=>Jt8 c (Jna c s.a s.b s.n s.m g) _ _ u (h1.st hu) (h2.st hu))) ?_
 refine Wk 1 Pa ?_
 exact Wd (Qc (Cr (out1 rfl rfl (Jab (by rw [← hs])))))
theorem J61 (lw ls:Int) (c:Clue) (gv:Value) (xs:List Int) (v:Value) (w:World) (hU:Use lw ls c xs) (hg1:SlI w gv c.g) (h1:SlI w v xs) :
  Calls Tryz.prog 243 #[.agg #[.int .i64 c.k,.int .i64 c.a,.int .i64 c.b,.int .i64 c.n,.int .i64 c.m,gv,.bool c.nt],v] w (RetB w (.bool (Jdr c xs))):=by
 have hl1:=h1.le
 have hln:=hU.len
 obtain ⟨f1,f2,f3,f7,fk1,fk2,fn⟩:=hU.facts
 obtain ⟨hgn,p,cap,rfl,hcap,hp⟩:=hg1
 have hg1:SlI w (.slice p c.g.length cap) c.g:=⟨hgn,p,cap,rfl,hcap,hp⟩
 clear hgn hcap hp
 refine enter Tryz.func243 rfl rfl (Nat.le_of_ble_eq_true rfl) ?_
 refine Nz 0 ?_
 refine Wb 1 rfl rfl (fun _=>rfl) (fun _=>rfl) fun b2 hb2=>?_
 refine Wd (Qc (Cs (Nz 1 ?_)))
 refine Wk 0 (Ba 0) ?_
 refine Wd (Qc (Ce (Nz 2 ?_)))
 refine Wd (Qc (CS.cond rfl ?_ ?_))<;>intro hc1<;>try simp only [bq] at hc1
 ·
  refine Cs (Dr Jah 2 ?_)
  refine Dk 0 (Ba 0) ?_
  refine Dk 0 Xa ?_
  refine Dk 1 Ia ?_
  refine Dk 2 (Ba 0) ?_
  exact Dd (Qc (Cr (Qs (Qr (out1 rfl rfl (Jab (by simp [Jdr,hc1])))))))
 refine Nz 2 ?_
 refine Wd (Qc (CS.cond rfl ?_ ?_))<;>intro hc2<;>try simp only [bq] at hc2
 ·
  have fk:=f2 hc2
  have h2:=h1.sub (lo:=c.a.toNat) (hi:=(c.b+1).toNat) (by omega) (by omega)
  have hpl:=Js6 fk.1 fk.2.1 fk.2.2
  change SlI w _ (part xs c.a c.b) at h2
  refine Nz 1 ?_
  refine Wd (Qc (Cs (Nz 2 ?_)))
  refine Wk 1 (Ba 0) ?_
  refine Wk 0 (Ba 0) ?_
  refine Wk 0 Za ?_
  refine Wk 0 (J2i sl42 rfl rfl rfl h1 (by omega) (by omega) (by omega)) ?_
  refine Wk 1 Na ?_
  refine Wd (Qc (Ce ?_))
  refine CS.loopM (σ:=Int × Int) [7,36,37,38,39,40,41,42] (fun s=>[(5,.int .i64 s.2),(35,.int .i64 s.1)]) (fun _=>_) (fun s=>0≤s.1∧s.1≤(part xs c.a c.b).length∧s.2=lsum ((part xs c.a c.b).take s.1.toNat)) (fun s=>((part xs c.a c.b).length - s.1).toNat) (0,0) (fun _ _=>rfl) rfl rfl ⟨by simp,by simp,rfl⟩ ?_
  intro s t hs
  obtain ⟨hs1,hs2,hs3⟩:=hs
  refine Nz 1 ?_
  refine Wd (Qc (Cs (CS.cond rfl ?_ ?_)))<;>intro hc3<;>try simp only [bq] at hc3
  ·
   have hb1:=hU.psum s.1.toNat
   have hb2:=hU.nth (i:=c.a+s.1) (by omega) (by omega)
   have hb3:=Jsv fk.1 (i:=c.a+s.1) (by omega) (b:=c.b) (by omega) fk.2.2
   have e3:c.a+s.1 - c.a=s.1:=by omega
   rw [e3] at hb3
   refine Ck (Qc (Cs (Ce (Nz 0 ?_))))
   refine Wk 0 Xa ?_
   refine Wk 1 Ia ?_
   refine Wd (Qc (Ny 2 ?_))
   refine Wk 1 Za ?_
   refine Wd (Qb (Qc (Ny 0 ?_)))
   refine Wk 1 Za ?_
   exact Wd (QS.head ((s.1+1,s.2+nth (part xs c.a c.b) s.1)) rfl rfl ⟨⟨by simp; omega,by simp; omega,by simp only; rw [Jbg _ hs1 (by omega),Jk5,hs3]⟩,by simp; omega⟩)
  refine Cv (Qe (Qe (Qx (Qc (Nz 2 ?_)))))
  refine Wk 2 (Ba 0) ?_
  exact Wd (Qc (Cr (Qs (Qr (out1 rfl rfl (Jab (by rw [hs3,Jr7 _ (by omega)]; simp [Jdr,hc2])))))))
 refine Nz 2 ?_
 refine Wd (Qc (CS.cond rfl ?_ ?_))<;>intro hc4<;>try simp only [bq] at hc4
 ·
  refine Cs (Dr Jah 2 ?_)
  refine Dk 0 (Ba 0) ?_
  refine Dk 0 Xa ?_
  refine Dk 2 Ia ?_
  refine Dk 0 (Ba 0) ?_
  refine Dk 0 Xa ?_
  refine Dk 2 Ia ?_
  exact Dd (Qc (Cr (Qs (Qr (out1 rfl rfl (Jab (by simp [Jdr,hc4])))))))
 refine Nz 2 ?_
 refine Wd (Qc (CS.cond rfl ?_ ?_))<;>intro hc5<;>try simp only [bq] at hc5
 ·
  refine Cs (Dr Jah 2 ?_)
  refine Dk 0 (Ba 0) ?_
  refine Dk 0 Xa ?_
  refine Dk 2 Ia ?_
  refine Dk 0 (Ba 0) ?_
  refine Dk 0 Xa ?_
  refine Dk 2 Ia ?_
  exact Dd (Qc (Cr (Qs (Qr (out1 rfl rfl (Jab (by simp [Jdr,hc5])))))))
 refine Nz 2 ?_
 refine Wd (Qc (CS.cond rfl ?_ ?_))<;>intro hc6<;>try simp only [bq] at hc6
 ·
  refine Nz 1 ?_
  refine Wd (Qc (Cs (Nz 1 ?_)))
  refine Wk 1 Na ?_
  refine Wd (Qc (Ce ?_))
  refine CS.loopM (σ:=Int × Int) [10,78,79,80,81,82,83,84,85,86,87] (fun s=>[(8,.int .i64 s.2),(77,.int .i64 s.1)]) (fun _=>_) (fun s=>0≤s.1∧s.1≤xs.length∧s.2=cnt (xs.take s.1.toNat) c.n) (fun s=>(xs.length - s.1).toNat) (0,0) (fun _ _=>rfl) rfl rfl ⟨by simp,by simp,rfl⟩ ?_
  intro s t hs
  obtain ⟨hs1,hs2,hs3⟩:=hs
  have hbd:=Jeh (xs.take s.1.toNat) c.n
  have hlt:=List.length_take_le s.1.toNat xs
  refine Nz 1 ?_
  refine Wd (Qc (Cs (CS.cond rfl ?_ ?_)))<;>intro hc7<;>try simp only [bq] at hc7
  ·
   refine Ck (Qc (Cs (Ce (Nz 0 ?_))))
   refine Wk 0 Xa ?_
   refine Wk 1 Ia ?_
   refine Wd (Qc (Nz 2 ?_))
   refine Wk 1 (Ba 0) ?_
   refine Wd (Qc (CS.cond rfl ?_ ?_))<;>intro hc8<;>try simp only [bq] at hc8
   ·
    refine Ny 1 ?_
    refine Wk 1 Za ?_
    refine Wd (Qb (Qc (Ny 0 ?_)))
    refine Wk 1 Za ?_
    exact Wd (QS.head ((s.1+1,s.2+1)) rfl rfl ⟨⟨by simp; omega,by simp; omega,by simp only; rw [Jbg xs hs1 (by omega),Jfg,hs3]; simp [hc8]⟩,by simp; omega⟩)
   refine Ck (Qb (Qc (Ny 0 ?_)))
   refine Wk 1 Za ?_
   exact Wd (QS.head ((s.1+1,s.2)) rfl rfl ⟨⟨by simp; omega,by simp; omega,by simp only; rw [Jbg xs hs1 (by omega),Jfg,hs3]; simp [hc8]⟩,by simp; omega⟩)
  refine Cv (Qe (Qe (Qx (Qc (Nz 2 ?_)))))
  refine Wk 2 (Ba 0) ?_
  exact Wd (Qc (Cr (Qs (Qr (out1 rfl rfl (Jab (by rw [hs3,Jfm xs (by omega)]; simp [Jdr,hc6])))))))
 refine Nz 2 ?_
 refine Wd (Qc (CS.cond rfl ?_ ?_))<;>intro hc9<;>try simp only [bq] at hc9
 ·
  refine Nz 2 ?_
  refine Wk 0 (Ba 0) ?_
  refine Wk 5 (Cb rfl rfl Ka2 (fun u hu=>J08 _ _ _ _ u (h1.st hu) (hg1.st hu) (hU.guess hc9).1 (by omega) (Jjl hU.lk hU.cd).2 (Jjl hU.lk (hU.guess hc9).2).2)) ?_
  refine Wd (Qc (Nz 2 ?_))
  refine Wk 2 (Ba 0) ?_
  refine Wt 0 rfl rfl (fun hg=>Fm) ?_
  refine Wt 0 rfl rfl (fun hg=>Ff) ?_
  refine Wt 0 rfl rfl (fun hg=>Ba 0) ?_
  refine Wt 0 rfl rfl (fun hg=>Fq) ?_
  refine Wk 1 Pa ?_
  exact Wd (Qc (Cr (Qs (Qr (out1 rfl rfl (Jab (by simp [Jdr,hc9])))))))
 refine Ck (Qb (Qc (Cs (Dr Jah 2 ?_))))
 refine Dk 0 (Ba 0) ?_
 refine Dk 0 Xa ?_
 refine Dk 1 Ia ?_
 refine Dk 0 (Ba 0) ?_
 refine Dk 1 (Jqf rfl rfl (by omega) (by omega)) ?_
 refine Dk 2 (Ba 0) ?_
 exact Dd (Qc (Cr (out1 rfl rfl (Jab (by have e7:c.k=7:=(by omega); simp [Jdr,e7])))))
theorem J36 (lw ls:Int) (c:Clue) (gv:Value) (xs:List Int) (v:Value) (w:World) (hU:Use lw ls c xs) (hg1:SlI w gv c.g) (h1:SlI w v xs) :
  Calls Tryz.prog 255 #[.agg #[.int .i64 c.k,.int .i64 c.a,.int .i64 c.b,.int .i64 c.n,.int .i64 c.m,gv,.bool c.nt],v] w (RetB w (.bool (Jgc c xs))):=by
 have hl1:=h1.le
 have hln:=hU.len
 obtain ⟨f1,f2,f3,f7,fk1,fk2,fn⟩:=hU.facts
 obtain ⟨hgn,p,cap,rfl,hcap,hp⟩:=hg1
 have hg1:SlI w (.slice p c.g.length cap) c.g:=⟨hgn,p,cap,rfl,hcap,hp⟩
 clear hgn hcap hp
 refine enter Tryz.func255 rfl rfl (Nat.le_of_ble_eq_true rfl) ?_
 refine Nz 0 ?_
 refine Wb 1 rfl rfl (fun _=>rfl) (fun _=>rfl) fun b2 hb2=>?_
 refine Wd (Qc (Nz 1 ?_))
 refine Wd (Qc ?_)
 refine CS.cut (σ:=Bool) [6,7,8,9,10,11,12,13,14,15,16,17,18,19,20,21,22,23,24,25,26,27,28,29,30,31,32,33,34,35,36,37,38,39,40,41,42,43,44,45,46,47,48,49,50,51,52,53,54,55,56,57,58,59,60,61,62,63,64,65,66,67,68,69,70,71,72,73,74,75,76,77,78,79,80,81,82,83,84,85,86,87,88,89,90,91,92,93,94,95,96,97,98,99,100,101,102,103,104,105,106,107,108] (fun s=>[(5,.bool s)]) (fun s=>[blk b2 [.int .i64 c.k,.int .i64 c.a,.int .i64 c.b,.int .i64 c.n,.int .i64 c.m,.slice p c.g.length cap,.bool c.nt] 92]) (fun s=>s=Jdr c xs) (fun _ _=>rfl) ?_ ?_
 ·
  refine Nz 1 ?_
  refine Wk 0 (Ba 0) ?_
  refine Wd (Qc (Ce (Nz 2 ?_)))
  refine Wd (Qc (CS.cond rfl ?_ ?_))<;>intro hc1<;>try simp only [bq] at hc1
  ·
   refine Dr Jah 2 ?_
   refine Dk 0 (Ba 0) ?_
   refine Dk 0 Xa ?_
   refine Dk 1 Ia ?_
   refine Dk 2 (Ba 0) ?_
   exact Dd (Qb (QS.head (decide (nth xs c.a=c.n)) rfl rfl (by simp [Jdr,hc1])))
  refine Nz 2 ?_
  refine Wd (Qc (CS.cond rfl ?_ ?_))<;>intro hc2<;>try simp only [bq] at hc2
  ·
   have fk:=f2 hc2
   have hpl:=Js6 fk.1 fk.2.1 fk.2.2
   refine Nz 1 ?_
   refine Wd (Qc (Cs (Nz 1 ?_)))
   refine Wk 1 (Ba 0) ?_
   refine Wd (Qc (Ce ?_))
   refine CS.loopM (σ:=Int × Int) [26,27,28,29,30,31,32,33,34,35,36,37] (fun s=>[(6,.int .i64 s.2),(7,.int .i64 s.1)]) (fun _=>_) (fun s=>c.a≤s.1∧s.1≤c.b+1∧s.2=lsum ((part xs c.a c.b).take (s.1 - c.a).toNat)) (fun s=>(c.b+1 - s.1).toNat) (c.a,0) (fun _ _=>rfl) rfl rfl ⟨by simp,by simp; omega,by simp [lsum]⟩ ?_
   intro s t hs
   obtain ⟨hs1,hs2,hs3⟩:=hs
   refine Cs (Nz 2 ?_)
   refine Wk 1 (Ba 0) ?_
   refine Wd (Qc (CS.cond rfl ?_ ?_))<;>intro hc3<;>try simp only [bq] at hc3
   ·
    have hb1:=hU.psum (s.1 - c.a).toNat
    have hb2:=hU.nth (i:=s.1) (by omega) (by omega)
    have hb3:=Jsv fk.1 (i:=s.1) (by omega) (b:=c.b) (by omega) fk.2.2
    have e3:s.1+1 - c.a=s.1 - c.a+1:=by omega
    refine Ck (Qc (Cs (Ce (Ny 3 ?_))))
    refine Wk 0 Xa ?_
    refine Wk 0 Ia ?_
    refine Wk 1 Za ?_
    refine Wd (Qb (Qc (Ny 1 ?_)))
    refine Wk 1 Za ?_
    exact Wd (QS.head ((s.1+1,s.2+nth xs s.1)) rfl rfl ⟨⟨by simp; omega,by simp; omega,by simp only; rw [e3,Jbg _ (by omega) (by omega),Jk5,hs3,hb3]⟩,by simp; omega⟩)
   refine Cv (Qe (Qe (Qx (Qc (Ny 2 ?_)))))
   refine Wk 2 (Ba 0) ?_
   exact Wd (Qb (QS.head (decide (s.2=c.n)) rfl rfl (by rw [hs3,Jr7 _ (by omega)]; simp [Jdr,hc2])))
  refine Nz 2 ?_
  refine Wd (Qc (CS.cond rfl ?_ ?_))<;>intro hc4<;>try simp only [bq] at hc4
  ·
   refine Dr Jah 2 ?_
   refine Dk 0 (Ba 0) ?_
   refine Dk 0 Xa ?_
   refine Dk 2 Ia ?_
   refine Dk 0 (Ba 0) ?_
   refine Dk 0 Xa ?_
   refine Dk 2 Ia ?_
   exact Dd (Qb (QS.head (decide (nth xs c.a < nth xs c.b)) rfl rfl (by simp [Jdr,hc4])))
  refine Nz 2 ?_
  refine Wd (Qc (CS.cond rfl ?_ ?_))<;>intro hc5<;>try simp only [bq] at hc5
  ·
   refine Dr Jah 2 ?_
   refine Dk 0 (Ba 0) ?_
   refine Dk 0 Xa ?_
   refine Dk 2 Ia ?_
   refine Dk 0 (Ba 0) ?_
   refine Dk 0 Xa ?_
   refine Dk 2 Ia ?_
   exact Dd (Qb (QS.head (decide (nth xs c.a=nth xs c.b)) rfl rfl (by simp [Jdr,hc5])))
  refine Nz 2 ?_
  refine Wd (Qc (CS.cond rfl ?_ ?_))<;>intro hc6<;>try simp only [bq] at hc6
  ·
   refine Dr Jah 2 ?_
   refine Dk 0 (Ba 0) ?_
   refine Dk 1 (Cb rfl rfl Jza (fun u hu=>Jp6 _ _ _ u (h1.st hu))) ?_
   refine Dk 2 (Ba 0) ?_
   exact Dd (Qb (QS.head (decide (cnt xs c.n=c.m)) rfl rfl (by simp [Jdr,hc6])))
  refine Nz 2 ?_
  refine Wd (Qc (CS.cond rfl ?_ ?_))<;>intro hc7<;>try simp only [bq] at hc7
  ·
   refine Nz 2 ?_
   refine Wk 0 (Ba 0) ?_
   refine Wk 5 (Cb rfl rfl J8m (fun u hu=>Jy4 _ _ _ _ u (h1.st hu) (hg1.st hu) (hU.guess hc7).1 (by omega))) ?_
   refine Wd (Qc (Ny 2 ?_))
   refine Wk 2 (Ba 0) ?_
   refine Wt 0 rfl rfl (fun hg=>Fm) ?_
   refine Wt 0 rfl rfl (fun hg=>Ff) ?_
   refine Wt 0 rfl rfl (fun hg=>Ba 0) ?_
   refine Wt 0 rfl rfl (fun hg=>Fq) ?_
   refine Wk 1 Pa ?_
   exact Wd (Qb (QS.head (decide (Jca xs c.g=c.n) && decide (Jcj xs c.g 10 - Jca xs c.g=c.m)) rfl rfl (by simp [Jdr,hc7])))
  refine Nz 2 ?_
  refine Wd (Qc (CS.cond rfl ?_ ?_))<;>intro hc8<;>try simp only [bq] at hc8
  ·
   refine Dr Jah 2 ?_
   refine Dk 0 (Ba 0) ?_
   refine Dk 0 Xa ?_
   refine Dk 1 Ia ?_
   refine Dk 0 (Ba 0) ?_
   refine Dk 1 (Jqf rfl rfl (by omega) (by omega)) ?_
   refine Dk 2 (Ba 0) ?_
   exact Dd (Qb (QS.head (decide (nth xs c.a % c.n=c.m)) rfl rfl (by simp [Jdr,hc8])))
  omega
 intro s t hs
 refine Nz 2 ?_
 refine Wk 0 (Ba 0) ?_
 refine Wk 1 (Jxi rfl rfl Tryz.underlying4) ?_
 exact Wd (Qc (Cr (out1 rfl rfl (Jab (by rw [hs]; rfl)))))
theorem Jr4 (xs:List (Clue)) (v:Value) (gs:List Value) (w:World) (h1:ClS w v xs gs) (g:Nat) (lb:List Value) (p:Clue→Bool) (hg:Ent Tryz.prog g)
  (hp:∀ u,Below w.heap.size w u→∀ i:Int,0≤i→i < xs.length→Calls Tryz.prog g ([.agg #[.int .i64 (nth xs i).k,.int .i64 (nth xs i).a,.int .i64 (nth xs i).b,.int .i64 (nth xs i).n,.int .i64 (nth xs i).m,nth gs i,.bool (nth xs i).nt]]++lb:List Value).toArray u (RetB u (.bool (p (nth xs i))))) :
  Calls Tryz.prog 188 #[v,.func (.func g) #[] lb.toArray] w (RetB w (.int .i64 (idxF p xs))):=by
 have hl1:=h1.le
 refine enter Tryz.func188 rfl rfl (Nat.le_of_ble_eq_true rfl) ?_
 refine Nz 1 ?_
 refine Wd (Qc (Cs (Nz 1 ?_)))
 refine Wk 1 (Jb6 sl99 rfl (by first | exact SlL.sp (by assumption) | exact ClS.sp (by assumption))) ?_
 refine Wd (Qc (Ce ?_))
 refine CS.loopM (σ:=Int) [4,5,9,10,11,12,13,14,15,16,17,18] (fun s=>[(8,.int .i64 s)]) (fun _=>_) (fun s=>0≤s∧s≤xs.length∧∀ j:Int,0≤j→j < s→p (nth xs j)=false) (fun s=>(xs.length - s).toNat) 0 (fun _ _=>rfl) rfl rfl ⟨by omega,by omega,fun j h1 h2=>by omega⟩ ?_
 intro s t hs
 obtain ⟨hs1,hs2,hs3⟩:=hs
 refine Nz 1 ?_
 refine Wd (Qc (Cs (CS.cond rfl ?_ ?_)))<;>intro hc1<;>try simp only [bq] at hc1
 ·
  refine Ck (Qc (Cs (Ce (Nz 2 ?_))))
  refine Wd (Qc (Nz 3 ?_))
  refine Wk 0 (Jjx sl99 rfl rfl (by assumption) (by omega) (by omega)) ?_
  refine Wk 0 (Jjh rfl (by assumption) (by omega) tk92) ?_
  refine Wk 0 (Cb rfl rfl hg (fun u hu=>hp u hu.below s (by omega) (by omega))) ?_
  refine Wd (Qc (CS.cond rfl ?_ ?_))<;>intro hc2<;>try simp only [bq] at hc2
  ·
   refine Nz 2 ?_
   exact Wd (Qc (Cr (Qs (Qr (Qr (Qs (Qr (out1 rfl rfl (Jab (by rw [Ja3 hs1 (by omega) hs3 hc2]))))))))))
  refine Ck (Qb (Qc (Ny 0 ?_)))
  refine Wk 1 Za ?_
  exact Wd (QS.head (s+1) rfl rfl ⟨⟨by omega,by omega,fun j h1 h2=>if hj:j=s then by rw [hj]; exact hc2 else hs3 j h1 (by omega)⟩,by omega⟩)
 refine Cv (Qe (Qe (Qx (Qc (Nz 1 ?_)))))
 exact Wd (Qc (Cr (out1 rfl rfl (Jab (by rw [Jbe fun j h1 h2=>hs3 j h1 (by omega)])))))
theorem Jpv (xs:List (Clue)) (v:Value) (gs:List Value) (w:World) (h1:ClS w v xs gs) (g:Nat) (lb:List Value) (p:Clue→Bool) (hg:Ent Tryz.prog g)
  (hp:∀ u,Below w.heap.size w u→∀ i:Int,0≤i→i < xs.length→Calls Tryz.prog g ([.agg #[.int .i64 (nth xs i).k,.int .i64 (nth xs i).a,.int .i64 (nth xs i).b,.int .i64 (nth xs i).n,.int .i64 (nth xs i).m,nth gs i,.bool (nth xs i).nt]]++lb:List Value).toArray u (RetB u (.bool (p (nth xs i))))) :
  Calls Tryz.prog 145 #[v,.func (.func g) #[] lb.toArray] w (RetB w (.bool (xs.any p))):=by
 refine enter Tryz.func145 rfl rfl (Nat.le_of_ble_eq_true rfl) ?_
 refine Nz 1 ?_
 refine Wd (Qc (Nz 2 ?_))
 refine Wk 2 (Cb rfl rfl J3i (fun u hu=>Jr4 xs v gs u (h1.st hu) g lb p hg (fun u2 h2=>hp u2 (Jba hu.below h2)))) ?_
 exact Wd (Qc (Cr (out1 rfl rfl (Jab (by rw [Jcx])))))
theorem Jzz (lw ls:Int) (c:Clue) (gv:Value) (xs:List Int) (v:Value) (w:World) (hU:Use lw ls c xs) (hg1:SlI w gv c.g) (h1:SlI w v xs) :
  Calls Tryz.prog 211 #[.agg #[.int .i64 c.k,.int .i64 c.a,.int .i64 c.b,.int .i64 c.n,.int .i64 c.m,gv,.bool c.nt],v] w (RetB w (.bool (Jgc c xs))):=by
 refine enter Tryz.func211 rfl rfl (Nat.le_of_ble_eq_true rfl) ?_
 refine Nz 0 ?_
 refine Wb 1 rfl rfl (fun _=>rfl) (fun _=>rfl) fun b2 hb2=>?_
 refine Wd (Qc (Cs (Dr Jah 0 ?_)))
 refine Dk 1 (Bb 0) ?_
 refine Dk 1 (Cb rfl rfl J8x (fun u hu=>J61 _ _ _ _ _ _ u hU (hg1.st hu) (h1.st hu))) ?_
 refine Dk 0 (Ba 0) ?_
 refine Dk 1 (Jxi rfl rfl Tryz.underlying4) ?_
 exact Dd (Qc (Cr (out1 rfl rfl (Jab rfl))))
theorem Jqj (lw ls:Int) (c:Clue) (gv:Value) (w:World) (hg1:SlI w gv c.g) :
  Calls Tryz.prog 210 #[.agg #[.int .i64 lw,.int .i64 ls],.agg #[.int .i64 c.k,.int .i64 c.a,.int .i64 c.b,.int .i64 c.n,.int .i64 c.m,gv,.bool c.nt]] w (RetB w (.int .i64 (Jet lw ls c))):=by
 have h1:=hg1
 refine enter Tryz.func210 rfl rfl (Nat.le_of_ble_eq_true rfl) ?_
 refine Nz 0 ?_
 refine Wb 0 rfl rfl (fun _=>rfl) (fun _=>rfl) fun b2 hb2=>?_
 refine Wb 1 rfl rfl (fun _=>rfl) (fun _=>rfl) fun b3 hb3=>?_
 refine Wd (Qc (Cs (Nz 0 ?_)))
 refine Wk 0 (Bb 1) ?_
 refine Wk 1 (Cb rfl rfl Jsq (fun u hu=>Jnq _ _ u)) ?_
 refine Wd (Qc (Nz 2 ?_))
 refine Wd (Qc (CS.cond rfl ?_ ?_))<;>intro hc1<;>try simp only [bq] at hc1
 ·
  refine Nz 2 ?_
  exact Wd (Qc (Cr (Qr (out1 rfl rfl (Jab (by have:Jbk lw ls=false:=(by simpa [Jdh] using hc1); simp [Jet,Jdh,this]))))))
 have hL:Jbk lw ls=true:=by simpa [Jdh] using hc1
 refine Ck (Qc (Cs (Nz 0 ?_)))
 refine Wk 0 (Bb 1) ?_
 refine Wk 0 (Bb 0) ?_
 refine Wk 1 (Cb rfl rfl J3d (fun u hu=>J3l _ _ _ _ u hL (h1.st hu))) ?_
 refine Wd (Qc (CS.cond rfl ?_ ?_))<;>intro hc2<;>try simp only [bq] at hc2
 ·
  refine Nz 1 ?_
  exact Wd (Qc (Cr (Qr (out1 rfl rfl (Jab (by simp [Jet,hL,hc2]))))))
 refine Ck (Qc (Nz 1 ?_))
 exact Wd (Qc (Cr (out1 rfl rfl (Jab (by simp [Jet,hL,hc2])))))
theorem Jnu (lw ls:Int) (c:Clue) (gv:Value) (w:World) (hg1:SlI w gv c.g) :
  Calls Tryz.prog 254 #[.agg #[.int .i64 lw,.int .i64 ls],.agg #[.int .i64 c.k,.int .i64 c.a,.int .i64 c.b,.int .i64 c.n,.int .i64 c.m,gv,.bool c.nt]] w (RetB w (.int .i64 (Jet lw ls c))):=by
 have h1:=hg1
 refine enter Tryz.func254 rfl rfl (Nat.le_of_ble_eq_true rfl) ?_
 refine Nz 0 ?_
 refine Wb 0 rfl rfl (fun _=>rfl) (fun _=>rfl) fun b2 hb2=>?_
 refine Wb 1 rfl rfl (fun _=>rfl) (fun _=>rfl) fun b3 hb3=>?_
 refine Wd (Qc (Cs (Nz 0 ?_)))
 refine Wk 0 (Bb 1) ?_
 refine Wk 1 (Cb rfl rfl Jta (fun u hu=>Jji _ _ u)) ?_
 refine Wd (Qc (Nz 2 ?_))
 refine Wd (Qc (CS.cond rfl ?_ ?_))<;>intro hc1<;>try simp only [bq] at hc1
 ·
  refine Nz 2 ?_
  exact Wd (Qc (Cr (Qr (out1 rfl rfl (Jab (by have:Jbk lw ls=false:=(by simpa [Jdh] using hc1); simp [Jet,Jdh,this]))))))
 have hL:Jbk lw ls=true:=by simpa [Jdh] using hc1
 refine Ck (Qc (Cs (Nz 0 ?_)))
 refine Wk 0 (Bb 1) ?_
 refine Wk 0 (Bb 0) ?_
 refine Wk 1 (Cb rfl rfl J34 (fun u hu=>Jrf _ _ _ _ u hL (h1.st hu))) ?_
 refine Wd (Qc (CS.cond rfl ?_ ?_))<;>intro hc2<;>try simp only [bq] at hc2
 ·
  refine Nz 1 ?_
  exact Wd (Qc (Cr (Qr (out1 rfl rfl (Jab (by simp [Jet,hL,hc2]))))))
 refine Ck (Qc (Nz 1 ?_))
 exact Wd (Qc (Cr (out1 rfl rfl (Jab (by simp [Jet,hL,hc2])))))
theorem Jmp (lw ls:Int) (c:Clue) (gv:Value) (b:Nat) (e:TypeId) (w:World) (hL:Jbk lw ls=true) (hg1:SlI w gv c.g) (hb:BlkAt w b [.int .i64 lw,.int .i64 ls] e) :
  Calls Tryz.prog 146 #[.agg #[.int .i64 c.k,.int .i64 c.a,.int .i64 c.b,.int .i64 c.n,.int .i64 c.m,gv,.bool c.nt],.pointer (some ⟨b,0,none⟩)] w (RetB w (.bool (!Jbi lw ls c))):=by
 have h1:=hg1
 refine enter Tryz.func146 rfl rfl (Nat.le_of_ble_eq_true rfl) ?_
 refine Nz 0 ?_
 refine Wb 1 rfl rfl (fun _=>rfl) (fun _=>rfl) fun b2 hb2=>?_
 refine Wd (Qc (Nz 0 ?_))
 refine Wk 0 Gb ?_
 refine Wk 0 (Bb 0) ?_
 refine Wk 2 (Cb rfl rfl J3d (fun u hu=>J3l _ _ _ _ u hL (h1.st hu))) ?_
 exact Wd (Qc (Cr (out1 rfl rfl retB)))
theorem Jom (lw ls:Int) (cs:List Clue) (gs:List Value) (v:Value) (w:World) (h1:ClS w v cs gs) :
  Calls Tryz.prog 97 #[.agg #[.int .i64 lw,.int .i64 ls],v] w (RetB w (.int .i64 (Jcy lw ls cs))):=by
 have hl1:=h1.le
 refine enter Tryz.func97 rfl rfl (Nat.le_of_ble_eq_true rfl) ?_
 refine Nz 0 ?_
 refine Wb 1 rfl rfl (fun _=>rfl) (fun _=>rfl) fun b2 hb2=>?_
 refine Wd (Qc (Cs (Nz 0 ?_)))
 refine Wk 0 (Bb 0) ?_
 refine Wk 1 (Cb rfl rfl Jsq (fun u hu=>Jnq _ _ u)) ?_
 refine Wd (Qc (Nz 2 ?_))
 refine Wd (Qc (CS.cond rfl ?_ ?_))<;>intro hc1<;>try simp only [bq] at hc1
 ·
  refine Nz 2 ?_
  exact Wd (Qc (Cr (Qr (out1 rfl rfl (Jab (by have:Jbk lw ls=false:=(by simpa [Jdh] using hc1); simp [Jcy,Jdh,this]))))))
 have hL:Jbk lw ls=true:=by simpa [Jdh] using hc1
 refine Ck (Qc (Cs (Nz 1 ?_)))
 refine Wk 1 (Jb6 sl99 rfl (by first | exact SlL.sp (by assumption) | exact ClS.sp (by assumption))) ?_
 refine Wd (Qc (CS.cond rfl ?_ ?_))<;>intro hc2<;>try simp only [bq] at hc2
 ·
  refine Nz 1 ?_
  exact Wd (Qc (Cr (Qr (out1 rfl rfl (Jab (by have:20 < (cs.length:Int):=(by omega); simp [Jcy,hL,this]))))))
 refine Ck (Qc (Cs (Nz 1 ?_)))
 refine Wk 0 (Jal rfl) ?_
 refine Wk 0 (Cb rfl rfl J7j (fun u hu=>Jpv cs v gs u (h1.st hu) _ [.pointer (some ⟨b2,0,none⟩)] (fun c => !Jbi lw ls c) Kao (fun u2 h2 i h3 h4=>Jmp _ _ _ _ _ _ u2 hL (((h1.st hu).ext h2).el i h3 h4) ((Ja0 hu (j:=0) rfl).ext h2)))) ?_
 refine Wd (Qc (CS.cond rfl ?_ ?_))<;>intro hc3<;>try simp only [bq] at hc3
 ·
  refine Nz 1 ?_
  exact Wd (Qc (Cr (Qr (out1 rfl rfl (Jab (by have h20:¬ 20 < (cs.length:Int):=(by omega); have h3:cs.all (Jbi lw ls)=false:=(by simpa using hc3); simp [Jcy,hL,h20,h3]))))))
 refine Ck (Qc (Nz 1 ?_))
 exact Wd (Qc (Cr (out1 rfl rfl (Jab (by have h20:¬ 20 < (cs.length:Int):=(by omega); have h3:cs.all (Jbi lw ls)=true:=(by simpa using hc3); simp only [Jcy,hL,h20,h3,if_true,if_false])))))
theorem Jm3 (lw ls:Int) (cs:List Clue) (gs:List Value) (v:Value) (w:World) (h1:ClS w v cs gs) :
  Calls Tryz.prog 281 #[.agg #[.int .i64 lw,.int .i64 ls],v] w (RetB w (.int .i64 (Jcy lw ls cs))):=by
 have hl1:=h1.le
 refine enter Tryz.func281 rfl rfl (Nat.le_of_ble_eq_true rfl) ?_
 refine Nz 0 ?_
 refine Wb 1 rfl rfl (fun _=>rfl) (fun _=>rfl) fun b2 hb2=>?_
 refine Wd (Qc (Cs (Nz 0 ?_)))
 refine Wk 0 (Bb 0) ?_
 refine Wk 1 (Cb rfl rfl Jta (fun u hu=>Jji _ _ u)) ?_
 refine Wd (Qc (Nz 2 ?_))
 refine Wd (Qc (CS.cond rfl ?_ ?_))<;>intro hc1<;>try simp only [bq] at hc1
 ·
  refine Nz 2 ?_
  exact Wd (Qc (Cr (Qr (out1 rfl rfl (Jab (by have:Jbk lw ls=false:=(by simpa [Jdh] using hc1); simp [Jcy,Jdh,this]))))))
 have hL:Jbk lw ls=true:=by simpa [Jdh] using hc1
 refine Ck (Qc (Cs (Nz 1 ?_)))
 refine Wk 1 (Jb6 sl99 rfl (by first | exact SlL.sp (by assumption) | exact ClS.sp (by assumption))) ?_
 refine Wd (Qc (CS.cond rfl ?_ ?_))<;>intro hc2<;>try simp only [bq] at hc2
 ·
  refine Nz 1 ?_
  exact Wd (Qc (Cr (Qr (out1 rfl rfl (Jab (by have:20 < (cs.length:Int):=(by omega); simp [Jcy,hL,this]))))))
 have h20:¬ 20 < (cs.length:Int):=by omega
 refine Ck (Qc (Cs (Nz 1 ?_)))
 refine Wd (Qc (Ce ?_))
 refine CS.loopM (σ:=Int) [4,15,16,17,18,19,20,21,22,23,24,25,26,27] (fun s=>[(6,.int .i64 s)]) (fun _=>_) (fun s=>0≤s∧s≤cs.length∧∀ j:Int,0≤j→j < s→Jbi lw ls (nth cs j)=true) (fun s=>(cs.length - s).toNat) 0 (fun _ _=>rfl) rfl rfl ⟨by omega,by omega,fun j h1 h2=>by omega⟩ ?_
 intro s t hs
 obtain ⟨hs1,hs2,hs3⟩:=hs
 refine Cs (Nz 2 ?_)
 refine Wk 1 (Jb6 sl99 rfl (by first | exact SlL.sp (by assumption) | exact ClS.sp (by assumption))) ?_
 refine Wd (Qc (CS.cond rfl ?_ ?_))<;>intro hc3<;>try simp only [bq] at hc3
 ·
  have hel:=h1.el s hs1 (by omega)
  refine Ck (Qc (Cs (Ce (Cs (Dr Jah 0 ?_)))))
  refine Dk 2 (Bb 0) ?_
  refine Dk 0 (Jjx sl99 rfl rfl (by assumption) (by omega) (by omega)) ?_
  refine Dk 0 (Jjh rfl (by assumption) (by omega) tk92) ?_
  refine Dk 1 (Cb rfl rfl J34 (fun u hu=>Jrf _ _ _ _ u hL (hel.st hu))) ?_
  refine Dd (Qc (CS.cond rfl ?_ ?_))<;>intro hc4<;>try simp only [bq] at hc4
  ·
   refine Nz 1 ?_
   exact Wd (Qc (Cr (Qs (Qr (Qr (Qs (Qr (out1 rfl rfl (Jab (by rw [Jus hL h20 hs1 (by omega) hc4]))))))))))
  refine Ck (Qb (Qc (Ny 1 ?_)))
  refine Wk 1 Za ?_
  exact Wd (QS.head (s+1) rfl rfl ⟨⟨by omega,by omega,fun j h1 h2=>if hj:j=s then by rw [hj]; exact hc4 else hs3 j h1 (by omega)⟩,by omega⟩)
 refine Cv (Qe (Qe (Qx (Qc (Nz 1 ?_)))))
 exact Wd (Qc (Cr (out1 rfl rfl (Jab (by rw [Ju5 hL h20 fun j h1 h2=>hs3 j h1 (by omega)])))))
theorem J09 (lw ls:Int) (c:Clue) (gv:Value) (xs:List Int) (v:Value) (b:Nat) (e:TypeId) (w:World) (hU:Use lw ls c xs) (hg1:SlI w gv c.g) (h1:SlI w v xs) (hb:BlkAt w b [v] e) :
  Calls Tryz.prog 232 #[.agg #[.int .i64 c.k,.int .i64 c.a,.int .i64 c.b,.int .i64 c.n,.int .i64 c.m,gv,.bool c.nt],.pointer (some ⟨b,0,none⟩)] w (RetB w (.bool (!Jgc c xs))):=by
 refine enter Tryz.func232 rfl rfl (Nat.le_of_ble_eq_true rfl) ?_
 refine Nz 0 ?_
 refine Wb 1 rfl rfl (fun _=>rfl) (fun _=>rfl) fun b2 hb2=>?_
 refine Wd (Qc (Nz 0 ?_))
 refine Wk 0 (Bb 0) ?_
 refine Wk 0 Ga ?_
 refine Wk 2 (Cb rfl rfl J27 (fun u hu=>Jzz _ _ _ _ _ _ u hU (hg1.st hu) (h1.st hu))) ?_
 exact Wd (Qc (Cr (out1 rfl rfl retB)))
theorem J5u (lw ls:Int) (cs:List Clue) (gs:List Value) (v:Value) (xs:List Int) (xv:Value) (w:World) (hU:∀ c∈cs,Use lw ls c xs) (hk:ClS w v cs gs) (h1:SlI w xv xs) :
  Calls Tryz.prog 194 #[v,xv] w (RetB w (.int .i64 (Jkj cs xs))):=by
 obtain ⟨p,cap,rfl⟩:=h1.shape
 refine enter Tryz.func194 rfl rfl (Nat.le_of_ble_eq_true rfl) ?_
 refine Nz 0 ?_
 refine Wb 1 rfl rfl (fun _=>rfl) (fun _=>rfl) fun b3 hb3=>?_
 refine Wd (Qc (Nz 1 ?_))
 refine Wk 0 (Jal rfl) ?_
 refine Wk 1 (Cb rfl rfl J3i (fun u hu=>Jr4 cs v gs u (hk.st hu) _ [.pointer (some ⟨b3,0,none⟩)] (fun c => !Jgc c xs) J8w (fun u2 h2 i h3 h4=>J09 _ _ _ _ _ _ _ _ u2 (hU _ (Jai h3 h4)) (((hk.st hu).ext h2).el i h3 h4) ((h1.st hu).ext h2) ((Ja0 hu (j:=0) rfl).ext h2)))) ?_
 exact Wd (Qc (Cr (out1 rfl rfl (Jab rfl))))
theorem J6a (lw ls:Int) (cs:List Clue) (gs:List Value) (v:Value) (xs:List Int) (xv:Value) (w:World) (hU:∀ c∈cs,Use lw ls c xs) (hk:ClS w v cs gs) (h1:SlI w xv xs) :
  Calls Tryz.prog 283 #[v,xv] w (RetB w (.int .i64 (Jkj cs xs))):=by
 have hl1:=hk.le
 refine enter Tryz.func283 rfl rfl (Nat.le_of_ble_eq_true rfl) ?_
 refine Nz 1 ?_
 refine Wd (Qc (Cs (Nz 1 ?_)))
 refine Wd (Qc (Ce ?_))
 refine CS.loopM (σ:=Int) [4,6,7,8,9,10,11,12,13,14,15,16,17,18,19] (fun s=>[(5,.int .i64 s)]) (fun _=>_) (fun s=>0≤s∧s≤cs.length∧∀ j:Int,0≤j→j < s→(!Jgc (nth cs j) xs)=false) (fun s=>(cs.length - s).toNat) 0 (fun _ _=>rfl) rfl rfl ⟨by omega,by omega,fun j h1 h2=>by omega⟩ ?_
 intro s t hs
 obtain ⟨hs1,hs2,hs3⟩:=hs
 refine Cs (Nz 2 ?_)
 refine Wk 1 (Jb6 sl99 rfl (by first | exact SlL.sp (by assumption) | exact ClS.sp (by assumption))) ?_
 refine Wd (Qc (CS.cond rfl ?_ ?_))<;>intro hc1<;>try simp only [bq] at hc1
 ·
  have hel:=hk.el s hs1 (by omega)
  refine Ck (Qc (Cs (Ce (Nz 2 ?_))))
  refine Wk 0 (Jjx sl99 rfl rfl (by assumption) (by omega) (by omega)) ?_
  refine Wk 1 (Jjh rfl (by assumption) (by omega) tk92) ?_
  refine Wk 1 (Cb rfl rfl J3r (fun u hu=>J36 _ _ _ _ _ _ u (hU _ (Jai hs1 (by omega))) (hel.st hu) (h1.st hu))) ?_
  refine Wd (Qc (CS.cond rfl ?_ ?_))<;>intro hc2<;>try simp only [bq] at hc2
  ·
   refine Nz 2 ?_
   exact Wd (Qc (Cr (Qs (Qr (Qr (Qs (Qr (out1 rfl rfl (Jab (by rw [Jkj,Ja3 hs1 (by omega) hs3 (by simpa using hc2)]))))))))))
  refine Ck (Qb (Qc (Ny 1 ?_)))
  refine Wk 1 Za ?_
  exact Wd (QS.head (s+1) rfl rfl ⟨⟨by omega,by omega,fun j h1 h2=>if hj:j=s then by rw [hj]; simpa using hc2 else hs3 j h1 (by omega)⟩,by omega⟩)
 refine Cv (Qe (Qe (Qx (Qc (Nz 1 ?_)))))
 exact Wd (Qc (Cr (out1 rfl rfl (Jab (by rw [Jkj,Jbe fun j h1 h2=>hs3 j h1 (by omega)])))))
theorem J6i (lw ls:Int) (c:Clue) (gv:Value) (xs:List Int) (v:Value) (w:World) (hg1:SlI w gv c.g) (h1:SlI w v xs) :
  Calls Tryz.prog 164 #[.agg #[.int .i64 lw,.int .i64 ls],.agg #[.int .i64 c.k,.int .i64 c.a,.int .i64 c.b,.int .i64 c.n,.int .i64 c.m,gv,.bool c.nt],v] w (RetB w (.tuple #[.bool (if Ji9 lw ls c xs=0 then Jgc c xs else false),.int .i64 (Ji9 lw ls c xs)])):=by
 refine enter Tryz.func164 rfl rfl (Nat.le_of_ble_eq_true rfl) ?_
 refine Nz 0 ?_
 refine Wb 0 rfl rfl (fun _=>rfl) (fun _=>rfl) fun b3 hb3=>?_
 refine Wb 2 rfl rfl (fun _=>rfl) (fun _=>rfl) fun b4 hb4=>?_
 refine Wd (Qc (Cs (Nz 0 ?_)))
 refine Wk 0 (Bb 1) ?_
 refine Wk 0 (Bb 0) ?_
 refine Wk 1 (Cb rfl rfl J9y (fun u hu=>Jqj _ _ _ _ u (hg1.st hu))) ?_
 refine Wd (Qc (Nz 2 ?_))
 refine Wd (Qc (CS.cond rfl ?_ ?_))<;>intro hc1<;>try simp only [bq] at hc1
 ·
  refine Nz 3 ?_
  exact Wd (Qc (Cr (Qr (out2 rfl rfl rfl (Jab (by simp [Ji9,hc1]))))))
 refine Ck (Qc (Cs (Nz 0 ?_)))
 refine Wk 1 (Bb 1) ?_
 refine Wk 1 (Cb rfl rfl J3y (fun u hu=>Jk0 _ _ _ _ u (h1.st hu))) ?_
 refine Wd (Qc (Nz 2 ?_))
 refine Wd (Qc (CS.cond rfl ?_ ?_))<;>intro hc2<;>try simp only [bq] at hc2
 ·
  refine Nz 3 ?_
  exact Wd (Qc (Cr (Qr (out2 rfl rfl rfl (Jab (by simp [Ji9,hc1,hc2]))))))
 have hU:=Jym hc1 hc2
 have hae:Ji9 lw ls c xs=0:=by simp [Ji9,hc1,hc2]
 refine Ck (Qc (Nz 0 ?_))
 refine Wk 1 (Bb 0) ?_
 refine Wk 2 (Cb rfl rfl J27 (fun u hu=>Jzz _ _ _ _ _ _ u hU (hg1.st hu) (h1.st hu))) ?_
 exact Wd (Qc (Cr (out2 rfl rfl rfl (Jab (by simp [hae])))))
end Go.Proofs.YtbboikncaihafaaGreatDoor
