/- Merged texts of this proof (walks and plain laws), printed by a program of the prover. -/
import Derived.Test.YtkekjhcmephhjaaGreatDoorZd
import Derived.Test.YtkekjhcmephhjaaGreatDoorZb
set_option maxHeartbeats 8000000
namespace Go.Proofs.YtkekjhcmephhjaaGreatDoor
open Go.RowKit Go.Proofs
set_option maxRecDepth 100000
set_option linter.unusedVariables false
set_option linter.unusedSimpArgs false
def GOk (w:World) (g:Sl ByteArray):Prop:=g.l=wordL∧∀ u,Below w.heap.size w u→u.cell? ⟨1,0,none⟩=some g.v∧SlT cStr u g
theorem GOk.ext {w u:World} {g:Sl ByteArray} (h:GOk w g) (hb:Below w.heap.size w u):GOk u g:=⟨h.1,fun v hv=>h.2 v (Ja7 hb hv)⟩
theorem GOk.st {w u:World} {L:List SA} {g:Sl ByteArray} (h:GOk w g) (hu:St w.heap.size w L u):GOk u g:=h.ext hu.below
theorem GOk.sl {w:World} {g:Sl ByteArray} (h:GOk w g):SlT cStr w g:=(h.2 w (Below.refl _ _)).2
theorem GOk.cell {w u:World} {L:List SA} {g:Sl ByteArray} (h:GOk w g) (hu:St w.heap.size w L u):u.cell? ⟨1,0,none⟩=some g.v:=(h.2 u hu.below).1
theorem Jmc (s0:Sl ByteArray) (tx:ByteArray) (w:World) (hk:SlT cStr w s0) :
  Calls Tryz.prog 64 #[s0.v,.string tx] w (RetB w (.int .i64 (idxF (fun x=>seq tx x) s0.l))):=by
 have hl1:=hk.le
 refine enter Tryz.func64 rfl rfl (Nat.le_of_ble_eq_true rfl) ?_
 refine Nz 1 ?_
 refine Wd (Qc (Cs (Nz 1 ?_)))
 refine Wk 1 Nc ?_
 refine Wd (Qc (Ce ?_))
 refine CS.loopM (σ:=Int) [4,5,9,10,11,12,13,14,15,16,17,18] (fun s=>[(8,.int .i64 s)]) (fun _=>_) (fun s=>0≤s∧s≤s0.l.length∧∀ j:Int,0≤j→j < s→seq tx (nth s0.l j)=false) (fun s=>(s0.l.length - s).toNat) 0 (fun _ _=>rfl) rfl rfl ⟨by omega,by omega,fun j h1 h2=>by omega⟩ ?_
 intro s t hs
 obtain ⟨hs1,hs2,hs3⟩:=hs
 refine Nz 1 ?_
 refine Wd (Qc (Cs (CS.cond rfl ?_ ?_)))<;>intro hc1<;>try simp only [bq] at hc1
 ·
  refine Ck (Qc (Cs (Ce (Nz 2 ?_))))
  refine Wd (Qc (Nz 3 ?_))
  refine Wk 0 Xc ?_
  refine Wk 0 Ub ?_
  refine Wk 0 (Jav rfl rfl) ?_
  refine Wd (Qc (CS.cond rfl ?_ ?_))<;>intro hc2<;>try simp only [bq] at hc2
  ·
   refine Nz 2 ?_
   exact Wd (Qc (Cr (Qs (Qr (Qr (Qs (Qr (out1 rfl rfl (Jai (by rw [Ja4 (p:=fun x=>seq tx x) hs1 (by omega) hs3 hc2]))))))))))
  refine Ck (Qb (Qc (Ny 0 ?_)))
  refine Wk 1 Za ?_
  exact Wd (QS.head (s+1) rfl rfl ⟨⟨by omega,by omega,fun j h1 h2=>if hj:j=s then by rw [hj]; exact hc2 else hs3 j h1 (by omega)⟩,by omega⟩)
 refine Cv (Qe (Qe (Qx (Qc (Nz 1 ?_)))))
 exact Wd (Qc (Cr (out1 rfl rfl (Jai (by rw [Jba (p:=fun x=>seq tx x) fun j h1 h2=>hs3 j h1 (by omega)])))))
theorem Jd1 (s0:Sl ByteArray) (tx:ByteArray) (w:World) (hk:SlT cStr w s0) :
  Calls Tryz.prog 126 #[s0.v,.string tx] w (RetB w (.bool (s0.l.any fun x=>seq tx x))):=by
 refine enter Tryz.func126 rfl rfl (Nat.le_of_ble_eq_true rfl) ?_
 refine Nz 1 ?_
 refine Wd (Qc (Nz 2 ?_))
 refine Wk 2 (Cb rfl rfl Jwk (fun u hu=>Jmc s0 _ u (hk.st hu))) ?_
 exact Wd (Qc (Cr (out1 rfl rfl (Jai (by rw [Jb9])))))
theorem Jhh (tx:ByteArray) (w:World) (g:Sl ByteArray) (hG:GOk w g) (hm:(tx.size:Int)≤9223372036854775806) :
  Calls Tryz.prog 122 #[.string tx] w (RetB w (.bool (Jas tx))):=by
 refine enter Tryz.func122 rfl rfl (Nat.le_of_ble_eq_true rfl) ?_
 refine Nz 1 ?_
 refine Wd (Qc (Cs (Nz 1 ?_)))
 refine Wk 1 (Jau Tryz.underlying9 rfl) ?_
 refine Wd (Qc (Ce ?_))
 refine CS.loopM (σ:=Int) [2,3,7,8,9,10,11,12,13,14,15,16,17,18,19] (fun s=>[(6,.int .i64 s)]) (fun _=>_) (fun s=>0≤s∧s≤tx.size∧∀ j:Int,0≤j→j < s→97≤byt tx j∧byt tx j≤122) (fun s=>(tx.size - s).toNat) 0 (fun _ _=>rfl) rfl rfl ⟨by omega,by omega,fun j _ _=>by omega⟩ ?_
 intro s t hs
 obtain ⟨hs1,hs2,hs3⟩:=hs
 refine Nz 1 ?_
 refine Wd (Qc (Cs (CS.cond rfl ?_ ?_)))<;>intro hc1<;>try simp only [bq] at hc1
 ·
  refine Ck (Qc (Cs (Ce (Nz 2 ?_))))
  refine Wd (Qc (Nz 2 ?_))
  refine Wk 2 (Jar Tryz.underlying9 rfl rfl (by omega) (by omega)) ?_
  refine Wf 0 rfl rfl (fun hg=>Fm) ?_
  refine Wf 0 rfl rfl (fun hg=>Fm) ?_
  refine Wf 0 rfl rfl (fun hg=>Jar Tryz.underlying9 (eg_ hg rfl) (eg_ hg rfl) (by (try simp only [bq] at hg); omega) (by (try simp only [bq] at hg); omega)) ?_
  refine Wf 0 rfl rfl (fun hg=>Fg) ?_
  refine Wk 0 Po ?_
  refine Wd (Qc (CS.cond rfl ?_ ?_))<;>intro hc2<;>try simp only [bq] at hc2
  ·
   refine Nz 1 ?_
   exact Wd (Qc (Cr (Qs (Qr (Qr (Qs (Qr (out1 rfl rfl (Jai (by unfold Jas; rw [Jk1 hs1 (by omega) (by omega)]; rfl))))))))))
  refine Ck (Qb (Qc (Ny 0 ?_)))
  refine Wk 1 Za ?_
  refine Wd ?_
  exact QS.head (s+1) rfl rfl ⟨⟨by omega,by omega,fun j h0 h1=>by
     rcases (show j < s∨j=s by omega) with h | h
     ·
      exact hs3 j h0 h
     rw [h]; omega⟩,by omega⟩
 refine Cv (Qe (Qe (Qx (Qc (Nz 1 ?_)))))
 refine Wk 1 (Jbr rfl rfl) ?_
 refine Wt 0 rfl rfl (fun hg=>Jcm tk23 rfl fun u hu=>hG.cell hu) ?_
 refine Wt 0 rfl rfl (fun hg=>Fm) ?_
 refine Wt 0 rfl rfl (fun hg=>Cb rfl (ec_ (eg_ hg rfl) (ec_ (eg_ hg rfl) en_)) Jof (fun u hu=>Jd1 g _ u (hG.sl.st hu))) ?_
 refine Wt 0 rfl rfl (fun hg=>Fn) ?_
 refine Wk 1 Pa ?_
 refine Wd (Qc (Cr ?_))
 exact out1 rfl rfl (Jai (by
    have h1:lowB tx=true:=Jib fun j h0 h1=>hs3 j h0 (by omega)
    have h2:(g.l.any fun x=>seq tx x)=(wordL.any fun x=>seq x tx):=by rw [hG.1]; congr 1; funext x; exact Jh4 _ _
    unfold Jas; rw [h1,h2,Bool.true_and,Bool.and_comm]))
theorem Jnj (s0:Sl ByteArray) (w:World) (hk:SlT cStr w s0) (g:Nat) (lb:List Value) (p:ByteArray→Bool) (hg:Ent Tryz.prog g)
  (hp:∀ u,Below w.heap.size w u→∀ i:Int,0≤i→i < s0.l.length→Calls Tryz.prog g ([.string (nth s0.l i)]++lb:List Value).toArray u (RetB u (.bool (p (nth s0.l i))))) :
  Calls Tryz.prog 176 #[s0.v,.func (.func g) #[] lb.toArray] w (RetB w (.int .i64 (idxF p s0.l))):=by
 have hl1:=hk.le
 refine enter Tryz.func176 rfl rfl (Nat.le_of_ble_eq_true rfl) ?_
 refine Nz 1 ?_
 refine Wd (Qc (Cs (Nz 1 ?_)))
 refine Wk 1 Nc ?_
 refine Wd (Qc (Ce ?_))
 refine CS.loopM (σ:=Int) [4,5,9,10,11,12,13,14,15,16,17,18] (fun s=>[(8,.int .i64 s)]) (fun _=>_) (fun s=>0≤s∧s≤s0.l.length∧∀ j:Int,0≤j→j < s→p (nth s0.l j)=false) (fun s=>(s0.l.length - s).toNat) 0 (fun _ _=>rfl) rfl rfl ⟨by omega,by omega,fun j h1 h2=>by omega⟩ ?_
 intro s t hs
 obtain ⟨hs1,hs2,hs3⟩:=hs
 refine Nz 1 ?_
 refine Wd (Qc (Cs (CS.cond rfl ?_ ?_)))<;>intro hc1<;>try simp only [bq] at hc1
 ·
  refine Ck (Qc (Cs (Ce (Nz 2 ?_))))
  refine Wd (Qc (Nz 3 ?_))
  refine Wk 0 Xc ?_
  refine Wk 0 Ub ?_
  refine Wk 0 (Cb rfl rfl hg (fun u hu=>hp u hu.below s (by omega) (by omega))) ?_
  refine Wd (Qc (CS.cond rfl ?_ ?_))<;>intro hc2<;>try simp only [bq] at hc2
  ·
   refine Nz 2 ?_
   exact Wd (Qc (Cr (Qs (Qr (Qr (Qs (Qr (out1 rfl rfl (Jai (by rw [Ja4 hs1 (by omega) hs3 hc2]))))))))))
  refine Ck (Qb (Qc (Ny 0 ?_)))
  refine Wk 1 Za ?_
  exact Wd (QS.head (s+1) rfl rfl ⟨⟨by omega,by omega,fun j h1 h2=>if hj:j=s then by rw [hj]; exact hc2 else hs3 j h1 (by omega)⟩,by omega⟩)
 refine Cv (Qe (Qe (Qx (Qc (Nz 1 ?_)))))
 exact Wd (Qc (Cr (out1 rfl rfl (Jai (by rw [Jba fun j h1 h2=>hs3 j h1 (by omega)])))))
theorem Jn1 (s0:Sl Thing) (w:World) (hk:SlT cThing w s0) (g:Nat) (lb:List Value) (p:Thing→Bool) (hg:Ent Tryz.prog g)
  (hp:∀ u,Below w.heap.size w u→∀ i:Int,0≤i→i < s0.l.length→Calls Tryz.prog g ([.agg #[.string (nth s0.l i).nm,.int .i64 (nth s0.l i).pl,.int .i64 (nth s0.l i).st,.int .i64 (nth s0.l i).sr]]++lb:List Value).toArray u (RetB u (.bool (p (nth s0.l i))))) :
  Calls Tryz.prog 174 #[s0.v,.func (.func g) #[] lb.toArray] w (RetB w (.int .i64 (idxF p s0.l))):=by
 have hl1:=hk.le
 refine enter Tryz.func174 rfl rfl (Nat.le_of_ble_eq_true rfl) ?_
 refine Nz 1 ?_
 refine Wd (Qc (Cs (Nz 1 ?_)))
 refine Wk 1 Nc ?_
 refine Wd (Qc (Ce ?_))
 refine CS.loopM (σ:=Int) [4,5,9,10,11,12,13,14,15,16,17,18] (fun s=>[(8,.int .i64 s)]) (fun _=>_) (fun s=>0≤s∧s≤s0.l.length∧∀ j:Int,0≤j→j < s→p (nth s0.l j)=false) (fun s=>(s0.l.length - s).toNat) 0 (fun _ _=>rfl) rfl rfl ⟨by omega,by omega,fun j h1 h2=>by omega⟩ ?_
 intro s t hs
 obtain ⟨hs1,hs2,hs3⟩:=hs
 refine Nz 1 ?_
 refine Wd (Qc (Cs (CS.cond rfl ?_ ?_)))<;>intro hc1<;>try simp only [bq] at hc1
 ·
  refine Ck (Qc (Cs (Ce (Nz 2 ?_))))
  refine Wd (Qc (Nz 3 ?_))
  refine Wk 0 Xc ?_
  refine Wk 0 Ua ?_
  refine Wk 0 (Cb rfl rfl hg (fun u hu=>hp u hu.below s (by omega) (by omega))) ?_
  refine Wd (Qc (CS.cond rfl ?_ ?_))<;>intro hc2<;>try simp only [bq] at hc2
  ·
   refine Nz 2 ?_
   exact Wd (Qc (Cr (Qs (Qr (Qr (Qs (Qr (out1 rfl rfl (Jai (by rw [Ja4 hs1 (by omega) hs3 hc2]))))))))))
  refine Ck (Qb (Qc (Ny 0 ?_)))
  refine Wk 1 Za ?_
  exact Wd (QS.head (s+1) rfl rfl ⟨⟨by omega,by omega,fun j h1 h2=>if hj:j=s then by rw [hj]; exact hc2 else hs3 j h1 (by omega)⟩,by omega⟩)
 refine Cv (Qe (Qe (Qx (Qc (Nz 1 ?_)))))
 exact Wd (Qc (Cr (out1 rfl rfl (Jai (by rw [Jba fun j h1 h2=>hs3 j h1 (by omega)])))))
theorem Jos (s0:Sl Pro) (w:World) (hk:SlT cPro w s0) (g:Nat) (lb:List Value) (p:Pro→Bool) (hg:Ent Tryz.prog g)
  (hp:∀ u,Below w.heap.size w u→∀ i:Int,0≤i→i < s0.l.length→Calls Tryz.prog g ([.agg #[.string (nth s0.l i).nm,.int .i64 (nth s0.l i).pl,(nth s0.l i).wh.v]]++lb:List Value).toArray u (RetB u (.bool (p (nth s0.l i))))) :
  Calls Tryz.prog 178 #[s0.v,.func (.func g) #[] lb.toArray] w (RetB w (.int .i64 (idxF p s0.l))):=by
 have hl1:=hk.le
 refine enter Tryz.func178 rfl rfl (Nat.le_of_ble_eq_true rfl) ?_
 refine Nz 1 ?_
 refine Wd (Qc (Cs (Nz 1 ?_)))
 refine Wk 1 Nc ?_
 refine Wd (Qc (Ce ?_))
 refine CS.loopM (σ:=Int) [4,5,9,10,11,12,13,14,15,16,17,18] (fun s=>[(8,.int .i64 s)]) (fun _=>_) (fun s=>0≤s∧s≤s0.l.length∧∀ j:Int,0≤j→j < s→p (nth s0.l j)=false) (fun s=>(s0.l.length - s).toNat) 0 (fun _ _=>rfl) rfl rfl ⟨by omega,by omega,fun j h1 h2=>by omega⟩ ?_
 intro s t hs
 obtain ⟨hs1,hs2,hs3⟩:=hs
 refine Nz 1 ?_
 refine Wd (Qc (Cs (CS.cond rfl ?_ ?_)))<;>intro hc1<;>try simp only [bq] at hc1
 ·
  refine Ck (Qc (Cs (Ce (Nz 2 ?_))))
  refine Wd (Qc (Nz 3 ?_))
  refine Wk 0 Xc ?_
  refine Wk 0 Ua ?_
  refine Wk 0 (Cb rfl rfl hg (fun u hu=>hp u hu.below s (by omega) (by omega))) ?_
  refine Wd (Qc (CS.cond rfl ?_ ?_))<;>intro hc2<;>try simp only [bq] at hc2
  ·
   refine Nz 2 ?_
   exact Wd (Qc (Cr (Qs (Qr (Qr (Qs (Qr (out1 rfl rfl (Jai (by rw [Ja4 hs1 (by omega) hs3 hc2]))))))))))
  refine Ck (Qb (Qc (Ny 0 ?_)))
  refine Wk 1 Za ?_
  exact Wd (QS.head (s+1) rfl rfl ⟨⟨by omega,by omega,fun j h1 h2=>if hj:j=s then by rw [hj]; exact hc2 else hs3 j h1 (by omega)⟩,by omega⟩)
 refine Cv (Qe (Qe (Qx (Qc (Nz 1 ?_)))))
 exact Wd (Qc (Cr (out1 rfl rfl (Jai (by rw [Jba fun j h1 h2=>hs3 j h1 (by omega)])))))
theorem Jp9 (s0:Sl Actn) (w:World) (hk:SlT cAct w s0) (g:Nat) (lb:List Value) (p:Actn→Bool) (hg:Ent Tryz.prog g)
  (hp:∀ u,Below w.heap.size w u→∀ i:Int,0≤i→i < s0.l.length→Calls Tryz.prog g ([.agg #[.string (nth s0.l i).nm,.int .i64 (nth s0.l i).pl,.int .i64 (nth s0.l i).lk,(nth s0.l i).us.v,(nth s0.l i).wh.v,(nth s0.l i).se.v,(nth s0.l i).sp.v,(nth s0.l i).br.v]]++lb:List Value).toArray u (RetB u (.bool (p (nth s0.l i))))) :
  Calls Tryz.prog 205 #[s0.v,.func (.func g) #[] lb.toArray] w (RetB w (.int .i64 (idxF p s0.l))):=by
 have hl1:=hk.le
 refine enter Tryz.func205 rfl rfl (Nat.le_of_ble_eq_true rfl) ?_
 refine Nz 1 ?_
 refine Wd (Qc (Cs (Nz 1 ?_)))
 refine Wk 1 Nc ?_
 refine Wd (Qc (Ce ?_))
 refine CS.loopM (σ:=Int) [4,5,9,10,11,12,13,14,15,16,17,18] (fun s=>[(8,.int .i64 s)]) (fun _=>_) (fun s=>0≤s∧s≤s0.l.length∧∀ j:Int,0≤j→j < s→p (nth s0.l j)=false) (fun s=>(s0.l.length - s).toNat) 0 (fun _ _=>rfl) rfl rfl ⟨by omega,by omega,fun j h1 h2=>by omega⟩ ?_
 intro s t hs
 obtain ⟨hs1,hs2,hs3⟩:=hs
 refine Nz 1 ?_
 refine Wd (Qc (Cs (CS.cond rfl ?_ ?_)))<;>intro hc1<;>try simp only [bq] at hc1
 ·
  refine Ck (Qc (Cs (Ce (Nz 2 ?_))))
  refine Wd (Qc (Nz 3 ?_))
  refine Wk 0 Xc ?_
  refine Wk 0 Ua ?_
  refine Wk 0 (Cb rfl rfl hg (fun u hu=>hp u hu.below s (by omega) (by omega))) ?_
  refine Wd (Qc (CS.cond rfl ?_ ?_))<;>intro hc2<;>try simp only [bq] at hc2
  ·
   refine Nz 2 ?_
   exact Wd (Qc (Cr (Qs (Qr (Qr (Qs (Qr (out1 rfl rfl (Jai (by rw [Ja4 hs1 (by omega) hs3 hc2]))))))))))
  refine Ck (Qb (Qc (Ny 0 ?_)))
  refine Wk 1 Za ?_
  exact Wd (QS.head (s+1) rfl rfl ⟨⟨by omega,by omega,fun j h1 h2=>if hj:j=s then by rw [hj]; exact hc2 else hs3 j h1 (by omega)⟩,by omega⟩)
 refine Cv (Qe (Qe (Qx (Qc (Nz 1 ?_)))))
 exact Wd (Qc (Cr (out1 rfl rfl (Jai (by rw [Jba fun j h1 h2=>hs3 j h1 (by omega)])))))
theorem Joa (s0:Sl Auto) (w:World) (hk:SlT cAuto w s0) (g:Nat) (lb:List Value) (p:Auto→Bool) (hg:Ent Tryz.prog g)
  (hp:∀ u,Below w.heap.size w u→∀ i:Int,0≤i→i < s0.l.length→Calls Tryz.prog g ([.agg #[(nth s0.l i).wh.v,.int .i64 (nth s0.l i).t,.int .i64 (nth s0.l i).s]]++lb:List Value).toArray u (RetB u (.bool (p (nth s0.l i))))) :
  Calls Tryz.prog 151 #[s0.v,.func (.func g) #[] lb.toArray] w (RetB w (.int .i64 (idxF p s0.l))):=by
 have hl1:=hk.le
 refine enter Tryz.func151 rfl rfl (Nat.le_of_ble_eq_true rfl) ?_
 refine Nz 1 ?_
 refine Wd (Qc (Cs (Nz 1 ?_)))
 refine Wk 1 Nc ?_
 refine Wd (Qc (Ce ?_))
 refine CS.loopM (σ:=Int) [4,5,9,10,11,12,13,14,15,16,17,18] (fun s=>[(8,.int .i64 s)]) (fun _=>_) (fun s=>0≤s∧s≤s0.l.length∧∀ j:Int,0≤j→j < s→p (nth s0.l j)=false) (fun s=>(s0.l.length - s).toNat) 0 (fun _ _=>rfl) rfl rfl ⟨by omega,by omega,fun j h1 h2=>by omega⟩ ?_
 intro s t hs
 obtain ⟨hs1,hs2,hs3⟩:=hs
 refine Nz 1 ?_
 refine Wd (Qc (Cs (CS.cond rfl ?_ ?_)))<;>intro hc1<;>try simp only [bq] at hc1
 ·
  refine Ck (Qc (Cs (Ce (Nz 2 ?_))))
  refine Wd (Qc (Nz 3 ?_))
  refine Wk 0 Xc ?_
  refine Wk 0 Ua ?_
  refine Wk 0 (Cb rfl rfl hg (fun u hu=>hp u hu.below s (by omega) (by omega))) ?_
  refine Wd (Qc (CS.cond rfl ?_ ?_))<;>intro hc2<;>try simp only [bq] at hc2
  ·
   refine Nz 2 ?_
   exact Wd (Qc (Cr (Qs (Qr (Qr (Qs (Qr (out1 rfl rfl (Jai (by rw [Ja4 hs1 (by omega) hs3 hc2]))))))))))
  refine Ck (Qb (Qc (Ny 0 ?_)))
  refine Wk 1 Za ?_
  exact Wd (QS.head (s+1) rfl rfl ⟨⟨by omega,by omega,fun j h1 h2=>if hj:j=s then by rw [hj]; exact hc2 else hs3 j h1 (by omega)⟩,by omega⟩)
 refine Cv (Qe (Qe (Qx (Qc (Nz 1 ?_)))))
 exact Wd (Qc (Cr (out1 rfl rfl (Jai (by rw [Jba fun j h1 h2=>hs3 j h1 (by omega)])))))
theorem Jp6 (s0:Sl Lit) (w:World) (hk:SlT cLit w s0) (g:Nat) (lb:List Value) (p:Lit→Bool) (hg:Ent Tryz.prog g)
  (hp:∀ u,Below w.heap.size w u→∀ i:Int,0≤i→i < s0.l.length→Calls Tryz.prog g ([.agg #[.int .i64 (nth s0.l i).t,.int .i64 (nth s0.l i).s,.bool (nth s0.l i).nt]]++lb:List Value).toArray u (RetB u (.bool (p (nth s0.l i))))) :
  Calls Tryz.prog 180 #[s0.v,.func (.func g) #[] lb.toArray] w (RetB w (.int .i64 (idxF p s0.l))):=by
 have hl1:=hk.le
 refine enter Tryz.func180 rfl rfl (Nat.le_of_ble_eq_true rfl) ?_
 refine Nz 1 ?_
 refine Wd (Qc (Cs (Nz 1 ?_)))
 refine Wk 1 Nc ?_
 refine Wd (Qc (Ce ?_))
 refine CS.loopM (σ:=Int) [4,5,9,10,11,12,13,14,15,16,17,18] (fun s=>[(8,.int .i64 s)]) (fun _=>_) (fun s=>0≤s∧s≤s0.l.length∧∀ j:Int,0≤j→j < s→p (nth s0.l j)=false) (fun s=>(s0.l.length - s).toNat) 0 (fun _ _=>rfl) rfl rfl ⟨by omega,by omega,fun j h1 h2=>by omega⟩ ?_
 intro s t hs
 obtain ⟨hs1,hs2,hs3⟩:=hs
 refine Nz 1 ?_
 refine Wd (Qc (Cs (CS.cond rfl ?_ ?_)))<;>intro hc1<;>try simp only [bq] at hc1
 ·
  refine Ck (Qc (Cs (Ce (Nz 2 ?_))))
  refine Wd (Qc (Nz 3 ?_))
  refine Wk 0 Xc ?_
  refine Wk 0 Ua ?_
  refine Wk 0 (Cb rfl rfl hg (fun u hu=>hp u hu.below s (by omega) (by omega))) ?_
  refine Wd (Qc (CS.cond rfl ?_ ?_))<;>intro hc2<;>try simp only [bq] at hc2
  ·
   refine Nz 2 ?_
   exact Wd (Qc (Cr (Qs (Qr (Qr (Qs (Qr (out1 rfl rfl (Jai (by rw [Ja4 hs1 (by omega) hs3 hc2]))))))))))
  refine Ck (Qb (Qc (Ny 0 ?_)))
  refine Wk 1 Za ?_
  exact Wd (QS.head (s+1) rfl rfl ⟨⟨by omega,by omega,fun j h1 h2=>if hj:j=s then by rw [hj]; exact hc2 else hs3 j h1 (by omega)⟩,by omega⟩)
 refine Cv (Qe (Qe (Qx (Qc (Nz 1 ?_)))))
 exact Wd (Qc (Cr (out1 rfl rfl (Jai (by rw [Jba fun j h1 h2=>hs3 j h1 (by omega)])))))
theorem Jfi (s0:Sl Lit) (w:World) (hk:SlT cLit w s0) (g:Nat) (lb:List Value) (p:Lit→Bool) (hg:Ent Tryz.prog g)
  (hp:∀ u,Below w.heap.size w u→∀ i:Int,0≤i→i < s0.l.length→Calls Tryz.prog g ([.agg #[.int .i64 (nth s0.l i).t,.int .i64 (nth s0.l i).s,.bool (nth s0.l i).nt]]++lb:List Value).toArray u (RetB u (.bool (p (nth s0.l i))))) :
  Calls Tryz.prog 133 #[s0.v,.func (.func g) #[] lb.toArray] w (RetB w (.bool (s0.l.any p))):=by
 refine enter Tryz.func133 rfl rfl (Nat.le_of_ble_eq_true rfl) ?_
 refine Nz 1 ?_
 refine Wd (Qc (Nz 2 ?_))
 refine Wk 2 (Cb rfl rfl Jyo (fun u hu=>Jp6 s0 u (hk.st hu) g lb p hg (fun u2 h2=>hp u2 (Ja7 hu.below h2)))) ?_
 exact Wd (Qc (Cr (out1 rfl rfl (Jai (by rw [Jb9])))))
theorem Jqi (s0:Sl Put) (w:World) (hk:SlT cPut w s0) (g:Nat) (lb:List Value) (p:Put→Bool) (hg:Ent Tryz.prog g)
  (hp:∀ u,Below w.heap.size w u→∀ i:Int,0≤i→i < s0.l.length→Calls Tryz.prog g ([.agg #[.int .i64 (nth s0.l i).t,.int .i64 (nth s0.l i).s]]++lb:List Value).toArray u (RetB u (.bool (p (nth s0.l i))))) :
  Calls Tryz.prog 183 #[s0.v,.func (.func g) #[] lb.toArray] w (RetB w (.int .i64 (idxF p s0.l))):=by
 have hl1:=hk.le
 refine enter Tryz.func183 rfl rfl (Nat.le_of_ble_eq_true rfl) ?_
 refine Nz 1 ?_
 refine Wd (Qc (Cs (Nz 1 ?_)))
 refine Wk 1 Nc ?_
 refine Wd (Qc (Ce ?_))
 refine CS.loopM (σ:=Int) [4,5,9,10,11,12,13,14,15,16,17,18] (fun s=>[(8,.int .i64 s)]) (fun _=>_) (fun s=>0≤s∧s≤s0.l.length∧∀ j:Int,0≤j→j < s→p (nth s0.l j)=false) (fun s=>(s0.l.length - s).toNat) 0 (fun _ _=>rfl) rfl rfl ⟨by omega,by omega,fun j h1 h2=>by omega⟩ ?_
 intro s t hs
 obtain ⟨hs1,hs2,hs3⟩:=hs
 refine Nz 1 ?_
 refine Wd (Qc (Cs (CS.cond rfl ?_ ?_)))<;>intro hc1<;>try simp only [bq] at hc1
 ·
  refine Ck (Qc (Cs (Ce (Nz 2 ?_))))
  refine Wd (Qc (Nz 3 ?_))
  refine Wk 0 Xc ?_
  refine Wk 0 Ua ?_
  refine Wk 0 (Cb rfl rfl hg (fun u hu=>hp u hu.below s (by omega) (by omega))) ?_
  refine Wd (Qc (CS.cond rfl ?_ ?_))<;>intro hc2<;>try simp only [bq] at hc2
  ·
   refine Nz 2 ?_
   exact Wd (Qc (Cr (Qs (Qr (Qr (Qs (Qr (out1 rfl rfl (Jai (by rw [Ja4 hs1 (by omega) hs3 hc2]))))))))))
  refine Ck (Qb (Qc (Ny 0 ?_)))
  refine Wk 1 Za ?_
  exact Wd (QS.head (s+1) rfl rfl ⟨⟨by omega,by omega,fun j h1 h2=>if hj:j=s then by rw [hj]; exact hc2 else hs3 j h1 (by omega)⟩,by omega⟩)
 refine Cv (Qe (Qe (Qx (Qc (Nz 1 ?_)))))
 exact Wd (Qc (Cr (out1 rfl rfl (Jai (by rw [Jba fun j h1 h2=>hs3 j h1 (by omega)])))))
theorem Jjk (s0:Sl Put) (w:World) (hk:SlT cPut w s0) (g:Nat) (lb:List Value) (p:Put→Bool) (hg:Ent Tryz.prog g)
  (hp:∀ u,Below w.heap.size w u→∀ i:Int,0≤i→i < s0.l.length→Calls Tryz.prog g ([.agg #[.int .i64 (nth s0.l i).t,.int .i64 (nth s0.l i).s]]++lb:List Value).toArray u (RetB u (.bool (p (nth s0.l i))))) :
  Calls Tryz.prog 140 #[s0.v,.func (.func g) #[] lb.toArray] w (RetB w (.bool (s0.l.any p))):=by
 refine enter Tryz.func140 rfl rfl (Nat.le_of_ble_eq_true rfl) ?_
 refine Nz 1 ?_
 refine Wd (Qc (Nz 2 ?_))
 refine Wk 2 (Cb rfl rfl Jw4 (fun u hu=>Jqi s0 u (hk.st hu) g lb p hg (fun u2 h2=>hp u2 (Ja7 hu.below h2)))) ?_
 exact Wd (Qc (Cr (out1 rfl rfl (Jai (by rw [Jb9])))))
theorem Jo9 (s0:Sl Int) (w:World) (hk:SlT cInt w s0) (g:Nat) (lb:List Value) (p:Int→Bool) (hg:Ent Tryz.prog g)
  (hp:∀ u,Below w.heap.size w u→∀ i:Int,0≤i→i < s0.l.length→Calls Tryz.prog g ([.int .i64 (nth s0.l i)]++lb:List Value).toArray u (RetB u (.bool (p (nth s0.l i))))) :
  Calls Tryz.prog 153 #[s0.v,.func (.func g) #[] lb.toArray] w (RetB w (.int .i64 (idxF p s0.l))):=by
 have hl1:=hk.le
 have hki:=hk.ints
 refine enter Tryz.func153 rfl rfl (Nat.le_of_ble_eq_true rfl) ?_
 refine Nz 1 ?_
 refine Wd (Qc (Cs (Nz 1 ?_)))
 refine Wk 1 Na ?_
 refine Wd (Qc (Ce ?_))
 refine CS.loopM (σ:=Int) [4,5,9,10,11,12,13,14,15,16,17,18] (fun s=>[(8,.int .i64 s)]) (fun _=>_) (fun s=>0≤s∧s≤s0.l.length∧∀ j:Int,0≤j→j < s→p (nth s0.l j)=false) (fun s=>(s0.l.length - s).toNat) 0 (fun _ _=>rfl) rfl rfl ⟨by omega,by omega,fun j h1 h2=>by omega⟩ ?_
 intro s t hs
 obtain ⟨hs1,hs2,hs3⟩:=hs
 refine Nz 1 ?_
 refine Wd (Qc (Cs (CS.cond rfl ?_ ?_)))<;>intro hc1<;>try simp only [bq] at hc1
 ·
  refine Ck (Qc (Cs (Ce (Nz 2 ?_))))
  refine Wd (Qc (Nz 3 ?_))
  refine Wk 0 Xa ?_
  refine Wk 0 Ia ?_
  refine Wk 0 (Cb rfl rfl hg (fun u hu=>hp u hu.below s (by omega) (by omega))) ?_
  refine Wd (Qc (CS.cond rfl ?_ ?_))<;>intro hc2<;>try simp only [bq] at hc2
  ·
   refine Nz 2 ?_
   exact Wd (Qc (Cr (Qs (Qr (Qr (Qs (Qr (out1 rfl rfl (Jai (by rw [Ja4 hs1 (by omega) hs3 hc2]))))))))))
  refine Ck (Qb (Qc (Ny 0 ?_)))
  refine Wk 1 Za ?_
  exact Wd (QS.head (s+1) rfl rfl ⟨⟨by omega,by omega,fun j h1 h2=>if hj:j=s then by rw [hj]; exact hc2 else hs3 j h1 (by omega)⟩,by omega⟩)
 refine Cv (Qe (Qe (Qx (Qc (Nz 1 ?_)))))
 exact Wd (Qc (Cr (out1 rfl rfl (Jai (by rw [Jba fun j h1 h2=>hs3 j h1 (by omega)])))))
theorem Jc9 (s0:Sl Int) (w:World) (hk:SlT cInt w s0) (g:Nat) (lb:List Value) (p:Int→Bool) (hg:Ent Tryz.prog g)
  (hp:∀ u,Below w.heap.size w u→∀ i:Int,0≤i→i < s0.l.length→Calls Tryz.prog g ([.int .i64 (nth s0.l i)]++lb:List Value).toArray u (RetB u (.bool (p (nth s0.l i))))) :
  Calls Tryz.prog 115 #[s0.v,.func (.func g) #[] lb.toArray] w (RetB w (.bool (s0.l.any p))):=by
 refine enter Tryz.func115 rfl rfl (Nat.le_of_ble_eq_true rfl) ?_
 refine Nz 1 ?_
 refine Wd (Qc (Nz 2 ?_))
 refine Wk 2 (Cb rfl rfl Jxi (fun u hu=>Jo9 s0 u (hk.st hu) g lb p hg (fun u2 h2=>hp u2 (Ja7 hu.below h2)))) ?_
 exact Wd (Qc (Cr (out1 rfl rfl (Jai (by rw [Jb9])))))
theorem Jbx {n0:Nat} {w0:World} {L:List SA} (b:Bool):∀ u,St n0 w0 L u→Calls Tryz.prog 66 #[.bool b] u (fun e u'=>(∃ x:Unit,b=true∧e = .returned (.tuple #[])∧St n0 w0 L u')∨(b=false∧e = .panicked pchain∧St n0 w0 L u')):=fun u hu =>
 Calls.two (args:=[.bool b]) hu (fun h=>by subst h; exact Jxw u) (fun h=>by subst h; exact Jwa u)
structure RdS where
 r:Room
 kd:Int
 ws:Sl ByteArray
def Jku (s:RdS):List Value:=[s.r.pls.v,s.r.ths.v,s.r.prs.v,s.r.wys.v,s.r.acs.v,s.r.aus.v,.int .i64 s.r.ply,s.r.gl.v,.int .i64 s.kd,s.ws.v]
def elOk (r:Room) (u:World):Prop:=(∀ x∈r.prs.l,cPro.ok u x)∧(∀ x∈r.wys.l,cWay.ok u x)∧(∀ x∈r.acs.l,cAct.ok u x)∧(∀ x∈r.aus.l,cAuto.ok u x)∧SlT cLit u r.gl
def Jak (xb:Nat) (s:RdS):List SA:=[blk xb (Jku s) 56,oT cStr 9 s.r.pls.v s.r.pls.l,oT cThing 65 s.r.ths.v s.r.ths.l,oT cPro 67 s.r.prs.v s.r.prs.l,oT cWay 69 s.r.wys.v s.r.wys.l,oT cAct 73 s.r.acs.v s.r.acs.l,
 oT cAuto 77 s.r.aus.v s.r.aus.l,roS (elOk s.r),roT cStr s.ws]
def rdr (xb:Nat) (s:RdS):SA:=star (Jak xb s)
def RdTo (s s':RdS):Prop:=s'.r=s.r∧s'.kd=s.kd∧s'.ws.l <:+ s.ws.l
theorem Jh0 (w:Sl ByteArray):(w.cut 1 1 w.l.length).l <:+ w.l:=by
 show (w.l.drop 1).take (w.l.length - 1) <:+ w.l
 rw [Jey]
 exact List.tail_suffix _
theorem RdTo.refl (s:RdS):RdTo s s:=⟨rfl,rfl,List.suffix_refl _⟩
theorem RdTo.trans {a b c:RdS} (h1:RdTo a b) (h2:RdTo b c):RdTo a c:=⟨h2.1.trans h1.1,h2.2.1.trans h1.2.1,h2.2.2.trans h1.2.2⟩
structure RdS.ok (s:RdS):Prop where
 sz:∀ y∈s.ws.l,y.size≤65536
 len:s.ws.l.length≤65537
theorem RdTo.ok {a b:RdS} (h:RdTo a b) (hz:a.ok):b.ok:=⟨fun y hy=>hz.sz y (h.2.2.subset hy),Nat.le_trans h.2.2.length_le hz.len⟩
def RdX {γ:Type} (w:World) (R:SA) (xb:Nat) (s:RdS) (spec:Option (γ × Wds)) (val:γ→Value):Ending→World→Prop :=
 RetX (β:=RdS × γ) w R pchain (fun x=>RdTo s x.1∧spec=some (x.2,x.1.ws.l)) (spec=none) (fun x=>val x.2) (fun x=>rdr xb x.1)
theorem Jde {l:Wds} (h:0 < l.length):Jbq l=some (nth l 0,l.tail):=by
 cases l with
 | nil=>simp at h
 | cons a l=>rfl
theorem Jcf {l r:Wds} {t:ByteArray} (h:Jbq l=some (t,r)):t∈l:=by
 cases l with
 | nil=>cases h
 | cons a l=>cases h; exact List.mem_cons_self
theorem Jqa {t:ByteArray} {l:Wds} (h:l.length=0):isW t l=false:=by
 cases l with
 | nil=>rfl
 | cons a l=>simp at h
theorem Jic {t:ByteArray} {l:Wds} (h:0 < l.length):isW t l=seq (nth l 0) t:=by
 cases l with
 | nil=>simp at h
 | cons a l=>rfl
theorem Jyz {n0:Nat} {w0 u:World} {L:List SA} {xb:Nat} {s:RdS} (h:St n0 w0 (rdr xb s::L) u):SlT cStr u s.r.pls:=Jcp (St.unpack (L1:=Jak xb s) h) (j:=1) rfl fun _ _=>trivial
theorem Jw5 {n0:Nat} {w0 u:World} {L:List SA} {xb:Nat} {s:RdS} (h:St n0 w0 (rdr xb s::L) u):SlT cPro u s.r.prs:=Jcp (St.unpack (L1:=Jak xb s) h) (j:=3) rfl (((St.unpack (L1:=Jak xb s) h).ro (j:=7) rfl:elOk s.r u).1)
theorem Jyx {n0:Nat} {w0 u:World} {L:List SA} {xb:Nat} {s:RdS} (h:St n0 w0 (rdr xb s::L) u):SlT cStr u s.ws:=(St.unpack (L1:=Jak xb s) h).ro (j:=8) rfl
theorem Jfl {w u:World} (R:SA) (xb:Nat) (s:RdS) (hu:St w.heap.size w [rdr xb s,R] u) :
  Calls Tryz.prog 65 #[.pointer (some ⟨xb,0,none⟩)] u (RdX w R xb s (Jbq s.ws.l) .string):=by
 have hw:=Jyx hu
 refine Jbf hu Tryz.func65 rfl rfl (Nat.le_of_ble_eq_true rfl) ?_
 refine CS.unpack (L1:=Jak xb s) ?_
 refine Nz 1 ?_
 refine Wd (Qc (Nz 3 ?_))
 refine Wk 0 (by first | exact Jaa (j:=0) rfl rfl rfl tk23 | exact Jaa (j:=1) rfl rfl rfl tk23 | exact Jaa (j:=2) rfl rfl rfl tk23 | exact Jaa (j:=3) rfl rfl rfl tk23 | exact Jaa (j:=4) rfl rfl rfl tk23 | exact Jaa (j:=5) rfl rfl rfl tk23 | exact Jaa (j:=6) rfl rfl rfl tk23 | exact Jaa (j:=7) rfl rfl rfl tk23 | exact Jaa (j:=8) rfl rfl rfl tk23 | exact Jaa (j:=9) rfl rfl rfl tk23 | exact Jah rfl (by assumption) rfl tk23) ?_
 refine Wk 1 (Nc (s:=s.ws)) ?_
 refine WS.callP rfl rfl Jc2 (Jbx _) (fun _=>rfl) (fun hq u hu=>And.intro rfl (Or.inr ⟨by simp at hq; rw [hq]; rfl,rfl,hu.sel [9] rfl⟩)) ?_; rintro ⟨⟩ hm
 have hl:0 < s.ws.l.length:=by simpa using hm
 have hoc:(sub2 1 s.ws.v 1 s.ws.l.length).oneCell'=true:=Sl.one (hw.cut (lo:=1) (hi:=s.ws.l.length) (by omega) (Nat.le_refl _))
 refine Wd (Qc (Nz 3 ?_))
 refine Wk 0 (by first | exact Jaa (j:=0) rfl rfl rfl tk23 | exact Jaa (j:=1) rfl rfl rfl tk23 | exact Jaa (j:=2) rfl rfl rfl tk23 | exact Jaa (j:=3) rfl rfl rfl tk23 | exact Jaa (j:=4) rfl rfl rfl tk23 | exact Jaa (j:=5) rfl rfl rfl tk23 | exact Jaa (j:=6) rfl rfl rfl tk23 | exact Jaa (j:=7) rfl rfl rfl tk23 | exact Jaa (j:=8) rfl rfl rfl tk23 | exact Jaa (j:=9) rfl rfl rfl tk23 | exact Jah rfl (by assumption) rfl tk23) ?_
 refine Wk 0 (Xc (s:=s.ws)) ?_
 refine Wk 1 (Vb 8 rfl (s:=s.ws)) ?_
 refine Wd (Qc (Nz 4 ?_))
 refine Wk 0 (by first | exact Jaa (j:=0) rfl rfl rfl tk23 | exact Jaa (j:=1) rfl rfl rfl tk23 | exact Jaa (j:=2) rfl rfl rfl tk23 | exact Jaa (j:=3) rfl rfl rfl tk23 | exact Jaa (j:=4) rfl rfl rfl tk23 | exact Jaa (j:=5) rfl rfl rfl tk23 | exact Jaa (j:=6) rfl rfl rfl tk23 | exact Jaa (j:=7) rfl rfl rfl tk23 | exact Jaa (j:=8) rfl rfl rfl tk23 | exact Jaa (j:=9) rfl rfl rfl tk23 | exact Jah rfl (by assumption) rfl tk23) ?_
 refine Wk 2 (Jdm sl23 rfl rfl hw.sp (by decide) (by omega)) ?_
 first | refine WS.store (j:=0) rfl rfl (by first | decide | omega | (simp; done) | (simp; omega) | exact Nat.le_of_ble_eq_true rfl) rfl (by first | rfl | assumption) tk23 rfl rfl ?_ | refine WS.store (j:=0) rfl rfl (by first | decide | omega | (simp; done) | (simp; omega) | exact Nat.le_of_ble_eq_true rfl) rfl (by first | rfl | assumption) tk23 (Jab _ _ _) rfl ?_ | refine WS.store (j:=1) rfl rfl (by first | decide | omega | (simp; done) | (simp; omega) | exact Nat.le_of_ble_eq_true rfl) rfl (by first | rfl | assumption) tk23 rfl rfl ?_ | refine WS.store (j:=1) rfl rfl (by first | decide | omega | (simp; done) | (simp; omega) | exact Nat.le_of_ble_eq_true rfl) rfl (by first | rfl | assumption) tk23 (Jab _ _ _) rfl ?_ | refine WS.store (j:=2) rfl rfl (by first | decide | omega | (simp; done) | (simp; omega) | exact Nat.le_of_ble_eq_true rfl) rfl (by first | rfl | assumption) tk23 rfl rfl ?_ | refine WS.store (j:=2) rfl rfl (by first | decide | omega | (simp; done) | (simp; omega) | exact Nat.le_of_ble_eq_true rfl) rfl (by first | rfl | assumption) tk23 (Jab _ _ _) rfl ?_ | refine WS.store (j:=3) rfl rfl (by first | decide | omega | (simp; done) | (simp; omega) | exact Nat.le_of_ble_eq_true rfl) rfl (by first | rfl | assumption) tk23 rfl rfl ?_ | refine WS.store (j:=3) rfl rfl (by first | decide | omega | (simp; done) | (simp; omega) | exact Nat.le_of_ble_eq_true rfl) rfl (by first | rfl | assumption) tk23 (Jab _ _ _) rfl ?_ | refine WS.store (j:=4) rfl rfl (by first | decide | omega | (simp; done) | (simp; omega) | exact Nat.le_of_ble_eq_true rfl) rfl (by first | rfl | assumption) tk23 rfl rfl ?_ | refine WS.store (j:=4) rfl rfl (by first | decide | omega | (simp; done) | (simp; omega) | exact Nat.le_of_ble_eq_true rfl) rfl (by first | rfl | assumption) tk23 (Jab _ _ _) rfl ?_ | refine WS.store (j:=5) rfl rfl (by first | decide | omega | (simp; done) | (simp; omega) | exact Nat.le_of_ble_eq_true rfl) rfl (by first | rfl | assumption) tk23 rfl rfl ?_ | refine WS.store (j:=5) rfl rfl (by first | decide | omega | (simp; done) | (simp; omega) | exact Nat.le_of_ble_eq_true rfl) rfl (by first | rfl | assumption) tk23 (Jab _ _ _) rfl ?_ | refine WS.store (j:=6) rfl rfl (by first | decide | omega | (simp; done) | (simp; omega) | exact Nat.le_of_ble_eq_true rfl) rfl (by first | rfl | assumption) tk23 rfl rfl ?_ | refine WS.store (j:=6) rfl rfl (by first | decide | omega | (simp; done) | (simp; omega) | exact Nat.le_of_ble_eq_true rfl) rfl (by first | rfl | assumption) tk23 (Jab _ _ _) rfl ?_ | refine WS.store (j:=7) rfl rfl (by first | decide | omega | (simp; done) | (simp; omega) | exact Nat.le_of_ble_eq_true rfl) rfl (by first | rfl | assumption) tk23 rfl rfl ?_ | refine WS.store (j:=7) rfl rfl (by first | decide | omega | (simp; done) | (simp; omega) | exact Nat.le_of_ble_eq_true rfl) rfl (by first | rfl | assumption) tk23 (Jab _ _ _) rfl ?_ | refine WS.store (j:=8) rfl rfl (by first | decide | omega | (simp; done) | (simp; omega) | exact Nat.le_of_ble_eq_true rfl) rfl (by first | rfl | assumption) tk23 rfl rfl ?_ | refine WS.store (j:=8) rfl rfl (by first | decide | omega | (simp; done) | (simp; omega) | exact Nat.le_of_ble_eq_true rfl) rfl (by first | rfl | assumption) tk23 (Jab _ _ _) rfl ?_ | refine WS.store (j:=9) rfl rfl (by first | decide | omega | (simp; done) | (simp; omega) | exact Nat.le_of_ble_eq_true rfl) rfl (by first | rfl | assumption) tk23 rfl rfl ?_ | refine WS.store (j:=9) rfl rfl (by first | decide | omega | (simp; done) | (simp; omega) | exact Nat.le_of_ble_eq_true rfl) rfl (by first | rfl | assumption) tk23 (Jab _ _ _) rfl ?_
 refine Wd (Qc (Nz 2 ?_))
 refine Wd (Qc (Cr ?_))
 refine QS.sel [8,0,0,0,0,0,0,0,0,0] rfl ?_
 refine QS.weak (fun u hu=>St.roCut (lo:=1) (hi:=s.ws.l.length) hu (by omega) (Nat.le_refl _)) ?_
 refine QS.sel [1,1,1,1,1,1,1,1,0,0] rfl ?_
 exact out1 rfl rfl (fun u hu=>.inl ⟨({ s with ws:=s.ws.cut 1 1 s.ws.l.length },nth s.ws.l 0),⟨⟨rfl,rfl,Jh0 s.ws⟩,by rw [Jde hl]; exact congrArg _ (congrArg _ (Jey _).symm)⟩,rfl,St.pack (L1:=Jak xb { s with ws:=s.ws.cut 1 1 s.ws.l.length }) hu⟩)
theorem Jdv {w u:World} (R:SA) (xb:Nat) (s:RdS) (hu:St w.heap.size w [rdr xb s,R] u) (t:ByteArray) :
  Calls Tryz.prog 68 #[.pointer (some ⟨xb,0,none⟩),.string t] u (RdX w R xb s (some (isW t s.ws.l,if isW t s.ws.l then s.ws.l.tail else s.ws.l)) .bool):=by
 have hw:=Jyx hu
 refine Jbf hu Tryz.func68 rfl rfl (Nat.le_of_ble_eq_true rfl) ?_
 refine CS.unpack (L1:=Jak xb s) ?_
 refine Nz 1 ?_
 refine Wd (Qc (Cs (Nz 3 ?_)))
 refine Wk 0 (by first | exact Jaa (j:=0) rfl rfl rfl tk23 | exact Jaa (j:=1) rfl rfl rfl tk23 | exact Jaa (j:=2) rfl rfl rfl tk23 | exact Jaa (j:=3) rfl rfl rfl tk23 | exact Jaa (j:=4) rfl rfl rfl tk23 | exact Jaa (j:=5) rfl rfl rfl tk23 | exact Jaa (j:=6) rfl rfl rfl tk23 | exact Jaa (j:=7) rfl rfl rfl tk23 | exact Jaa (j:=8) rfl rfl rfl tk23 | exact Jaa (j:=9) rfl rfl rfl tk23 | exact Jah rfl (by assumption) rfl tk23) ?_
 refine Wk 2 (Nc (s:=s.ws)) ?_
 refine Wf 0 rfl rfl (fun hg=>Fm) ?_
 refine Wf 0 rfl rfl (fun hg=>Fc) ?_
 refine Wf 0 rfl rfl (fun hg=>Ff) ?_
 refine Wf 0 rfl rfl (fun hg=>by first | exact Jaa (j:=0) (eg_ hg rfl) rfl rfl tk23 | exact Jaa (j:=1) (eg_ hg rfl) rfl rfl tk23 | exact Jaa (j:=2) (eg_ hg rfl) rfl rfl tk23 | exact Jaa (j:=3) (eg_ hg rfl) rfl rfl tk23 | exact Jaa (j:=4) (eg_ hg rfl) rfl rfl tk23 | exact Jaa (j:=5) (eg_ hg rfl) rfl rfl tk23 | exact Jaa (j:=6) (eg_ hg rfl) rfl rfl tk23 | exact Jaa (j:=7) (eg_ hg rfl) rfl rfl tk23 | exact Jaa (j:=8) (eg_ hg rfl) rfl rfl tk23 | exact Jaa (j:=9) (eg_ hg rfl) rfl rfl tk23 | exact Jah (eg_ hg rfl) (by assumption) rfl tk23) ?_
 refine Wf 0 rfl rfl (fun hg=>Xc (s:=s.ws)) ?_
 refine Wf 0 rfl rfl (fun hg=>Vb 8 rfl (s:=s.ws)) ?_
 refine Wf 0 rfl rfl (fun hg=>Fm) ?_
 refine Wf 0 rfl rfl (fun hg=>Jbr (eg_ hg rfl) (eg_ hg rfl)) ?_
 refine Wk 0 Po ?_
 refine Wd (Qc (CS.cond rfl ?_ ?_))<;>intro hc1<;>try simp only [bq] at hc1
 ·
  have hno:isW t s.ws.l=false:=by
   rcases Nat.eq_zero_or_pos s.ws.l.length with h0 | h0
   ·
    exact Jqa h0
   rw [Jic h0]; rcases hc1 with h | h
   ·
    omega
   exact h
  refine Nz 1 ?_
  exact Wd (Qc (Cr (Qr (out1 rfl rfl (fun u hu=>.inl ⟨(s,false),⟨RdTo.refl s,by rw [hno]; rfl⟩,rfl,St.pack (L1:=Jak xb s) hu⟩)))))
 have hl:0 < s.ws.l.length:=by omega
 have hyes:isW t s.ws.l=true:=by rw [Jic hl]; exact hc1.2
 have hoc:(sub2 1 s.ws.v 1 s.ws.l.length).oneCell'=true:=Sl.one (hw.cut (lo:=1) (hi:=s.ws.l.length) (by omega) (Nat.le_refl _))
 refine Ck (Qc (Nz 4 ?_))
 refine Wk 0 (by first | exact Jaa (j:=0) rfl rfl rfl tk23 | exact Jaa (j:=1) rfl rfl rfl tk23 | exact Jaa (j:=2) rfl rfl rfl tk23 | exact Jaa (j:=3) rfl rfl rfl tk23 | exact Jaa (j:=4) rfl rfl rfl tk23 | exact Jaa (j:=5) rfl rfl rfl tk23 | exact Jaa (j:=6) rfl rfl rfl tk23 | exact Jaa (j:=7) rfl rfl rfl tk23 | exact Jaa (j:=8) rfl rfl rfl tk23 | exact Jaa (j:=9) rfl rfl rfl tk23 | exact Jah rfl (by assumption) rfl tk23) ?_
 refine Wk 2 (Jdm sl23 rfl rfl hw.sp (by decide) (by omega)) ?_
 first | refine WS.store (j:=0) rfl rfl (by first | decide | omega | (simp; done) | (simp; omega) | exact Nat.le_of_ble_eq_true rfl) rfl (by first | rfl | assumption) tk23 rfl rfl ?_ | refine WS.store (j:=0) rfl rfl (by first | decide | omega | (simp; done) | (simp; omega) | exact Nat.le_of_ble_eq_true rfl) rfl (by first | rfl | assumption) tk23 (Jab _ _ _) rfl ?_ | refine WS.store (j:=1) rfl rfl (by first | decide | omega | (simp; done) | (simp; omega) | exact Nat.le_of_ble_eq_true rfl) rfl (by first | rfl | assumption) tk23 rfl rfl ?_ | refine WS.store (j:=1) rfl rfl (by first | decide | omega | (simp; done) | (simp; omega) | exact Nat.le_of_ble_eq_true rfl) rfl (by first | rfl | assumption) tk23 (Jab _ _ _) rfl ?_ | refine WS.store (j:=2) rfl rfl (by first | decide | omega | (simp; done) | (simp; omega) | exact Nat.le_of_ble_eq_true rfl) rfl (by first | rfl | assumption) tk23 rfl rfl ?_ | refine WS.store (j:=2) rfl rfl (by first | decide | omega | (simp; done) | (simp; omega) | exact Nat.le_of_ble_eq_true rfl) rfl (by first | rfl | assumption) tk23 (Jab _ _ _) rfl ?_ | refine WS.store (j:=3) rfl rfl (by first | decide | omega | (simp; done) | (simp; omega) | exact Nat.le_of_ble_eq_true rfl) rfl (by first | rfl | assumption) tk23 rfl rfl ?_ | refine WS.store (j:=3) rfl rfl (by first | decide | omega | (simp; done) | (simp; omega) | exact Nat.le_of_ble_eq_true rfl) rfl (by first | rfl | assumption) tk23 (Jab _ _ _) rfl ?_ | refine WS.store (j:=4) rfl rfl (by first | decide | omega | (simp; done) | (simp; omega) | exact Nat.le_of_ble_eq_true rfl) rfl (by first | rfl | assumption) tk23 rfl rfl ?_ | refine WS.store (j:=4) rfl rfl (by first | decide | omega | (simp; done) | (simp; omega) | exact Nat.le_of_ble_eq_true rfl) rfl (by first | rfl | assumption) tk23 (Jab _ _ _) rfl ?_ | refine WS.store (j:=5) rfl rfl (by first | decide | omega | (simp; done) | (simp; omega) | exact Nat.le_of_ble_eq_true rfl) rfl (by first | rfl | assumption) tk23 rfl rfl ?_ | refine WS.store (j:=5) rfl rfl (by first | decide | omega | (simp; done) | (simp; omega) | exact Nat.le_of_ble_eq_true rfl) rfl (by first | rfl | assumption) tk23 (Jab _ _ _) rfl ?_ | refine WS.store (j:=6) rfl rfl (by first | decide | omega | (simp; done) | (simp; omega) | exact Nat.le_of_ble_eq_true rfl) rfl (by first | rfl | assumption) tk23 rfl rfl ?_ | refine WS.store (j:=6) rfl rfl (by first | decide | omega | (simp; done) | (simp; omega) | exact Nat.le_of_ble_eq_true rfl) rfl (by first | rfl | assumption) tk23 (Jab _ _ _) rfl ?_ | refine WS.store (j:=7) rfl rfl (by first | decide | omega | (simp; done) | (simp; omega) | exact Nat.le_of_ble_eq_true rfl) rfl (by first | rfl | assumption) tk23 rfl rfl ?_ | refine WS.store (j:=7) rfl rfl (by first | decide | omega | (simp; done) | (simp; omega) | exact Nat.le_of_ble_eq_true rfl) rfl (by first | rfl | assumption) tk23 (Jab _ _ _) rfl ?_ | refine WS.store (j:=8) rfl rfl (by first | decide | omega | (simp; done) | (simp; omega) | exact Nat.le_of_ble_eq_true rfl) rfl (by first | rfl | assumption) tk23 rfl rfl ?_ | refine WS.store (j:=8) rfl rfl (by first | decide | omega | (simp; done) | (simp; omega) | exact Nat.le_of_ble_eq_true rfl) rfl (by first | rfl | assumption) tk23 (Jab _ _ _) rfl ?_ | refine WS.store (j:=9) rfl rfl (by first | decide | omega | (simp; done) | (simp; omega) | exact Nat.le_of_ble_eq_true rfl) rfl (by first | rfl | assumption) tk23 rfl rfl ?_ | refine WS.store (j:=9) rfl rfl (by first | decide | omega | (simp; done) | (simp; omega) | exact Nat.le_of_ble_eq_true rfl) rfl (by first | rfl | assumption) tk23 (Jab _ _ _) rfl ?_
 refine Wd (Qc (Nz 1 ?_))
 refine Wd (Qc (Cr ?_))
 refine QS.sel [8,0,0,0,0,0,0,0,0,0] rfl ?_
 refine QS.weak (fun u hu=>St.roCut (lo:=1) (hi:=s.ws.l.length) hu (by omega) (Nat.le_refl _)) ?_
 refine QS.sel [1,1,1,1,1,1,1,1,0,0] rfl ?_
 exact out1 rfl rfl (fun u hu=>.inl ⟨({ s with ws:=s.ws.cut 1 1 s.ws.l.length },true),⟨⟨rfl,rfl,Jh0 s.ws⟩,by rw [hyes]; exact congrArg _ (congrArg _ (Jey _).symm)⟩,rfl,St.pack (L1:=Jak xb { s with ws:=s.ws.cut 1 1 s.ws.l.length }) hu⟩)
end Go.Proofs.YtkekjhcmephhjaaGreatDoor
