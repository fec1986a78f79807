/- Merged texts of this proof (walks and plain laws), printed by a program of the prover. -/
import Derived.Test.YtfbfdnoodccgiaaGreatDoorZg
import Derived.Test.YtfbfdnoodccgiaaGreatDoorZb
set_option maxHeartbeats 8000000
namespace Go.Proofs.YtfbfdnoodccgiaaGreatDoor
open Go.RowKit Go.Proofs
set_option maxRecDepth 100000
set_option linter.unusedVariables false
set_option linter.unusedSimpArgs false
def GOk (w:World) (g:Sl ByteArray):Prop:=g.l=wordL∧∀ u,Below w.heap.size w u→u.cell? ⟨9,0,none⟩=some g.v∧SlT cStr u g
theorem GOk.ext {w u:World} {g:Sl ByteArray} (h:GOk w g) (hb:Below w.heap.size w u):GOk u g:=⟨h.1,fun v hv=>h.2 v (Jav hb hv)⟩
theorem GOk.st {w u:World} {L:List SA} {g:Sl ByteArray} (h:GOk w g) (hu:St w.heap.size w L u):GOk u g:=h.ext hu.below
theorem GOk.sl {w:World} {g:Sl ByteArray} (h:GOk w g):SlT cStr w g:=(h.2 w (Below.refl _ _)).2
theorem GOk.cell {w u:World} {L:List SA} {g:Sl ByteArray} (h:GOk w g) (hu:St w.heap.size w L u):u.cell? ⟨9,0,none⟩=some g.v:=(h.2 u hu.below).1
theorem Jv2 (s0:Sl ByteArray) (tx:ByteArray) (w:World) (hk:SlT cStr w s0) :
  Calls Tryz.prog 200 #[s0.v,.string tx] w (RetB w (.int .i64 (idxF (fun x=>seq tx x) s0.l))):=by
 have hl1:=hk.le
 refine enter Tryz.func200 rfl rfl (Nat.le_of_ble_eq_true rfl) ?_
 refine Nz 1 ?_
 refine Wd (Qc (Cs (Nz 1 ?_)))
 refine Wk 1 Nc ?_
 refine Wd (Qc (Ce ?_))
 refine CS.loopM (σ:=Int) [4,5,9,10,11,12,13,14,15,16,17,18] (fun s=>[(8,.int .i64 s)]) (fun _=>_) (fun s=>0≤s∧s≤s0.l.length∧∀ j:Int,0≤j→j < s→seq tx (nth s0.l j)=false) (fun s=>(s0.l.length - s).toNat) 0 (fun _ _=>rfl) rfl rfl ⟨by omega,by omega,fun j h1 h2=>by omega⟩ ?_
 intro s t hs
 obtain ⟨hs1,hs2,hs3⟩:=hs
 refine Nz 1 ?_
 refine Wd (Qc (Cs (CS.cond rfl ?_ ?_)))<;>intro hc1<;>try simp only [bq] at hc1
 ·
  refine Ck (Qc (Cs (Ce (Nz 2 ?_))))
  refine Wd (Qc (Nz 3 ?_))
  refine Wk 0 Xc ?_
  refine Wk 0 Ub ?_
  refine Wk 0 (Jaw rfl rfl) ?_
  refine Wd (Qc (CS.cond rfl ?_ ?_))<;>intro hc2<;>try simp only [bq] at hc2
  ·
   refine Nz 2 ?_
   exact Wd (Qc (Cr (Qs (Qr (Qr (Qs (Qr (out1 rfl rfl (Jac (by rw [Ja4 (p:=fun x=>seq tx x) hs1 (by omega) hs3 hc2]))))))))))
  refine Ck (Qb (Qc (Ny 0 ?_)))
  refine Wk 1 Za ?_
  exact Wd (QS.head (s+1) rfl rfl ⟨⟨by omega,by omega,fun j h1 h2=>if hj:j=s then by rw [hj]; exact hc2 else hs3 j h1 (by omega)⟩,by omega⟩)
 refine Cv (Qe (Qe (Qx (Qc (Nz 1 ?_)))))
 exact Wd (Qc (Cr (out1 rfl rfl (Jac (by rw [Jba (p:=fun x=>seq tx x) fun j h1 h2=>hs3 j h1 (by omega)])))))
theorem Jl6 (s0:Sl ByteArray) (tx:ByteArray) (w:World) (hk:SlT cStr w s0) :
  Calls Tryz.prog 183 #[s0.v,.string tx] w (RetB w (.bool (s0.l.any fun x=>seq tx x))):=by
 refine enter Tryz.func183 rfl rfl (Nat.le_of_ble_eq_true rfl) ?_
 refine Nz 1 ?_
 refine Wd (Qc (Nz 2 ?_))
 refine Wk 2 (Cb rfl rfl J2q (fun u hu=>Jv2 s0 _ u (hk.st hu))) ?_
 exact Wd (Qc (Cr (out1 rfl rfl (Jac (by rw [Jbu])))))
theorem Joz (tx:ByteArray) (w:World) (g:Sl ByteArray) (hG:GOk w g) (hm:(tx.size:Int)≤9223372036854775806) :
  Calls Tryz.prog 149 #[.string tx] w (RetB w (.bool (Jcc tx))):=by
 refine enter Tryz.func149 rfl rfl (Nat.le_of_ble_eq_true rfl) ?_
 refine Nz 1 ?_
 refine Wd (Qc (Cs (Nz 1 ?_)))
 refine Wk 1 (Jbe Tryz.underlying9 rfl) ?_
 refine Wd (Qc (Ce ?_))
 refine CS.loopM (σ:=Int) [2,3,7,8,9,10,11,12,13,14,15,16,17,18,19] (fun s=>[(6,.int .i64 s)]) (fun _=>_) (fun s=>0≤s∧s≤tx.size∧∀ j:Int,0≤j→j < s→97≤byt tx j∧byt tx j≤122) (fun s=>(tx.size - s).toNat) 0 (fun _ _=>rfl) rfl rfl ⟨by omega,by omega,fun j _ _=>by omega⟩ ?_
 intro s t hs
 obtain ⟨hs1,hs2,hs3⟩:=hs
 refine Nz 1 ?_
 refine Wd (Qc (Cs (CS.cond rfl ?_ ?_)))<;>intro hc1<;>try simp only [bq] at hc1
 ·
  refine Ck (Qc (Cs (Ce (Nz 2 ?_))))
  refine Wd (Qc (Nz 2 ?_))
  refine Wk 2 (Jcj Tryz.underlying9 rfl rfl (by omega) (by omega)) ?_
  refine Wf 0 rfl rfl (fun hg=>Fm) ?_
  refine Wf 0 rfl rfl (fun hg=>Fm) ?_
  refine Wf 0 rfl rfl (fun hg=>Jcj Tryz.underlying9 (eg_ hg rfl) (eg_ hg rfl) (by (try simp only [bq] at hg); omega) (by (try simp only [bq] at hg); omega)) ?_
  refine Wf 0 rfl rfl (fun hg=>Fg) ?_
  refine Wk 0 Po ?_
  refine Wd (Qc (CS.cond rfl ?_ ?_))<;>intro hc2<;>try simp only [bq] at hc2
  ·
   refine Nz 1 ?_
   exact Wd (Qc (Cr (Qs (Qr (Qr (Qs (Qr (out1 rfl rfl (Jac (by unfold Jcc; rw [Jrr hs1 (by omega) (by omega)]; rfl))))))))))
  refine Ck (Qb (Qc (Ny 0 ?_)))
  refine Wk 1 Za ?_
  refine Wd ?_
  exact QS.head (s+1) rfl rfl ⟨⟨by omega,by omega,fun j h0 h1=>by
     rcases (show j < s∨j=s by omega) with h | h
     ·
      exact hs3 j h0 h
     rw [h]; omega⟩,by omega⟩
 refine Cv (Qe (Qe (Qx (Qc (Nz 1 ?_)))))
 refine Wk 1 (Jfa rfl rfl) ?_
 refine Wt 0 rfl rfl (fun hg=>Jdk tk34 rfl fun u hu=>hG.cell hu) ?_
 refine Wt 0 rfl rfl (fun hg=>Fm) ?_
 refine Wt 0 rfl rfl (fun hg=>Cb rfl (ec_ (eg_ hg rfl) (ec_ (eg_ hg rfl) en_)) J4u (fun u hu=>Jl6 g _ u (hG.sl.st hu))) ?_
 refine Wt 0 rfl rfl (fun hg=>Fn) ?_
 refine Wk 1 Pa ?_
 refine Wd (Qc (Cr ?_))
 exact out1 rfl rfl (Jac (by
    have h1:lowB tx=true:=Jou fun j h0 h1=>hs3 j h0 (by omega)
    have h2:(g.l.any fun x=>seq tx x)=(wordL.any fun x=>seq x tx):=by rw [hG.1]; congr 1; funext x; exact Jja _ _
    unfold Jcc; rw [h1,h2,Bool.true_and,Bool.and_comm]))
theorem Jo5 (s0:Sl ByteArray) (w:World) (hk:SlT cStr w s0) (g:Nat) (lb:List Value) (p:ByteArray→Bool) (hg:Ent Tryz.prog g)
  (hp:∀ u,Below w.heap.size w u→∀ i:Int,0≤i→i < s0.l.length→Calls Tryz.prog g ([.string (nth s0.l i)]++lb:List Value).toArray u (RetB u (.bool (p (nth s0.l i))))) :
  Calls Tryz.prog 184 #[s0.v,.func (.func g) #[] lb.toArray] w (RetB w (.int .i64 (idxF p s0.l))):=by
 have hl1:=hk.le
 refine enter Tryz.func184 rfl rfl (Nat.le_of_ble_eq_true rfl) ?_
 refine Nz 1 ?_
 refine Wd (Qc (Cs (Nz 1 ?_)))
 refine Wk 1 Nc ?_
 refine Wd (Qc (Ce ?_))
 refine CS.loopM (σ:=Int) [4,5,9,10,11,12,13,14,15,16,17,18] (fun s=>[(8,.int .i64 s)]) (fun _=>_) (fun s=>0≤s∧s≤s0.l.length∧∀ j:Int,0≤j→j < s→p (nth s0.l j)=false) (fun s=>(s0.l.length - s).toNat) 0 (fun _ _=>rfl) rfl rfl ⟨by omega,by omega,fun j h1 h2=>by omega⟩ ?_
 intro s t hs
 obtain ⟨hs1,hs2,hs3⟩:=hs
 refine Nz 1 ?_
 refine Wd (Qc (Cs (CS.cond rfl ?_ ?_)))<;>intro hc1<;>try simp only [bq] at hc1
 ·
  refine Ck (Qc (Cs (Ce (Nz 2 ?_))))
  refine Wd (Qc (Nz 3 ?_))
  refine Wk 0 Xc ?_
  refine Wk 0 Ub ?_
  refine Wk 0 (Cb rfl rfl hg (fun u hu=>hp u hu.below s (by omega) (by omega))) ?_
  refine Wd (Qc (CS.cond rfl ?_ ?_))<;>intro hc2<;>try simp only [bq] at hc2
  ·
   refine Nz 2 ?_
   exact Wd (Qc (Cr (Qs (Qr (Qr (Qs (Qr (out1 rfl rfl (Jac (by rw [Ja4 hs1 (by omega) hs3 hc2]))))))))))
  refine Ck (Qb (Qc (Ny 0 ?_)))
  refine Wk 1 Za ?_
  exact Wd (QS.head (s+1) rfl rfl ⟨⟨by omega,by omega,fun j h1 h2=>if hj:j=s then by rw [hj]; exact hc2 else hs3 j h1 (by omega)⟩,by omega⟩)
 refine Cv (Qe (Qe (Qx (Qc (Nz 1 ?_)))))
 exact Wd (Qc (Cr (out1 rfl rfl (Jac (by rw [Jba fun j h1 h2=>hs3 j h1 (by omega)])))))
theorem Jtn (s0:Sl Thing) (w:World) (hk:SlT Jkz w s0) (g:Nat) (lb:List Value) (p:Thing→Bool) (hg:Ent Tryz.prog g)
  (hp:∀ u,Below w.heap.size w u→∀ i:Int,0≤i→i < s0.l.length→Calls Tryz.prog g ([.agg #[.string (nth s0.l i).nm,.int .i64 (nth s0.l i).pl,.int .i64 (nth s0.l i).st,.int .i64 (nth s0.l i).sr]]++lb:List Value).toArray u (RetB u (.bool (p (nth s0.l i))))) :
  Calls Tryz.prog 186 #[s0.v,.func (.func g) #[] lb.toArray] w (RetB w (.int .i64 (idxF p s0.l))):=by
 have hl1:=hk.le
 refine enter Tryz.func186 rfl rfl (Nat.le_of_ble_eq_true rfl) ?_
 refine Nz 1 ?_
 refine Wd (Qc (Cs (Nz 1 ?_)))
 refine Wk 1 Nc ?_
 refine Wd (Qc (Ce ?_))
 refine CS.loopM (σ:=Int) [4,5,9,10,11,12,13,14,15,16,17,18] (fun s=>[(8,.int .i64 s)]) (fun _=>_) (fun s=>0≤s∧s≤s0.l.length∧∀ j:Int,0≤j→j < s→p (nth s0.l j)=false) (fun s=>(s0.l.length - s).toNat) 0 (fun _ _=>rfl) rfl rfl ⟨by omega,by omega,fun j h1 h2=>by omega⟩ ?_
 intro s t hs
 obtain ⟨hs1,hs2,hs3⟩:=hs
 refine Nz 1 ?_
 refine Wd (Qc (Cs (CS.cond rfl ?_ ?_)))<;>intro hc1<;>try simp only [bq] at hc1
 ·
  refine Ck (Qc (Cs (Ce (Nz 2 ?_))))
  refine Wd (Qc (Nz 3 ?_))
  refine Wk 0 Xc ?_
  refine Wk 0 Ua ?_
  refine Wk 0 (Cb rfl rfl hg (fun u hu=>hp u hu.below s (by omega) (by omega))) ?_
  refine Wd (Qc (CS.cond rfl ?_ ?_))<;>intro hc2<;>try simp only [bq] at hc2
  ·
   refine Nz 2 ?_
   exact Wd (Qc (Cr (Qs (Qr (Qr (Qs (Qr (out1 rfl rfl (Jac (by rw [Ja4 hs1 (by omega) hs3 hc2]))))))))))
  refine Ck (Qb (Qc (Ny 0 ?_)))
  refine Wk 1 Za ?_
  exact Wd (QS.head (s+1) rfl rfl ⟨⟨by omega,by omega,fun j h1 h2=>if hj:j=s then by rw [hj]; exact hc2 else hs3 j h1 (by omega)⟩,by omega⟩)
 refine Cv (Qe (Qe (Qx (Qc (Nz 1 ?_)))))
 exact Wd (Qc (Cr (out1 rfl rfl (Jac (by rw [Jba fun j h1 h2=>hs3 j h1 (by omega)])))))
theorem Jsg (s0:Sl Pro) (w:World) (hk:SlT cPro w s0) (g:Nat) (lb:List Value) (p:Pro→Bool) (hg:Ent Tryz.prog g)
  (hp:∀ u,Below w.heap.size w u→∀ i:Int,0≤i→i < s0.l.length→Calls Tryz.prog g ([.agg #[.string (nth s0.l i).nm,.int .i64 (nth s0.l i).pl,(nth s0.l i).wh.v]]++lb:List Value).toArray u (RetB u (.bool (p (nth s0.l i))))) :
  Calls Tryz.prog 188 #[s0.v,.func (.func g) #[] lb.toArray] w (RetB w (.int .i64 (idxF p s0.l))):=by
 have hl1:=hk.le
 refine enter Tryz.func188 rfl rfl (Nat.le_of_ble_eq_true rfl) ?_
 refine Nz 1 ?_
 refine Wd (Qc (Cs (Nz 1 ?_)))
 refine Wk 1 Nc ?_
 refine Wd (Qc (Ce ?_))
 refine CS.loopM (σ:=Int) [4,5,9,10,11,12,13,14,15,16,17,18] (fun s=>[(8,.int .i64 s)]) (fun _=>_) (fun s=>0≤s∧s≤s0.l.length∧∀ j:Int,0≤j→j < s→p (nth s0.l j)=false) (fun s=>(s0.l.length - s).toNat) 0 (fun _ _=>rfl) rfl rfl ⟨by omega,by omega,fun j h1 h2=>by omega⟩ ?_
 intro s t hs
 obtain ⟨hs1,hs2,hs3⟩:=hs
 refine Nz 1 ?_
 refine Wd (Qc (Cs (CS.cond rfl ?_ ?_)))<;>intro hc1<;>try simp only [bq] at hc1
 ·
  refine Ck (Qc (Cs (Ce (Nz 2 ?_))))
  refine Wd (Qc (Nz 3 ?_))
  refine Wk 0 Xc ?_
  refine Wk 0 Ua ?_
  refine Wk 0 (Cb rfl rfl hg (fun u hu=>hp u hu.below s (by omega) (by omega))) ?_
  refine Wd (Qc (CS.cond rfl ?_ ?_))<;>intro hc2<;>try simp only [bq] at hc2
  ·
   refine Nz 2 ?_
   exact Wd (Qc (Cr (Qs (Qr (Qr (Qs (Qr (out1 rfl rfl (Jac (by rw [Ja4 hs1 (by omega) hs3 hc2]))))))))))
  refine Ck (Qb (Qc (Ny 0 ?_)))
  refine Wk 1 Za ?_
  exact Wd (QS.head (s+1) rfl rfl ⟨⟨by omega,by omega,fun j h1 h2=>if hj:j=s then by rw [hj]; exact hc2 else hs3 j h1 (by omega)⟩,by omega⟩)
 refine Cv (Qe (Qe (Qx (Qc (Nz 1 ?_)))))
 exact Wd (Qc (Cr (out1 rfl rfl (Jac (by rw [Jba fun j h1 h2=>hs3 j h1 (by omega)])))))
theorem Jtx (s0:Sl Actn) (w:World) (hk:SlT cAct w s0) (g:Nat) (lb:List Value) (p:Actn→Bool) (hg:Ent Tryz.prog g)
  (hp:∀ u,Below w.heap.size w u→∀ i:Int,0≤i→i < s0.l.length→Calls Tryz.prog g ([.agg #[.string (nth s0.l i).nm,.int .i64 (nth s0.l i).pl,.int .i64 (nth s0.l i).lk,(nth s0.l i).us.v,(nth s0.l i).wh.v,(nth s0.l i).se.v,(nth s0.l i).sp.v,(nth s0.l i).br.v]]++lb:List Value).toArray u (RetB u (.bool (p (nth s0.l i))))) :
  Calls Tryz.prog 201 #[s0.v,.func (.func g) #[] lb.toArray] w (RetB w (.int .i64 (idxF p s0.l))):=by
 have hl1:=hk.le
 refine enter Tryz.func201 rfl rfl (Nat.le_of_ble_eq_true rfl) ?_
 refine Nz 1 ?_
 refine Wd (Qc (Cs (Nz 1 ?_)))
 refine Wk 1 Nc ?_
 refine Wd (Qc (Ce ?_))
 refine CS.loopM (σ:=Int) [4,5,9,10,11,12,13,14,15,16,17,18] (fun s=>[(8,.int .i64 s)]) (fun _=>_) (fun s=>0≤s∧s≤s0.l.length∧∀ j:Int,0≤j→j < s→p (nth s0.l j)=false) (fun s=>(s0.l.length - s).toNat) 0 (fun _ _=>rfl) rfl rfl ⟨by omega,by omega,fun j h1 h2=>by omega⟩ ?_
 intro s t hs
 obtain ⟨hs1,hs2,hs3⟩:=hs
 refine Nz 1 ?_
 refine Wd (Qc (Cs (CS.cond rfl ?_ ?_)))<;>intro hc1<;>try simp only [bq] at hc1
 ·
  refine Ck (Qc (Cs (Ce (Nz 2 ?_))))
  refine Wd (Qc (Nz 3 ?_))
  refine Wk 0 Xc ?_
  refine Wk 0 Ua ?_
  refine Wk 0 (Cb rfl rfl hg (fun u hu=>hp u hu.below s (by omega) (by omega))) ?_
  refine Wd (Qc (CS.cond rfl ?_ ?_))<;>intro hc2<;>try simp only [bq] at hc2
  ·
   refine Nz 2 ?_
   exact Wd (Qc (Cr (Qs (Qr (Qr (Qs (Qr (out1 rfl rfl (Jac (by rw [Ja4 hs1 (by omega) hs3 hc2]))))))))))
  refine Ck (Qb (Qc (Ny 0 ?_)))
  refine Wk 1 Za ?_
  exact Wd (QS.head (s+1) rfl rfl ⟨⟨by omega,by omega,fun j h1 h2=>if hj:j=s then by rw [hj]; exact hc2 else hs3 j h1 (by omega)⟩,by omega⟩)
 refine Cv (Qe (Qe (Qx (Qc (Nz 1 ?_)))))
 exact Wd (Qc (Cr (out1 rfl rfl (Jac (by rw [Jba fun j h1 h2=>hs3 j h1 (by omega)])))))
theorem Jtl (s0:Sl Auto) (w:World) (hk:SlT J18 w s0) (g:Nat) (lb:List Value) (p:Auto→Bool) (hg:Ent Tryz.prog g)
  (hp:∀ u,Below w.heap.size w u→∀ i:Int,0≤i→i < s0.l.length→Calls Tryz.prog g ([.agg #[(nth s0.l i).wh.v,.int .i64 (nth s0.l i).t,.int .i64 (nth s0.l i).s]]++lb:List Value).toArray u (RetB u (.bool (p (nth s0.l i))))) :
  Calls Tryz.prog 169 #[s0.v,.func (.func g) #[] lb.toArray] w (RetB w (.int .i64 (idxF p s0.l))):=by
 have hl1:=hk.le
 refine enter Tryz.func169 rfl rfl (Nat.le_of_ble_eq_true rfl) ?_
 refine Nz 1 ?_
 refine Wd (Qc (Cs (Nz 1 ?_)))
 refine Wk 1 Nc ?_
 refine Wd (Qc (Ce ?_))
 refine CS.loopM (σ:=Int) [4,5,9,10,11,12,13,14,15,16,17,18] (fun s=>[(8,.int .i64 s)]) (fun _=>_) (fun s=>0≤s∧s≤s0.l.length∧∀ j:Int,0≤j→j < s→p (nth s0.l j)=false) (fun s=>(s0.l.length - s).toNat) 0 (fun _ _=>rfl) rfl rfl ⟨by omega,by omega,fun j h1 h2=>by omega⟩ ?_
 intro s t hs
 obtain ⟨hs1,hs2,hs3⟩:=hs
 refine Nz 1 ?_
 refine Wd (Qc (Cs (CS.cond rfl ?_ ?_)))<;>intro hc1<;>try simp only [bq] at hc1
 ·
  refine Ck (Qc (Cs (Ce (Nz 2 ?_))))
  refine Wd (Qc (Nz 3 ?_))
  refine Wk 0 Xc ?_
  refine Wk 0 Ua ?_
  refine Wk 0 (Cb rfl rfl hg (fun u hu=>hp u hu.below s (by omega) (by omega))) ?_
  refine Wd (Qc (CS.cond rfl ?_ ?_))<;>intro hc2<;>try simp only [bq] at hc2
  ·
   refine Nz 2 ?_
   exact Wd (Qc (Cr (Qs (Qr (Qr (Qs (Qr (out1 rfl rfl (Jac (by rw [Ja4 hs1 (by omega) hs3 hc2]))))))))))
  refine Ck (Qb (Qc (Ny 0 ?_)))
  refine Wk 1 Za ?_
  exact Wd (QS.head (s+1) rfl rfl ⟨⟨by omega,by omega,fun j h1 h2=>if hj:j=s then by rw [hj]; exact hc2 else hs3 j h1 (by omega)⟩,by omega⟩)
 refine Cv (Qe (Qe (Qx (Qc (Nz 1 ?_)))))
 exact Wd (Qc (Cr (out1 rfl rfl (Jac (by rw [Jba fun j h1 h2=>hs3 j h1 (by omega)])))))
theorem Jtf (s0:Sl Lit) (w:World) (hk:SlT cLit w s0) (g:Nat) (lb:List Value) (p:Lit→Bool) (hg:Ent Tryz.prog g)
  (hp:∀ u,Below w.heap.size w u→∀ i:Int,0≤i→i < s0.l.length→Calls Tryz.prog g ([.agg #[.int .i64 (nth s0.l i).t,.int .i64 (nth s0.l i).s,.bool (nth s0.l i).nt]]++lb:List Value).toArray u (RetB u (.bool (p (nth s0.l i))))) :
  Calls Tryz.prog 168 #[s0.v,.func (.func g) #[] lb.toArray] w (RetB w (.int .i64 (idxF p s0.l))):=by
 have hl1:=hk.le
 refine enter Tryz.func168 rfl rfl (Nat.le_of_ble_eq_true rfl) ?_
 refine Nz 1 ?_
 refine Wd (Qc (Cs (Nz 1 ?_)))
 refine Wk 1 Nc ?_
 refine Wd (Qc (Ce ?_))
 refine CS.loopM (σ:=Int) [4,5,9,10,11,12,13,14,15,16,17,18] (fun s=>[(8,.int .i64 s)]) (fun _=>_) (fun s=>0≤s∧s≤s0.l.length∧∀ j:Int,0≤j→j < s→p (nth s0.l j)=false) (fun s=>(s0.l.length - s).toNat) 0 (fun _ _=>rfl) rfl rfl ⟨by omega,by omega,fun j h1 h2=>by omega⟩ ?_
 intro s t hs
 obtain ⟨hs1,hs2,hs3⟩:=hs
 refine Nz 1 ?_
 refine Wd (Qc (Cs (CS.cond rfl ?_ ?_)))<;>intro hc1<;>try simp only [bq] at hc1
 ·
  refine Ck (Qc (Cs (Ce (Nz 2 ?_))))
  refine Wd (Qc (Nz 3 ?_))
  refine Wk 0 Xc ?_
  refine Wk 0 Ua ?_
  refine Wk 0 (Cb rfl rfl hg (fun u hu=>hp u hu.below s (by omega) (by omega))) ?_
  refine Wd (Qc (CS.cond rfl ?_ ?_))<;>intro hc2<;>try simp only [bq] at hc2
  ·
   refine Nz 2 ?_
   exact Wd (Qc (Cr (Qs (Qr (Qr (Qs (Qr (out1 rfl rfl (Jac (by rw [Ja4 hs1 (by omega) hs3 hc2]))))))))))
  refine Ck (Qb (Qc (Ny 0 ?_)))
  refine Wk 1 Za ?_
  exact Wd (QS.head (s+1) rfl rfl ⟨⟨by omega,by omega,fun j h1 h2=>if hj:j=s then by rw [hj]; exact hc2 else hs3 j h1 (by omega)⟩,by omega⟩)
 refine Cv (Qe (Qe (Qx (Qc (Nz 1 ?_)))))
 exact Wd (Qc (Cr (out1 rfl rfl (Jac (by rw [Jba fun j h1 h2=>hs3 j h1 (by omega)])))))
theorem Jdw (s0:Sl Lit) (w:World) (hk:SlT cLit w s0) (g:Nat) (lb:List Value) (p:Lit→Bool) (hg:Ent Tryz.prog g)
  (hp:∀ u,Below w.heap.size w u→∀ i:Int,0≤i→i < s0.l.length→Calls Tryz.prog g ([.agg #[.int .i64 (nth s0.l i).t,.int .i64 (nth s0.l i).s,.bool (nth s0.l i).nt]]++lb:List Value).toArray u (RetB u (.bool (p (nth s0.l i))))) :
  Calls Tryz.prog 132 #[s0.v,.func (.func g) #[] lb.toArray] w (RetB w (.bool (s0.l.any p))):=by
 refine enter Tryz.func132 rfl rfl (Nat.le_of_ble_eq_true rfl) ?_
 refine Nz 1 ?_
 refine Wd (Qc (Nz 2 ?_))
 refine Wk 2 (Cb rfl rfl J4l (fun u hu=>Jtf s0 u (hk.st hu) g lb p hg (fun u2 h2=>hp u2 (Jav hu.below h2)))) ?_
 exact Wd (Qc (Cr (out1 rfl rfl (Jac (by rw [Jbu])))))
theorem Jt6 (s0:Sl Put) (w:World) (hk:SlT cPut w s0) (g:Nat) (lb:List Value) (p:Put→Bool) (hg:Ent Tryz.prog g)
  (hp:∀ u,Below w.heap.size w u→∀ i:Int,0≤i→i < s0.l.length→Calls Tryz.prog g ([.agg #[.int .i64 (nth s0.l i).t,.int .i64 (nth s0.l i).s]]++lb:List Value).toArray u (RetB u (.bool (p (nth s0.l i))))) :
  Calls Tryz.prog 192 #[s0.v,.func (.func g) #[] lb.toArray] w (RetB w (.int .i64 (idxF p s0.l))):=by
 have hl1:=hk.le
 refine enter Tryz.func192 rfl rfl (Nat.le_of_ble_eq_true rfl) ?_
 refine Nz 1 ?_
 refine Wd (Qc (Cs (Nz 1 ?_)))
 refine Wk 1 Nc ?_
 refine Wd (Qc (Ce ?_))
 refine CS.loopM (σ:=Int) [4,5,9,10,11,12,13,14,15,16,17,18] (fun s=>[(8,.int .i64 s)]) (fun _=>_) (fun s=>0≤s∧s≤s0.l.length∧∀ j:Int,0≤j→j < s→p (nth s0.l j)=false) (fun s=>(s0.l.length - s).toNat) 0 (fun _ _=>rfl) rfl rfl ⟨by omega,by omega,fun j h1 h2=>by omega⟩ ?_
 intro s t hs
 obtain ⟨hs1,hs2,hs3⟩:=hs
 refine Nz 1 ?_
 refine Wd (Qc (Cs (CS.cond rfl ?_ ?_)))<;>intro hc1<;>try simp only [bq] at hc1
 ·
  refine Ck (Qc (Cs (Ce (Nz 2 ?_))))
  refine Wd (Qc (Nz 3 ?_))
  refine Wk 0 Xc ?_
  refine Wk 0 Ua ?_
  refine Wk 0 (Cb rfl rfl hg (fun u hu=>hp u hu.below s (by omega) (by omega))) ?_
  refine Wd (Qc (CS.cond rfl ?_ ?_))<;>intro hc2<;>try simp only [bq] at hc2
  ·
   refine Nz 2 ?_
   exact Wd (Qc (Cr (Qs (Qr (Qr (Qs (Qr (out1 rfl rfl (Jac (by rw [Ja4 hs1 (by omega) hs3 hc2]))))))))))
  refine Ck (Qb (Qc (Ny 0 ?_)))
  refine Wk 1 Za ?_
  exact Wd (QS.head (s+1) rfl rfl ⟨⟨by omega,by omega,fun j h1 h2=>if hj:j=s then by rw [hj]; exact hc2 else hs3 j h1 (by omega)⟩,by omega⟩)
 refine Cv (Qe (Qe (Qx (Qc (Nz 1 ?_)))))
 exact Wd (Qc (Cr (out1 rfl rfl (Jac (by rw [Jba fun j h1 h2=>hs3 j h1 (by omega)])))))
theorem Jj9 (s0:Sl Put) (w:World) (hk:SlT cPut w s0) (g:Nat) (lb:List Value) (p:Put→Bool) (hg:Ent Tryz.prog g)
  (hp:∀ u,Below w.heap.size w u→∀ i:Int,0≤i→i < s0.l.length→Calls Tryz.prog g ([.agg #[.int .i64 (nth s0.l i).t,.int .i64 (nth s0.l i).s]]++lb:List Value).toArray u (RetB u (.bool (p (nth s0.l i))))) :
  Calls Tryz.prog 160 #[s0.v,.func (.func g) #[] lb.toArray] w (RetB w (.bool (s0.l.any p))):=by
 refine enter Tryz.func160 rfl rfl (Nat.le_of_ble_eq_true rfl) ?_
 refine Nz 1 ?_
 refine Wd (Qc (Nz 2 ?_))
 refine Wk 2 (Cb rfl rfl J12 (fun u hu=>Jt6 s0 u (hk.st hu) g lb p hg (fun u2 h2=>hp u2 (Jav hu.below h2)))) ?_
 exact Wd (Qc (Cr (out1 rfl rfl (Jac (by rw [Jbu])))))
theorem Jtw (s0:Sl Int) (w:World) (hk:SlT cInt w s0) (g:Nat) (lb:List Value) (p:Int→Bool) (hg:Ent Tryz.prog g)
  (hp:∀ u,Below w.heap.size w u→∀ i:Int,0≤i→i < s0.l.length→Calls Tryz.prog g ([.int .i64 (nth s0.l i)]++lb:List Value).toArray u (RetB u (.bool (p (nth s0.l i))))) :
  Calls Tryz.prog 191 #[s0.v,.func (.func g) #[] lb.toArray] w (RetB w (.int .i64 (idxF p s0.l))):=by
 have hl1:=hk.le
 have hki:=hk.ints
 refine enter Tryz.func191 rfl rfl (Nat.le_of_ble_eq_true rfl) ?_
 refine Nz 1 ?_
 refine Wd (Qc (Cs (Nz 1 ?_)))
 refine Wk 1 Na ?_
 refine Wd (Qc (Ce ?_))
 refine CS.loopM (σ:=Int) [4,5,9,10,11,12,13,14,15,16,17,18] (fun s=>[(8,.int .i64 s)]) (fun _=>_) (fun s=>0≤s∧s≤s0.l.length∧∀ j:Int,0≤j→j < s→p (nth s0.l j)=false) (fun s=>(s0.l.length - s).toNat) 0 (fun _ _=>rfl) rfl rfl ⟨by omega,by omega,fun j h1 h2=>by omega⟩ ?_
 intro s t hs
 obtain ⟨hs1,hs2,hs3⟩:=hs
 refine Nz 1 ?_
 refine Wd (Qc (Cs (CS.cond rfl ?_ ?_)))<;>intro hc1<;>try simp only [bq] at hc1
 ·
  refine Ck (Qc (Cs (Ce (Nz 2 ?_))))
  refine Wd (Qc (Nz 3 ?_))
  refine Wk 0 Xa ?_
  refine Wk 0 Ia ?_
  refine Wk 0 (Cb rfl rfl hg (fun u hu=>hp u hu.below s (by omega) (by omega))) ?_
  refine Wd (Qc (CS.cond rfl ?_ ?_))<;>intro hc2<;>try simp only [bq] at hc2
  ·
   refine Nz 2 ?_
   exact Wd (Qc (Cr (Qs (Qr (Qr (Qs (Qr (out1 rfl rfl (Jac (by rw [Ja4 hs1 (by omega) hs3 hc2]))))))))))
  refine Ck (Qb (Qc (Ny 0 ?_)))
  refine Wk 1 Za ?_
  exact Wd (QS.head (s+1) rfl rfl ⟨⟨by omega,by omega,fun j h1 h2=>if hj:j=s then by rw [hj]; exact hc2 else hs3 j h1 (by omega)⟩,by omega⟩)
 refine Cv (Qe (Qe (Qx (Qc (Nz 1 ?_)))))
 exact Wd (Qc (Cr (out1 rfl rfl (Jac (by rw [Jba fun j h1 h2=>hs3 j h1 (by omega)])))))
theorem Jdy (s0:Sl Int) (w:World) (hk:SlT cInt w s0) (g:Nat) (lb:List Value) (p:Int→Bool) (hg:Ent Tryz.prog g)
  (hp:∀ u,Below w.heap.size w u→∀ i:Int,0≤i→i < s0.l.length→Calls Tryz.prog g ([.int .i64 (nth s0.l i)]++lb:List Value).toArray u (RetB u (.bool (p (nth s0.l i))))) :
  Calls Tryz.prog 159 #[s0.v,.func (.func g) #[] lb.toArray] w (RetB w (.bool (s0.l.any p))):=by
 refine enter Tryz.func159 rfl rfl (Nat.le_of_ble_eq_true rfl) ?_
 refine Nz 1 ?_
 refine Wd (Qc (Nz 2 ?_))
 refine Wk 2 (Cb rfl rfl Jyw (fun u hu=>Jtw s0 u (hk.st hu) g lb p hg (fun u2 h2=>hp u2 (Jav hu.below h2)))) ?_
 exact Wd (Qc (Cr (out1 rfl rfl (Jac (by rw [Jbu])))))
end Go.Proofs.YtfbfdnoodccgiaaGreatDoor
