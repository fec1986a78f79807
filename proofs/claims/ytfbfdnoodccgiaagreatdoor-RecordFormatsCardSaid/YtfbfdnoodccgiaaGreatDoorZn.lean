/- Merged texts of this proof (walks and plain laws), printed by a program of the prover. -/
import Derived.Test.YtfbfdnoodccgiaaGreatDoorZb
import Derived.Test.YtfbfdnoodccgiaaGreatDoorZe
import Derived.Test.YtfbfdnoodccgiaaGreatDoorZi
set_option maxHeartbeats 8000000
namespace Go.Proofs.YtfbfdnoodccgiaaGreatDoor
open Go.RowKit Go.Proofs
set_option maxRecDepth 100000
set_option linter.unusedVariables false
set_option linter.unusedSimpArgs false
theorem Jct (n lo hi:Int) (w:World) :
  Calls Tryz.prog 85 #[.int .i64 n,.int .i64 lo,.int .i64 hi] w (RetB w (.bool (decide (lo≤n) && decide (n≤hi)))):=by
 refine enter Tryz.func85 rfl rfl (Nat.le_of_ble_eq_true rfl) ?_
 refine Nz 1 ?_
 refine Wd (Qc (Nz 4 ?_))
 refine Wt 0 rfl rfl (fun hg=>Fm) ?_
 refine Wt 0 rfl rfl (fun hg=>Fm) ?_
 refine Wt 0 rfl rfl (fun hg=>Fk) ?_
 refine Wk 1 Pa ?_
 exact Wd (Qc (Cr (out1 rfl rfl (Jac (by simp)))))
theorem J09 (c:Clue) (gv:Value) (w:World) (h1:SlI w gv c.g) :
  Calls Tryz.prog 130 #[.agg #[.int .i64 c.k,.int .i64 c.a,.int .i64 c.b,.int .i64 c.n,.int .i64 c.m,gv,.bool c.nt]] w (RetB w (.bool (Jrc c))):=by
 refine enter Tryz.func130 rfl rfl (Nat.le_of_ble_eq_true rfl) ?_
 refine Nz 0 ?_
 refine Wb 1 rfl rfl (fun _=>rfl) (fun _=>rfl) fun b1 hb1=>?_
 refine Wd (Qc (Nz 1 ?_))
 refine Wk 2 (Ba 0) ?_
 refine Wt 0 rfl rfl (fun hg=>Ff) ?_
 refine Wt 0 rfl rfl (fun hg=>Ba 0) ?_
 refine Wt 0 rfl rfl (fun hg=>Fq) ?_
 refine Wk 1 Pa ?_
 refine Wt 0 rfl rfl (fun hg=>Ff) ?_
 refine Wt 0 rfl rfl (fun hg=>Ba 0) ?_
 refine Wt 0 rfl rfl (fun hg=>Fq) ?_
 refine Wk 1 Pa ?_
 refine Wt 0 rfl rfl (fun hg=>Ff) ?_
 refine Wt 0 rfl rfl (fun hg=>Ba 0) ?_
 refine Wt 0 rfl rfl (fun hg=>Fq) ?_
 refine Wk 1 Pa ?_
 refine Wt 0 rfl rfl (fun hg=>Ff) ?_
 refine Wt 0 rfl rfl (fun hg=>Ba 0) ?_
 refine Wt 0 rfl rfl (fun hg=>Fq) ?_
 refine Wk 1 Pa ?_
 refine Wt 0 rfl rfl (fun hg=>Ff) ?_
 refine Wt 0 rfl rfl (fun hg=>Ba 0) ?_
 refine Wt 0 rfl rfl (fun hg=>Na (eg_ hg rfl)) ?_
 refine Wt 0 rfl rfl (fun hg=>Fq) ?_
 refine Wk 1 Pa ?_
 refine Wt 0 rfl rfl (fun hg=>Ff) ?_
 refine Wt 0 rfl rfl (fun hg=>Ba 0) ?_
 refine Wt 0 rfl rfl (fun hg=>Fn) ?_
 refine Wk 1 Pa ?_
 exact Wd (Qc (Cr (out1 rfl rfl (Jac (by unfold Jrc; simp only [Bool.and_assoc])))))
theorem Jdp {t:ByteArray} {x:ByteArray} (hx:x∈wordL) (h:seq t x=true):kwB t=true:=by
 unfold kwB
 rw [show (wordL.any fun y=>seq y t)=true from List.any_eq_true.2 ⟨x,hx,by rw [Jja]; exact h⟩]; rfl
theorem Jzx (tx:ByteArray) (w:World) (hm:(tx.size:Int)≤9223372036854775806) :
  Calls Tryz.prog 129 #[.string tx] w (RetB w (.bool (Jcc tx))):=by
 refine enter Tryz.func129 rfl rfl (Nat.le_of_ble_eq_true rfl) ?_
 refine Nz 1 ?_
 refine Wd (Qc (Cs (Nz 1 ?_)))
 refine Wd (Qc (Ce ?_))
 refine CS.cut (σ:=Bool) [6,7,8,9,10,11,12,13,14,15,16] (fun s=>[(5,.bool s)]) (fun s=>[]) (fun s=>s=kwB tx) (fun _ _=>rfl) ?_ ?_
 ·
  refine Nz 0 ?_
  refine Wk 1 (Jaw rfl rfl) ?_
  refine Wd (Qc (CS.cond rfl ?_ ?_))<;>intro hc1<;>try simp only [bq] at hc1
  ·
   exact Ck (QS.head (seq tx ⟨#[]⟩) rfl rfl (show seq tx ⟨#[]⟩=kwB tx by unfold kwB; rw [hc1]; simp))
  refine Nz 0 ?_
  refine Wk 1 (Jaw rfl rfl) ?_
  refine Wd (Qc (CS.cond rfl ?_ ?_))<;>intro hc2<;>try simp only [bq] at hc2
  ·
   exact Ck (QS.head (seq tx ⟨#[97,116]⟩) rfl rfl (hc2.trans (Jdp (x:=⟨#[97,116]⟩) (by simp [wordL]) hc2).symm))
  refine Nz 0 ?_
  refine Wk 1 (Jaw rfl rfl) ?_
  refine Wd (Qc (CS.cond rfl ?_ ?_))<;>intro hc3<;>try simp only [bq] at hc3
  ·
   exact Ck (QS.head (seq tx ⟨#[115,116,97,116,101,115]⟩) rfl rfl (hc3.trans (Jdp (x:=⟨#[115,116,97,116,101,115]⟩) (by simp [wordL]) hc3).symm))
  refine Nz 0 ?_
  refine Wk 1 (Jaw rfl rfl) ?_
  refine Wd (Qc (CS.cond rfl ?_ ?_))<;>intro hc4<;>try simp only [bq] at hc4
  ·
   exact Ck (QS.head (seq tx ⟨#[115,116,97,114,116]⟩) rfl rfl (hc4.trans (Jdp (x:=⟨#[115,116,97,114,116]⟩) (by simp [wordL]) hc4).symm))
  refine Nz 0 ?_
  refine Wk 1 (Jaw rfl rfl) ?_
  refine Wd (Qc (CS.cond rfl ?_ ?_))<;>intro hc5<;>try simp only [bq] at hc5
  ·
   exact Ck (QS.head (seq tx ⟨#[103,111,110,101]⟩) rfl rfl (hc5.trans (Jdp (x:=⟨#[103,111,110,101]⟩) (by simp [wordL]) hc5).symm))
  refine Nz 0 ?_
  refine Wk 1 (Jaw rfl rfl) ?_
  refine Wd (Qc (CS.cond rfl ?_ ?_))<;>intro hc6<;>try simp only [bq] at hc6
  ·
   exact Ck (QS.head (seq tx ⟨#[105,102]⟩) rfl rfl (hc6.trans (Jdp (x:=⟨#[105,102]⟩) (by simp [wordL]) hc6).symm))
  refine Nz 0 ?_
  refine Wk 1 (Jaw rfl rfl) ?_
  refine Wd (Qc (CS.cond rfl ?_ ?_))<;>intro hc7<;>try simp only [bq] at hc7
  ·
   exact Ck (QS.head (seq tx ⟨#[108,111,99,107]⟩) rfl rfl (hc7.trans (Jdp (x:=⟨#[108,111,99,107]⟩) (by simp [wordL]) hc7).symm))
  refine Nz 0 ?_
  refine Wk 1 (Jaw rfl rfl) ?_
  refine Wd (Qc (CS.cond rfl ?_ ?_))<;>intro hc8<;>try simp only [bq] at hc8
  ·
   exact Ck (QS.head (seq tx ⟨#[119,105,116,104]⟩) rfl rfl (hc8.trans (Jdp (x:=⟨#[119,105,116,104]⟩) (by simp [wordL]) hc8).symm))
  refine Nz 0 ?_
  refine Wk 1 (Jaw rfl rfl) ?_
  refine Wd (Qc (CS.cond rfl ?_ ?_))<;>intro hc9<;>try simp only [bq] at hc9
  ·
   exact Ck (QS.head (seq tx ⟨#[115,101,116,115]⟩) rfl rfl (hc9.trans (Jdp (x:=⟨#[115,101,116,115]⟩) (by simp [wordL]) hc9).symm))
  refine Nz 0 ?_
  refine Wk 1 (Jaw rfl rfl) ?_
  refine Wd (Qc (CS.cond rfl ?_ ?_))<;>intro hc10<;>try simp only [bq] at hc10
  ·
   exact Ck (QS.head (seq tx ⟨#[115,112,101,110,100,115]⟩) rfl rfl (hc10.trans (Jdp (x:=⟨#[115,112,101,110,100,115]⟩) (by simp [wordL]) hc10).symm))
  refine Ny 0 ?_
  refine Wk 1 (Jaw rfl rfl) ?_
  exact Wd (QS.head (seq tx ⟨#[98,114,105,110,103,115]⟩) rfl rfl (show seq tx ⟨#[98,114,105,110,103,115]⟩=kwB tx by unfold kwB; simp only [wordL,List.any_cons,List.any_nil,Jja _ tx,hc1,hc2,hc3,hc4,hc5,hc6,hc7,hc8,hc9,hc10,Bool.false_or,Bool.or_false]))
 intro s t hs
 refine CS.cond rfl (fun hc11=>?_) (fun hc11=>?_) <;> (try simp only [bq] at hc11)
 ·
  refine Nz 1 ?_
  exact Wd (Qc (Cr (Qs (Qr (out1 rfl rfl (Jac (by rw [Jfv, ← hs,hc11]; simp)))))))
 refine Ck (Qb (Qc (Cs (Nz 1 ?_))))
 refine Wk 1 (Jbe Tryz.underlying9 rfl) ?_
 refine Wd (Qc (Ce ?_))
 refine CS.loopM (σ:=Int) [2,3,20,21,22,23,24,25,26,27,28,29,30,31,32] (fun s=>[(19,.int .i64 s)]) (fun _=>_) (fun s=>0≤s∧s≤tx.size∧∀ j:Int,0≤j→j < s→97≤byt tx j∧byt tx j≤122) (fun s=>(tx.size - s).toNat) 0 (fun _ _=>rfl) rfl rfl ⟨by omega,by omega,fun j _ _=>by omega⟩ ?_
 intro q t hs
 obtain ⟨hs1,hs2,hs3⟩:=hs
 refine Nz 1 ?_
 refine Wd (Qc (Cs (CS.cond rfl ?_ ?_)))<;>intro hc12<;>try simp only [bq] at hc12
 ·
  refine Ck (Qc (Cs (Ce (Nz 2 ?_))))
  refine Wd (Qc (Nz 2 ?_))
  refine Wk 2 (Jcj Tryz.underlying9 rfl rfl (by omega) (by omega)) ?_
  refine Wf 0 rfl rfl (fun hg=>Fm) ?_
  refine Wf 0 rfl rfl (fun hg=>Fm) ?_
  refine Wf 0 rfl rfl (fun hg=>Jcj Tryz.underlying9 (eg_ hg rfl) (eg_ hg rfl) (by (try simp only [bq] at hg); omega) (by (try simp only [bq] at hg); omega)) ?_
  refine Wf 0 rfl rfl (fun hg=>Fg) ?_
  refine Wk 0 Po ?_
  refine Wd (Qc (CS.cond rfl ?_ ?_))<;>intro hc13<;>try simp only [bq] at hc13
  ·
   refine Nz 1 ?_
   exact Wd (Qc (Cr (Qs (Qr (Qr (Qs (Qr (out1 rfl rfl (Jac (by rw [Jfv,Jrr hs1 (by omega) (by omega)]; rfl))))))))))
  refine Ck (Qb (Qc (Ny 0 ?_)))
  refine Wk 1 Za ?_
  refine Wd ?_
  exact QS.head (q+1) rfl rfl ⟨⟨by omega,by omega,fun j h0 h1=>by
     rcases (show j < q∨j=q by omega) with h | h
     ·
      exact hs3 j h0 h
     rw [h]; omega⟩,by omega⟩
 refine Cv (Qe (Qe (Qx (Qc (Nz 1 ?_)))))
 exact Wd (Qc (Cr (out1 rfl rfl (Jac (by rw [Jfv, ← hs,hc11,Jou fun j h0 h1=>hs3 j h0 (by omega)]; rfl)))))
theorem Jrm (r:Room) (w:World) (hr:RoomOk w r) (x:Lit) (b:Nat) (e:TypeId) (hb:BlkAt w b [r.pls.v,r.ths.v,r.prs.v,r.wys.v,r.acs.v,r.aus.v,.int .i64 r.ply,r.gl.v] e) :
  Calls Tryz.prog 133 #[.agg #[.int .i64 x.t,.int .i64 x.s,.bool x.nt],.pointer (some ⟨b,0,none⟩)] w (RetB w (.bool (!putB r.ths.l x.t x.s))):=by
 have kpl:=hr.pls
 have lpl:=hr.pls.le
 have kth:=hr.ths
 have lth:=hr.ths.le
 have kpr:=hr.prs
 have lpr:=hr.prs.le
 have kwy:=hr.wys
 have lwy:=hr.wys.le
 have kac:=hr.acs
 have lac:=hr.acs.le
 have kau:=hr.aus
 have lau:=hr.aus.le
 have kgl:=hr.gl
 have lgl:=hr.gl.le
 refine enter Tryz.func133 rfl rfl (Nat.le_of_ble_eq_true rfl) ?_
 refine Nz 0 ?_
 refine Wb 1 rfl rfl (fun _=>rfl) (fun _=>rfl) fun b2 hb2=>?_
 refine Wd (Qc (Cs (Dr mixed 1 ?_)))
 refine Dk 1 (Ba 0) ?_
 refine Dk 0 Ga ?_
 refine Dk 0 Nc ?_
 refine Dk 0 Zb ?_
 refine Dk 2 (Cb rfl rfl Jld (fun u hu=>Jct _ _ _ u)) ?_
 refine Df 0 rfl rfl (fun hg=>Ff) ?_
 refine Df 0 rfl rfl (fun hg=>Ba 0) ?_
 refine Df 0 rfl rfl (fun hg=>Ff) ?_
 refine Df 0 rfl rfl (fun hg=>Ga) ?_
 refine Df 0 rfl rfl (fun hg=>Ff) ?_
 refine Df 0 rfl rfl (fun hg=>Ba 0) ?_
 refine Df 0 rfl rfl (fun hg=>Xc (eg_ hg rfl)) ?_
 refine Df 0 rfl rfl (fun hg=>Ff) ?_
 refine Df 0 rfl rfl (fun hg=>Uc 4 2) ?_
 refine Df 0 rfl rfl (fun hg=>Jn4 (eg_ hg rfl) rfl) ?_
 refine Df 0 rfl rfl (fun hg=>Cb rfl (ec_ (eg_ hg rfl) (ec_ rfl (ec_ (eg_ hg rfl) en_))) Jld (fun u hu=>Jct _ _ _ u)) ?_
 refine Df 0 rfl rfl (fun hg=>Fn) ?_
 refine Dk 1 Po ?_
 exact Dd (Qc (Cr (out1 rfl rfl (Jac (by unfold putB; simp only [Bool.not_and])))))
theorem Jxf (r:Room) (w:World) (hr:RoomOk w r) (c:Sl Lit) (hk:SlT cLit w c) :
  Calls Tryz.prog 84 #[.agg #[r.pls.v,r.ths.v,r.prs.v,r.wys.v,r.acs.v,r.aus.v,.int .i64 r.ply,r.gl.v],c.v] w (RetB w (.bool (Jev r.ths.l c.l))):=by
 have lcs:=hk.le
 refine enter Tryz.func84 rfl rfl (Nat.le_of_ble_eq_true rfl) ?_
 refine Nz 0 ?_
 refine Wb 1 rfl rfl (fun _=>rfl) (fun _=>rfl) fun b2 hb2=>?_
 refine Wd (Qc (Nz 1 ?_))
 refine Wk 2 Nc ?_
 refine Wt 0 rfl rfl (fun hg=>Fm) ?_
 refine Wt 0 rfl rfl (fun hg=>Jai rfl) ?_
 refine Wt 0 rfl rfl (fun hg=>Cb rfl (ec_ (eg_ hg rfl) (ec_ (eg_ hg rfl) en_)) Jsm (fun u hu=>Jdw c u (hk.st hu) _ [.pointer (some ⟨b2,0,none⟩)] (fun x => !putB r.ths.l x.t x.s) J38 (fun u2 h2 i h0 h1=>Jrm r u2 ((hr.st hu).ext h2) _ _ _ ((Jap hu (j:=0) rfl).ext h2)))) ?_
 refine Wt 0 rfl rfl (fun hg=>Fn) ?_
 refine Wk 1 Pa ?_
 exact Wd (Qc (Cr (out1 rfl rfl (Jac (by unfold Jev; rw [Bool.and_comm]; congr 1; simp [List.all_eq_not_any_not])))))
theorem Jq4 (s0:Sl NoteD) (w:World) (hk:SlT cNote w s0) (g:Nat) (lb:List Value) (p:NoteD→Bool) (hg:Ent Tryz.prog g)
  (hp:∀ u,Below w.heap.size w u→∀ i:Int,0≤i→i < s0.l.length→Calls Tryz.prog g ([.agg #[.string (nth s0.l i).nm,.int .i64 (nth s0.l i).pl,.int .i64 (nth s0.l i).lk,(nth s0.l i).wh.v,.int .i64 (nth s0.l i).cl.k,.int .i64 (nth s0.l i).cl.a,.int .i64 (nth s0.l i).cl.b,.int .i64 (nth s0.l i).cl.n,.int .i64 (nth s0.l i).cl.m,(nth s0.l i).gv,.bool (nth s0.l i).cl.nt]]++lb:List Value).toArray u (RetB u (.bool (p (nth s0.l i))))) :
  Calls Tryz.prog 165 #[s0.v,.func (.func g) #[] lb.toArray] w (RetB w (.int .i64 (idxF p s0.l))):=by
 have hl1:=hk.le
 refine enter Tryz.func165 rfl rfl (Nat.le_of_ble_eq_true rfl) ?_
 refine Nz 1 ?_
 refine Wd (Qc (Cs (Nz 1 ?_)))
 refine Wk 1 Nc ?_
 refine Wd (Qc (Ce ?_))
 refine CS.loopM (σ:=Int) [4,5,9,10,11,12,13,14,15,16,17,18] (fun s=>[(8,.int .i64 s)]) (fun _=>_) (fun s=>0≤s∧s≤s0.l.length∧∀ j:Int,0≤j→j < s→p (nth s0.l j)=false) (fun s=>(s0.l.length - s).toNat) 0 (fun _ _=>rfl) rfl rfl ⟨by omega,by omega,fun j h1 h2=>by omega⟩ ?_
 intro s t hs
 obtain ⟨hs1,hs2,hs3⟩:=hs
 refine Nz 1 ?_
 refine Wd (Qc (Cs (CS.cond rfl ?_ ?_)))<;>intro hc1<;>try simp only [bq] at hc1
 ·
  refine Ck (Qc (Cs (Ce (Nz 2 ?_))))
  refine Wd (Qc (Nz 3 ?_))
  refine Wk 0 Xc ?_
  refine Wk 0 Ua ?_
  refine Wk 0 (Cb rfl rfl hg (fun u hu=>hp u hu.below s (by omega) (by omega))) ?_
  refine Wd (Qc (CS.cond rfl ?_ ?_))<;>intro hc2<;>try simp only [bq] at hc2
  ·
   refine Nz 2 ?_
   exact Wd (Qc (Cr (Qs (Qr (Qr (Qs (Qr (out1 rfl rfl (Jac (by rw [Ja4 hs1 (by omega) hs3 hc2]))))))))))
  refine Ck (Qb (Qc (Ny 0 ?_)))
  refine Wk 1 Za ?_
  exact Wd (QS.head (s+1) rfl rfl ⟨⟨by omega,by omega,fun j h1 h2=>if hj:j=s then by rw [hj]; exact hc2 else hs3 j h1 (by omega)⟩,by omega⟩)
 refine Cv (Qe (Qe (Qx (Qc (Nz 1 ?_)))))
 exact Wd (Qc (Cr (out1 rfl rfl (Jac (by rw [Jba fun j h1 h2=>hs3 j h1 (by omega)])))))
theorem Jjz (s0:Sl NoteD) (w:World) (hk:SlT cNote w s0) (g:Nat) (lb:List Value) (p:NoteD→Bool) (hg:Ent Tryz.prog g)
  (hp:∀ u,Below w.heap.size w u→∀ i:Int,0≤i→i < s0.l.length→Calls Tryz.prog g ([.agg #[.string (nth s0.l i).nm,.int .i64 (nth s0.l i).pl,.int .i64 (nth s0.l i).lk,(nth s0.l i).wh.v,.int .i64 (nth s0.l i).cl.k,.int .i64 (nth s0.l i).cl.a,.int .i64 (nth s0.l i).cl.b,.int .i64 (nth s0.l i).cl.n,.int .i64 (nth s0.l i).cl.m,(nth s0.l i).gv,.bool (nth s0.l i).cl.nt]]++lb:List Value).toArray u (RetB u (.bool (p (nth s0.l i))))) :
  Calls Tryz.prog 127 #[s0.v,.func (.func g) #[] lb.toArray] w (RetB w (.bool (s0.l.any p))):=by
 refine enter Tryz.func127 rfl rfl (Nat.le_of_ble_eq_true rfl) ?_
 refine Nz 1 ?_
 refine Wd (Qc (Nz 2 ?_))
 refine Wk 2 (Cb rfl rfl J1b (fun u hu=>Jq4 s0 u (hk.st hu) g lb p hg (fun u2 h2=>hp u2 (Jav hu.below h2)))) ?_
 exact Wd (Qc (Cr (out1 rfl rfl (Jac (by rw [Jbu])))))
theorem Jq9 (x y:NoteD) (w:World) (b:Nat) (e:TypeId) (hb:BlkAt w b [.string y.nm,.int .i64 y.pl,.int .i64 y.lk,y.wh.v,.int .i64 y.cl.k,.int .i64 y.cl.a,.int .i64 y.cl.b,.int .i64 y.cl.n,.int .i64 y.cl.m,y.gv,.bool y.cl.nt] e) :
  Calls Tryz.prog 128 #[.agg #[.string x.nm,.int .i64 x.pl,.int .i64 x.lk,x.wh.v,.int .i64 x.cl.k,.int .i64 x.cl.a,.int .i64 x.cl.b,.int .i64 x.cl.n,.int .i64 x.cl.m,x.gv,.bool x.cl.nt],.pointer (some ⟨b,0,none⟩)] w (RetB w (.bool (seq x.nm y.nm))):=by
 refine enter Tryz.func128 rfl rfl (Nat.le_of_ble_eq_true rfl) ?_
 refine Nz 0 ?_
 refine Wb 1 rfl rfl (fun _=>rfl) (fun _=>rfl) fun b2 hb2=>?_
 refine Wd (Qc (Nz 1 ?_))
 refine Wk 1 (Ba 0) ?_
 refine Wk 0 Ga ?_
 refine Wk 1 (Jaw rfl rfl) ?_
 exact Wd (Qc (Cr (out1 rfl rfl retB)))
theorem Jte (G:Game) (w:World) (hk:SlT cNote w G.nts) (i:Int) (h0:0≤i) (h1:i < G.nts.l.length) (b:Nat) (e:TypeId) (hb:BlkAt w b [.string (nth G.nts.l i).nm,.int .i64 (nth G.nts.l i).pl,.int .i64 (nth G.nts.l i).lk,(nth G.nts.l i).wh.v,.int .i64 (nth G.nts.l i).cl.k,.int .i64 (nth G.nts.l i).cl.a,.int .i64 (nth G.nts.l i).cl.b,.int .i64 (nth G.nts.l i).cl.n,.int .i64 (nth G.nts.l i).cl.m,(nth G.nts.l i).gv,.bool (nth G.nts.l i).cl.nt] e) :
  Calls Tryz.prog 127 #[(G.nts.cut 11 0 i.toNat).v,.func (.func 128) #[] #[.pointer (some ⟨b,0,none⟩)]] w (RetB w (.bool (!newB NoteD.nm G.nts.l i))):=by
 have q:=Jjz (G.nts.cut 11 0 i.toNat) w (hk.cut (by omega) (by omega)) _ [.pointer (some ⟨b,0,none⟩)] (fun x=>seq x.nm (nth G.nts.l i).nm) J2c (fun u2 h2 j a0 a1=>Jq9 _ (nth G.nts.l i) u2 b e (hb.ext h2))
 have e1:(!newB NoteD.nm G.nts.l i)=((G.nts.cut 11 0 i.toNat).l.any fun x=>seq x.nm (nth G.nts.l i).nm):=by unfold newB; rw [Bool.not_not]; rfl
 rw [e1]; exact q
theorem Jz2 (G:Game) (w:World) (hG:GameOk w G) (hn:NearG G) (hl:G.cds.l.length=G.lks.l.length) (hC:∀ j:Int,0≤j→j < G.lks.l.length→Jga (nth G.lks.l j).w (nth G.lks.l j).s (nth G.cds.l j).l=0) (i:Int) (h0:0≤i) (h1:i < G.nts.l.length) :
  Calls Tryz.prog 83 #[.agg #[G.rm.pls.v,G.rm.ths.v,G.rm.prs.v,G.rm.wys.v,G.rm.acs.v,G.rm.aus.v,.int .i64 G.rm.ply,G.rm.gl.v,G.lks.v,G.cds.v,G.nts.v,.int .i64 G.tr],.int .i64 i,.agg #[.string (nth G.nts.l i).nm,.int .i64 (nth G.nts.l i).pl,.int .i64 (nth G.nts.l i).lk,(nth G.nts.l i).wh.v,.int .i64 (nth G.nts.l i).cl.k,.int .i64 (nth G.nts.l i).cl.a,.int .i64 (nth G.nts.l i).cl.b,.int .i64 (nth G.nts.l i).cl.n,.int .i64 (nth G.nts.l i).cl.m,(nth G.nts.l i).gv,.bool (nth G.nts.l i).cl.nt]] w (RetB w (.bool (ntG G i))):=by
 have klk:=hG.lks
 have llk:=hG.lks.le
 have kcd:=hG.cds
 have lcd:=hG.cds.le
 have knt:=hG.nts
 have lnt:=hG.nts.le
 have kpl:=hG.rm.pls
 have lpl:=hG.rm.pls.le
 have kth:=hG.rm.ths
 have lth:=hG.rm.ths.le
 have kac:=hG.rm.acs
 have lac:=hG.rm.acs.le
 have hnt:cNote.ok w (nth G.nts.l i):=knt.at h0 h1
 have hnm:=(hn.nt _ (Jaj h0 h1)).1
 refine enter Tryz.func83 rfl rfl (Nat.le_of_ble_eq_true rfl) ?_
 refine Nz 0 ?_
 refine Wb 0 rfl rfl (fun _=>rfl) (fun _=>rfl) fun b3 hb3=>?_
 refine Wb 1 rfl rfl (fun _=>rfl) (fun _=>rfl) fun b5 hb5=>?_
 refine Wd (Qc (Nz 1 ?_))
 refine Wk 1 (Ba 1) ?_
 refine Wk 0 (Jdi sl46 rfl rfl (by first | assumption | exact SlL.sp (by assumption) | exact ClS.sp (by assumption) | exact SlT.sp (by assumption)) (by omega) (by omega)) ?_
 refine Wk 0 (Jai rfl) ?_
 refine Wk 1 (Cb rfl rfl J2r (fun u hu=>Jte G u (knt.st hu) i h0 h1 b5 _ (Jap hu (j:=0) rfl))) ?_
 refine Wd (Qc (Cs (Nz 1 ?_)))
 refine Wk 0 (Ba 0) ?_
 refine Wk 2 (Cb rfl rfl J2h (fun u hu=>Jzx _ u (by omega))) ?_
 refine Wf 0 rfl rfl (fun hg=>Ff) ?_
 refine Wf 0 rfl rfl (fun hg=>Ba 0) ?_
 refine Wf 0 rfl rfl (fun hg=>Jbe Tryz.underlying9 (eg_ hg rfl)) ?_
 refine Wf 0 rfl rfl (fun hg=>Fg) ?_
 refine Wk 1 Po ?_
 refine Wf 0 rfl rfl (fun hg=>Fm) ?_
 refine Wk 1 Po ?_
 refine Wf 0 rfl rfl (fun hg=>Ff) ?_
 refine Wf 0 rfl rfl (fun hg=>Ba 0) ?_
 refine Wf 0 rfl rfl (fun hg=>Ff) ?_
 refine Wf 0 rfl rfl (fun hg=>Ff) ?_
 refine Wf 0 rfl rfl (fun hg=>Ba 1) ?_
 refine Wf 0 rfl rfl (fun hg=>Nc (eg_ hg rfl)) ?_
 refine Wf 0 rfl rfl (fun hg=>Zb) ?_
 refine Wf 0 rfl rfl (fun hg=>Cb rfl (ec_ (eg_ hg rfl) (ec_ rfl (ec_ (eg_ hg rfl) en_))) Jld (fun u hu=>Jct _ _ _ u)) ?_
 refine Wf 0 rfl rfl (fun hg=>Fn) ?_
 refine Wk 1 Po ?_
 refine Wf 0 rfl rfl (fun hg=>Ff) ?_
 refine Wf 0 rfl rfl (fun hg=>Ba 0) ?_
 refine Wf 0 rfl rfl (fun hg=>Ff) ?_
 refine Wf 0 rfl rfl (fun hg=>Ba 1) ?_
 refine Wf 0 rfl rfl (fun hg=>Nc (eg_ hg rfl)) ?_
 refine Wf 0 rfl rfl (fun hg=>Zb) ?_
 refine Wf 0 rfl rfl (fun hg=>Cb rfl (ec_ (eg_ hg rfl) (ec_ rfl (ec_ (eg_ hg rfl) en_))) Jld (fun u hu=>Jct _ _ _ u)) ?_
 refine Wf 0 rfl rfl (fun hg=>Fn) ?_
 refine Wk 0 Po ?_
 refine Wd (Qc (CS.cond rfl ?_ ?_))<;>intro hc1<;>try simp only [bq] at hc1
 ·
  refine Nz 1 ?_
  exact Wd (Qc (Cr (Qr (out1 rfl rfl (Jac (by rw [show ntG G i=false by (unfold ntG Jax placeB; grind)]))))))
 have e1:ntG G i=Jsx G (nth G.nts.l i):=by (unfold ntG Jax placeB; grind)
 refine Ck (Qc (Cs (Nz 1 ?_)))
 refine Wk 1 (Ba 0) ?_
 refine Wd (Qc (CS.cond rfl ?_ ?_))<;>intro hc2<;>try simp only [bq] at hc2
 ·
  refine Nz 1 ?_
  refine Wk 0 (Bc 0) ?_
  refine Wk 1 (Cb rfl rfl J24 (fun u hu=>J09 _ _ u (hnt.2.st hu))) ?_
  exact Wd (Qc (Cr (Qr (out1 rfl rfl (Jac (by rw [e1,Jo6 (by omega)]))))))
 have hcode:=hC (nth G.nts.l i).lk (by omega) (by omega)
 have hcd:SlI w (nth G.cds.l (nth G.nts.l i).lk).v (nth G.cds.l (nth G.nts.l i).lk).l:=(kcd.at (i:=(nth G.nts.l i).lk) (by omega) (by omega):SlT cInt w _).ints
 refine Ck (Qc (Cs (Dr mixed 1 ?_)))
 refine Dk 1 (Ba 1) ?_
 refine Dk 0 (Ba 0) ?_
 refine Dk 0 Xc ?_
 refine Dk 1 Ua ?_
 refine Dk 1 (Bc 0) ?_
 refine Dk 1 (Ba 1) ?_
 refine Dk 0 (Ba 0) ?_
 refine Dk 0 Xc ?_
 refine Dk 0 Ub ?_
 refine Dk 5 (Cb rfl rfl J2b (fun u hu=>Jz7 _ _ _ _ _ _ u (hnt.2.st hu) (hcd.st hu))) ?_
 refine Dd (Qc (Nz 3 ?_))
 refine Wt 0 rfl rfl (fun hg=>Fm) ?_
 refine Wk 1 Pa ?_
 exact Wd (Qc (Cr (out1 rfl rfl (Jac (by rw [e1,Jhz (by omega),Jmt hcode]; by_cases hz:Jd7 (nth G.lks.l (nth G.nts.l i).lk).w (nth G.lks.l (nth G.nts.l i).lk).s (nth G.nts.l i).cl=0 <;> simp [hz])))))
theorem Jlb (G:Game) (w:World) (hG:GameOk w G) (g:Sl ByteArray) (hW:GOk w g) (hn:NearG G) :
  Calls Tryz.prog 55 #[.agg #[G.rm.pls.v,G.rm.ths.v,G.rm.prs.v,G.rm.wys.v,G.rm.acs.v,G.rm.aus.v,.int .i64 G.rm.ply,G.rm.gl.v,G.lks.v,G.cds.v,G.nts.v,.int .i64 G.tr]] w (RetB w (.int .i64 (Jbl G.p))):=by
 have klk:=hG.lks
 have llk:=hG.lks.le
 have kcd:=hG.cds
 have lcd:=hG.cds.le
 have knt:=hG.nts
 have lnt:=hG.nts.le
 have kpl:=hG.rm.pls
 have lpl:=hG.rm.pls.le
 have kth:=hG.rm.ths
 have lth:=hG.rm.ths.le
 have kac:=hG.rm.acs
 have lac:=hG.rm.acs.le
 refine enter Tryz.func55 rfl rfl (Nat.le_of_ble_eq_true rfl) ?_
 refine Nz 0 ?_
 refine Wb 1 rfl rfl (fun _=>rfl) (fun _=>rfl) fun b1 hb1=>?_
 refine Wd (Qc (Cs (Nz 1 ?_)))
 refine Wk 0 (Bc 0) ?_
 refine Wk 1 (Cb rfl rfl J0s (fun u hu=>Jiu G.rm u (hG.rm.st hu) g (hW.st hu) hn.rm)) ?_
 refine Wd (Qc (Nz 2 ?_))
 refine Wd (Qc (CS.cond rfl ?_ ?_))<;>intro hc1<;>try simp only [bq] at hc1
 ·
  refine Nz 2 ?_
  exact Wd (Qc (Cr (Qr (out1 rfl rfl (Jac (by rw [Jgp,Jcr rfl hc1]))))))
 have e1:Jbl G.p=gck1 G.p:=by rw [Jgp,Jb4 hc1]
 refine Ck (Qc (Cs (Nz 1 ?_)))
 refine Wk 0 (Ba 0) ?_
 refine Wk 2 Nc ?_
 refine Wf 0 rfl rfl (fun hg=>Ff) ?_
 refine Wf 0 rfl rfl (fun hg=>Ba 0) ?_
 refine Wf 0 rfl rfl (fun hg=>Nc (eg_ hg rfl)) ?_
 refine Wf 0 rfl rfl (fun hg=>Fg) ?_
 refine Wk 0 Po ?_
 refine Wd (Qc (CS.cond rfl ?_ ?_))<;>intro hc2<;>try simp only [bq] at hc2
 ·
  refine Nz 1 ?_
  exact Wd (Qc (Cr (Qr (out1 rfl rfl (Jac (by rw [e1,Jq2,if_pos (by simp only [Bool.or_eq_true,decide_eq_true_eq]; omega)]))))))
 have e2:Jbl G.p=gck2 G.p:=by rw [e1,Jq2,if_neg (by simp only [Bool.or_eq_true,decide_eq_true_eq]; omega)]
 refine Ck (Qc (Cs (Nz 1 ?_)))
 refine Wk 0 (Ba 0) ?_
 refine Wk 1 Nc ?_
 refine Wd (Qc (Ce ?_))
 refine CS.loopM (σ:=Int) [2,5,6,33,34,35,36,37,38,39,40,41] (fun s=>[(32,.int .i64 s)]) (fun _=>_) (fun s=>0≤s∧s≤G.lks.l.length∧∀ j:Int,0≤j→j < s→lkO G.p j=0) (fun s=>(G.lks.l.length - s).toNat) 0 (fun _ _=>rfl) rfl rfl ⟨by omega,by omega,fun j _ _=>by omega⟩ ?_
 intro a t hs
 obtain ⟨ha1,ha2,ha3⟩:=hs
 refine Nz 1 ?_
 refine Wd (Qc (Cs (CS.cond rfl ?_ ?_)))<;>intro hc3<;>try simp only [bq] at hc3
 ·
  refine Ck (Qc (Cs (Ce (Nz 0 ?_))))
  refine Wk 0 Xc ?_
  refine Wk 0 Ua ?_
  refine Wl 0 Jvb (fun _=>rfl) (fun _=>rfl) fun b5 hb5=>?_
  refine Wv 0 0 ?_
  refine Wd (Qc (Nz 0 ?_))
  refine Wk 0 (Bb 0) ?_
  refine Wk 1 (Cb rfl rfl Jwj (fun u hu=>Ji5 _ _ u)) ?_
  refine Wd (Qc (Nz 2 ?_))
  refine Wd (Qc (CS.cond rfl ?_ ?_))<;>intro hc4<;>try simp only [bq] at hc4
  ·
   refine Nz 2 ?_
   exact Wd (Qc (Cr (Qs (Qr (Qr (Qs (Qr (out1 rfl rfl (Jac (by rw [e2,Jtk,Jcr (Jaq (f:=lkO G.p) ha1 (by omega) ha3 hc4) hc4]; rfl))))))))))
  refine Ck (Qb (Qc (Ny 0 ?_)))
  refine Wk 1 Za ?_
  refine Wd ?_
  refine QS.sel [1] rfl ?_
  exact QS.head (a+1) rfl rfl ⟨⟨by omega,by omega,fun j h0 h1=>by
     rcases (show j < a∨j=a by omega) with h | h
     ·
      exact ha3 j h0 h
     rw [h]; exact hc4⟩,by omega⟩
 have e3:Jbl G.p=gck3 G.p:=by rw [e2,Jtk,Jb4 (Jao fun j a b=>ha3 j a (by omega))]
 refine Cv (Qe (Qe (Qx (Qc (Cs (Nz 1 ?_))))))
 refine Wk 0 (Ba 0) ?_
 refine Wk 1 Nc ?_
 refine Wk 0 (Ba 0) ?_
 refine Wk 1 Nc ?_
 refine Wd (Qc (CS.cond rfl ?_ ?_))<;>intro hc5<;>try simp only [bq] at hc5
 ·
  refine Nz 1 ?_
  exact Wd (Qc (Cr (Qr (out1 rfl rfl (Jac (by rw [e3,Jt3,if_neg (by omega)]))))))
 have hl:G.cds.l.length=G.lks.l.length:=by omega
 have e4:Jbl G.p=or0 (Jaz (cdO G.p) G.lks.l.length) (gck4 G.p):=by rw [e3,Jt3,if_pos hl]
 refine Ck (Qc (Cs (Nz 1 ?_)))
 refine Wk 0 (Ba 0) ?_
 refine Wk 1 Nc ?_
 refine Wd (Qc (Ce ?_))
 refine CS.loopM (σ:=Int) [2,7,8,53,54,55,56,57,58,59,60,61,62,63,64,65] (fun s=>[(52,.int .i64 s)]) (fun _=>_) (fun s=>0≤s∧s≤G.lks.l.length∧∀ j:Int,0≤j→j < s→cdO G.p j=0) (fun s=>(G.lks.l.length - s).toNat) 0 (fun _ _=>rfl) rfl rfl ⟨by omega,by omega,fun j _ _=>by omega⟩ ?_
 intro b t hs
 obtain ⟨hb1,hb2,hb3⟩:=hs
 refine Nz 1 ?_
 refine Wd (Qc (Cs (CS.cond rfl ?_ ?_)))<;>intro hc6<;>try simp only [bq] at hc6
 ·
  have hcd:SlI w (nth G.cds.l b).v (nth G.cds.l b).l:=(kcd.at hb1 (by omega):SlT cInt w _).ints
  refine Ck (Qc (Cs (Ce (Nz 1 ?_))))
  refine Wk 0 Xc ?_
  refine Wk 0 Ua ?_
  refine Wl 1 Jvb (fun _=>rfl) (fun _=>rfl) fun b8 hb8=>?_
  refine Wv 0 0 ?_
  refine Wd (Qc (Cs (Dr mixed 0 ?_)))
  refine Dk 1 (Bb 0) ?_
  refine Dk 1 (Ba 1) ?_
  refine Dk 0 Xc ?_
  refine Dk 0 Ub ?_
  refine Dk 1 (Cb rfl rfl J2t (fun u hu=>Jg5 _ _ _ _ u (hcd.st hu))) ?_
  refine Dd (Qc (CS.cond rfl ?_ ?_))<;>intro hc7<;>try simp only [bq] at hc7
  ·
   refine Nz 1 ?_
   refine Wd (Qc (Cr (Qs (Qr (Qr (Qs (Qr ?_)))))))
   exact out1 rfl rfl (Jac (by
      have hE:cdO G.p b=12:=by rw [Jve,if_neg hc7]
      rw [e4,Jcr ((Jaq (f:=cdO G.p) hb1 (by omega) hb3 (by rw [hE]; decide)).trans hE) (by decide)]))
  refine Ck (Qb (Qc (Ny 0 ?_)))
  refine Wk 1 Za ?_
  refine Wd ?_
  refine QS.sel [1] rfl ?_
  exact QS.head (b+1) rfl rfl ⟨⟨by omega,by omega,fun j h0 h1=>by
     rcases (show j < b∨j=b by omega) with h | h
     ·
      exact hb3 j h0 h
     rw [h]; exact (by rw [Jve,if_pos hc7])⟩,by omega⟩
 have e5:Jbl G.p=gck4 G.p:=by rw [e4,Jb4 (Jao fun j a b=>hb3 j a (by omega))]
 have hC:∀ j:Int,0≤j→j < G.lks.l.length→Jga (nth G.lks.l j).w (nth G.lks.l j).s (nth G.cds.l j).l=0:=fun j a b=>by
    have q:=hb3 j a (by omega)
    rw [Jve] at q
    split at q
    ·
     assumption
    cases q
 refine Cv (Qe (Qe (Qx (Qc (Cs (Nz 2 ?_))))))
 refine Wk 0 (Ba 0) ?_
 refine Wk 1 Nc ?_
 refine Wd (Qc (Ce ?_))
 refine CS.loopM (σ:=Int) [2,10,71,72,73,74,75,76,77,78,79,80] (fun s=>[(70,.int .i64 s)]) (fun _=>_) (fun s=>0≤s∧s≤G.rm.acs.l.length∧∀ j:Int,0≤j→j < s→alO G.p j=0) (fun s=>(G.rm.acs.l.length - s).toNat) 0 (fun _ _=>rfl) rfl rfl ⟨by omega,by omega,fun j _ _=>by omega⟩ ?_
 intro k t hs
 obtain ⟨hk1,hk2,hk3⟩:=hs
 refine Nz 1 ?_
 refine Wd (Qc (Cs (CS.cond rfl ?_ ?_)))<;>intro hc8<;>try simp only [bq] at hc8
 ·
  have hak:cAct.ok w (nth G.rm.acs.l k):=kac.at hk1 (by omega)
  refine Ck (Qc (Cs (Ce (Nz 0 ?_))))
  refine Wk 0 Xc ?_
  refine Wk 0 Ua ?_
  refine Wl 0 Jmn (fun _=>rfl) (fun _=>rfl) fun b10 hb10=>?_
  refine Wv 0 0 ?_
  refine Wd (Qc (Nz 1 ?_))
  refine Wk 1 (Ba 0) ?_
  refine Wk 0 (Ba 1) ?_
  refine Wk 1 Nc ?_
  refine Wd (Qc (CS.cond rfl ?_ ?_))<;>intro hc9<;>try simp only [bq] at hc9
  ·
   refine Nz 1 ?_
   refine Wd (Qc (Cr (Qs (Qr (Qr (Qs (Qr ?_)))))))
   exact out1 rfl rfl (Jac (by
      have hE:alO G.p k=26:=by rw [Jzo,if_neg (by omega)]
      rw [e5,Jrk,Jcr ((Jaq (f:=alO G.p) hk1 (by omega) hk3 (by rw [hE]; decide)).trans hE) (by decide)]))
  refine Ck (Qb (Qc (Ny 0 ?_)))
  refine Wk 1 Za ?_
  refine Wd ?_
  refine QS.sel [1] rfl ?_
  exact QS.head (k+1) rfl rfl ⟨⟨by omega,by omega,fun j h0 h1=>by
     rcases (show j < k∨j=k by omega) with h | h
     ·
      exact hk3 j h0 h
     rw [h]; exact (by rw [Jzo,if_pos (by omega)])⟩,by omega⟩
 have e6:Jbl G.p=gck5 G.p:=by rw [e5,Jrk,Jb4 (Jao fun j a b=>hk3 j a (by omega))]
 refine Cv (Qe (Qe (Qx (Qc (Cs (Nz 1 ?_))))))
 refine Wk 0 (Ba 0) ?_
 refine Wk 1 Nc ?_
 refine Wd (Qc (Ce ?_))
 refine CS.loopM (σ:=Int) [2,11,12,85,86,87,88,89,90,91,92,93,94,95,96,97,98,99,100] (fun s=>[(84,.int .i64 s)]) (fun _=>_) (fun s=>0≤s∧s≤G.nts.l.length∧∀ j:Int,0≤j→j < s→ntO G.p j=0) (fun s=>(G.nts.l.length - s).toNat) 0 (fun _ _=>rfl) rfl rfl ⟨by omega,by omega,fun j _ _=>by omega⟩ ?_
 intro m t hs
 obtain ⟨hm1,hm2,hm3⟩:=hs
 refine Nz 1 ?_
 refine Wd (Qc (Cs (CS.cond rfl ?_ ?_)))<;>intro hc10<;>try simp only [bq] at hc10
 ·
  have hnt:cNote.ok w (nth G.nts.l m):=knt.at hm1 (by omega)
  have hwh:SlT cLit w (nth G.nts.l m).wh:=hnt.1
  refine Ck (Qc (Cs (Ce (Nz 1 ?_))))
  refine Wk 0 Xc ?_
  refine Wk 0 Ua ?_
  refine Wl 1 Jly (fun _=>rfl) (fun _=>rfl) fun b12 hb12=>?_
  refine Wv 0 0 ?_
  refine Wd (Qc (Cs (Nz 0 ?_)))
  refine Wk 1 (Bb 1) ?_
  refine Wk 0 (Bb 0) ?_
  refine Wk 1 (Cb rfl rfl J5h (fun u hu=>Jz2 G u (hG.st hu) hn hl hC _ hm1 (by omega))) ?_
  refine Wd (Qc (CS.cond rfl ?_ ?_))<;>intro hc11<;>try simp only [bq] at hc11
  ·
   refine Nz 1 ?_
   refine Wd (Qc (Cr (Qr (Qs (Qr (Qr (Qs (Qr ?_))))))))
   exact out1 rfl rfl (Jac (by
      have hE:ntO G.p m=40:=by rw [Jxp,if_neg (by rw [hc11]; decide),Jcr rfl (by decide)]
      rw [e6,Joa,Jcr ((Jaq (f:=ntO G.p) hm1 (by omega) hm3 (by rw [hE]; decide)).trans hE) (by decide)]))
  refine Ck (Qc (Nz 1 ?_))
  refine Wk 1 (Bc 1) ?_
  refine Wk 0 (Ba 0) ?_
  refine Wk 1 (Cb rfl rfl J5g (fun u hu=>Jxf G.rm u (hG.rm.st hu) _ (hwh.st hu))) ?_
  refine Wd (Qc (CS.cond rfl ?_ ?_))<;>intro hc12<;>try simp only [bq] at hc12
  ·
   refine Nz 1 ?_
   refine Wd (Qc (Cr (Qs (Qr (Qr (Qs (Qr ?_)))))))
   exact out1 rfl rfl (Jac (by
      have hE:ntO G.p m=25:=by rw [Jxp,if_pos hc11,Jb4 rfl,whO,if_neg (by rw [hc12]; decide)]
      rw [e6,Joa,Jcr ((Jaq (f:=ntO G.p) hm1 (by omega) hm3 (by rw [hE]; decide)).trans hE) (by decide)]))
  refine Ck (Qb (Qc (Ny 0 ?_)))
  refine Wk 1 Za ?_
  refine Wd ?_
  refine QS.sel [1] rfl ?_
  exact QS.head (m+1) rfl rfl ⟨⟨by omega,by omega,fun j h0 h1=>by
     rcases (show j < m∨j=m by omega) with h | h
     ·
      exact hm3 j h0 h
     rw [h]; exact (by rw [Jxp,if_pos hc11,Jb4 rfl,whO,if_pos hc12])⟩,by omega⟩
 have e7:Jbl G.p=gck6 G.p:=by rw [e6,Joa,Jb4 (Jao fun j a b=>hm3 j a (by omega))]
 refine Cv (Qe (Qe (Qx (Qc (Cs (Nz 1 ?_))))))
 refine Wk 0 (Ba 0) ?_
 refine Wk 1 (Cb rfl rfl Jld (fun u hu=>Jct _ _ _ u)) ?_
 refine Wd (Qc (CS.cond rfl ?_ ?_))<;>intro hc13<;>try simp only [bq] at hc13
 ·
  refine Nz 1 ?_
  exact Wd (Qc (Cr (Qr (out1 rfl rfl (Jac (by rw [e7,Jsh,if_neg (by simp only [Bool.and_eq_true,decide_eq_true_eq]; omega)]))))))
 refine Ck (Qc (Nz 1 ?_))
 exact Wd (Qc (Cr (out1 rfl rfl (Jac (by rw [e7,Jsh,if_pos (by simp only [Bool.and_eq_true,decide_eq_true_eq]; omega)])))))
end Go.Proofs.YtfbfdnoodccgiaaGreatDoor
