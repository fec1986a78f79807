/- Merged texts of this proof (walks and plain laws), printed by a program of the prover. -/
import Derived.Test.YtfbfdnoodccgiaaGreatDoorZd
import Derived.Test.YtfbfdnoodccgiaaGreatDoorZa
import Derived.Test.YtfbfdnoodccgiaaGreatDoorZb
import Derived.Test.YtfbfdnoodccgiaaGreatDoorZc
set_option maxHeartbeats 8000000
namespace Go.Proofs.YtfbfdnoodccgiaaGreatDoor
open Go.RowKit Go.Proofs
set_option maxRecDepth 100000
set_option linter.unusedVariables false
set_option linter.unusedSimpArgs false
theorem Jw7 (lw ls:Int) (w0:World) (b:Nat) (hL:Jbf lw ls=true) :
  Iter Tryz.prog w0 212 [.pointer (some ⟨b,0,none⟩)] [blk b [.int .i64 lw,.int .i64 ls] 245] (fun v x=>oints 3 v x) (allC lw ls):=by
 intro lp C Cx hy u hu
 have hl:=Jdl hL
 have hp:=Jrb (w:=lw) hl.2.2.1
 refine Jd9 hu Tryz.func212 rfl rfl (Nat.le_of_ble_eq_true rfl) ?_
 refine Nz 1 ?_
 refine Wk 0 (Ba 1) ?_
 refine WS.makeInts sl86 rfl rfl zv3 (by omega) (by omega) (by omega) (fun _=>rfl) ?_; intro v7
 refine Wz 1 ?_
 refine Wd (Qc (Ce ?_))
 refine CS.loopM (σ:=Nat) [4,8,9,10,11,12,13,14,15,16,17,18,19,20,21,22,23,24,25,26,27,28,29,30,31,32,33,34,35,36,37,38,39] (fun s=>[]) (fun s=>[oints 3 v7 (Jec lw ls s),C ((allC lw ls).take s),blk b [.int .i64 lw,.int .i64 ls] 245]) (fun s=>s < Jgb lw ls) (fun s=>Jgb lw ls - s) 0 (fun _ _=>rfl) rfl (by simp [Jmp]) (Js1 hL) ?_
 intro n t hs
 have hn:=hs
 refine Ce (Cs (Nz 2 ?_))
 refine WS.yield (L':=fun b'=>[oints 3 v7 (Jec lw ls n),cond b' (C ((allC lw ls).take (n+1))) (Cx ((allC lw ls).take (n+1))),blk b [.int .i64 lw,.int .i64 ls] 245]) rfl rfl rfl (fun u hu=>by rw [Jki hn]; exact Jqa (hy _ _ _ (Jib hn) _ _ u (hu.perm (.swap _ _ _)))) (fun _=>rfl) ?_; intro b'
 refine Wz 1 ?_
 refine Wd (Qc (CS.cond rfl ?_ ?_))<;>intro hc1<;>try simp only [bq] at hc1
 ·
  subst hc1
  exact Cr (Qr (Qs (Qr (Qs (out0 (Or.inl rfl) rfl (fun u hu=>⟨⟨_,rfl⟩,.inr ⟨_,_,_,Jib hn,by rw [← Jki hn]; exact hu.tail⟩⟩))))))
 subst hc1
 refine Ck (Qc (Nz 1 ?_))
 refine Wk 0 (Ba 2) ?_
 refine Wk 1 Zb ?_
 refine Wd (Qc (Cs (Ce ?_)))
 refine CS.loopM (σ:=Int × Int × List Int) [15,16,17,18,19,20,21,22,23,24,25,26,27,28,29,30,31] (fun s=>[(4,.int .i64 s.1)]) (fun s=>[oints 3 v7 s.2.2,C ((allC lw ls).take (n+1)),blk b [.int .i64 lw,.int .i64 ls] 245]) (fun s=>Odo lw.toNat ls n s.1 s.2.1 s.2.2) (fun s=>(s.1+1).toNat) (lw - 1,n,Jec lw ls n) (fun _ _=>rfl) rfl rfl (Odo.start' (by omega) (by omega)) ?_
 intro q t hs
 have hq:=hs.len
 have hq2:=hs.lo
 have hq3:=hs.hi
 refine Cs (Cs (Dr mixed 3 ?_))
 refine Dt 0 rfl rfl (fun hg=>Fm) ?_
 refine Dt 0 rfl rfl (fun hg=>Fm) ?_
 refine Dt 0 rfl rfl (fun hg=>Xb 0 (eg_ hg rfl)) ?_
 refine Dt 0 rfl rfl (fun hg=>Ib 0) ?_
 refine Dt 0 rfl rfl (fun hg=>Ff) ?_
 refine Dt 0 rfl rfl (fun hg=>Ba 2) ?_
 refine Dt 0 rfl rfl (fun hg=>Zb) ?_
 refine Dt 0 rfl rfl (fun hg=>Fq) ?_
 refine Dk 0 Pa ?_
 refine Dd (Qc (CS.cond rfl ?_ ?_))<;>intro hc2<;>try simp only [bq] at hc2
 ·
  refine Ck (Qc (Ce (Nz 2 ?_)))
  refine Wk 0 (Xb 0) ?_
  refine WS.storeOI (j:=0) rfl rfl (by omega) rfl tk3 rfl ?_
  refine Wd (Qc (Ny 1 ?_))
  refine Wk 1 Zb ?_
  exact Wd (Qb (QS.head ((q.1 - 1,q.2.1 / ls,q.2.2.set q.1.toNat 0)) rfl rfl ⟨hs.back hc2.1 (by omega) hc2.2,by simp; omega⟩))
 refine Cv (Qe (Qe (Qx (Qc (Cs (Nz 2 ?_))))))
 refine Wd (Qc (CS.cond rfl ?_ ?_))<;>intro hc3<;>try simp only [bq] at hc3
 ·
  have he:=hs.end_ hc3 (by omega) (by omega)
  exact Cr (Qr (Qs (Qr (Qs (out0 (Or.inl rfl) rfl (fun u hu=>⟨⟨_,rfl⟩,.inl (by have e:=Jxh (w:=lw) (s:=ls) (n:=n+1) (by omega); rw [e] at hu; exact hu.tail)⟩))))))
 have hd:¬ nth q.2.2 q.1=ls - 1:=by omega
 have hbd:=hs.bd (by omega) (by omega)
 refine Ck (Qc (Ny 2 ?_))
 refine Wk 0 (Xb 0) ?_
 refine Wk 0 (Ib 0) ?_
 refine Wk 0 Za ?_
 refine Wk 0 (Xb 0) ?_
 refine WS.storeOI (j:=0) rfl rfl (by omega) rfl tk3 rfl ?_
 exact Wd (Qb (QS.head (n+1) rfl (by rw [hs.next (by omega) (by omega) hd]; rfl) ⟨by have:=hs.more (by omega) (by omega) hd (by omega); omega,by omega⟩))
theorem Jzr (lw ls:Int) (w:World) :
  Calls Tryz.prog 210 #[.agg #[.int .i64 lw,.int .i64 ls]] w (fun e w'=>∃ b:Nat,True∧RetF w (.func (.func 212) #[] #[.pointer (some ⟨b,0,none⟩)]) (blk b [.int .i64 lw,.int .i64 ls] 245) e w'):=by
 refine enter Tryz.func210 rfl rfl (Nat.le_of_ble_eq_true rfl) ?_
 refine Nz 0 ?_
 refine Wb 1 rfl rfl (fun _=>rfl) (fun _=>rfl) fun b1 hb1=>?_
 refine Wd (Qc (Nz 0 ?_))
 refine Wk 1 (Jai rfl) ?_
 exact Wd (Qc (Cr (out1 rfl rfl (fun u hu=>⟨b1,trivial,retF (j:=0) rfl u hu⟩))))
theorem Jpb (lw ls:Int) (cs:List Clue) (gs:List Value) (cv:Value) (w:World) (hk:ClS w cv cs gs) :
  Calls Tryz.prog 207 #[.agg #[.int .i64 lw,.int .i64 ls],cv] w (fun e w'=>∃ b:Nat × Nat,True∧RetF w (.func (.func 209) #[] #[.pointer (some ⟨b.1,0,none⟩),.pointer (some ⟨b.2,0,none⟩)]) (star [blk b.1 [.int .i64 lw,.int .i64 ls] 245,blk b.2 [cv] 253]) e w'):=by
 obtain ⟨_,p,cap,rfl,_⟩:=hk.sp
 refine enter Tryz.func207 rfl rfl (Nat.le_of_ble_eq_true rfl) ?_
 refine Nz 0 ?_
 refine Wb 0 rfl rfl (fun _=>rfl) (fun _=>rfl) fun b2 hb2=>?_
 refine Wb 1 rfl rfl (fun _=>rfl) (fun _=>rfl) fun b3 hb3=>?_
 refine Wd (Qc (Nz 0 ?_))
 refine Wk 1 (Jai rfl) ?_
 exact Wd (Qc (Cr (out1 rfl rfl (fun u hu=>⟨(b2,b3),trivial,Jms hu (.swap _ _ _)⟩))))
theorem Jma (lw ls:Int) (cs:List Clue) (gs:List Value) (cv:Value) (w0:World) (b1 b2:Nat) (hL:Jbf lw ls=true) (hk:ClS w0 cv cs gs) (hC:∀ c∈cs,Jbg lw ls c=true) :
  Iter Tryz.prog w0 209 [.pointer (some ⟨b1,0,none⟩),.pointer (some ⟨b2,0,none⟩)] [blk b1 [.int .i64 lw,.int .i64 ls] 245,blk b2 [cv] 253] (fun v x=>oints 3 v x) (Jlo lw ls cs):=by
 obtain ⟨hkl,pp,cap,hpv,hkr⟩:=hk.sp
 subst hpv
 replace hk:ClS w0 (.slice pp cs.length cap) cs gs:=⟨⟨hkl,_,_,rfl,hkr⟩,hk.len,hk.el⟩
 clear hkl hkr
 obtain ⟨cv,hcv⟩:∃ cv,cv=Value.slice pp cs.length cap:=⟨_,rfl⟩
 rw [← hcv] at hk ⊢
 intro lp C Cx hy u hu
 refine Jyn hu Tryz.func209 rfl rfl (Nat.le_of_ble_eq_true rfl) ?_
 refine Nz 0 ?_
 refine Wb 0 rfl rfl (fun _=>rfl) (fun _=>rfl) fun b3 hb3=>?_
 refine Wd (Qc (Nz 0 ?_))
 refine Wk 0 (Bb 2) ?_
 refine Wc rfl rfl J2d (fun u hu=>Jzr _ _ u) (fun _=>rfl) ?_; intro bc _
 refine Wd (Qc (Ce ?_))
 refine CS.perm (L':=[C [],blk b3 [.func (.yield lp) #[] #[]] 246,blk b1 [.int .i64 lw,.int .i64 ls] 245,blk b2 [cv] 253]++[blk bc [.int .i64 lw,.int .i64 ls] 245]) ((List.perm_append_comm (l₁:=[_]) (l₂:=[_,_,_,_])).trans (.swap _ _ _)) ?_
 refine CS.rangeA (A:=[blk bc [.int .i64 lw,.int .i64 ls] 245]) rfl J11 (Jw7 lw ls w0 bc hL) (fun pre=>[C (pre.filter (fitB cs)),blk b3 [.func (.yield lp) #[] #[]] 246,blk b1 [.int .i64 lw,.int .i64 ls] 245,blk b2 [cv] 253]) (fun c pre=>match c with | .ret=>[Cx (pre.filter (fitB cs)),fact (∀ q z,pre=q++[z]→fitB cs z=true),blk b1 [.int .i64 lw,.int .i64 ls] 245,blk b2 [cv] 253] | _=>[fact False]) (fun _=>rfl) (Nat.le_of_ble_eq_true rfl) (fun _=>rfl) ?_ ?_ ?_
 ·
  intro lr pre x post v F hall
  have hx:Jdg lw ls x=true:=Jwu hL (by rw [hall]; simp)
  refine Ce (Nz 0 ?_)
  refine Wk 1 (Ba 4) ?_
  refine Wk 2 (Cb rfl rfl J17 (fun u hu=>Jzt lw ls cs gs cv x v u (fun c hc=>⟨hL,hC c hc,hx⟩) (hk.st hu) (Jat hu (j:=0) rfl))) ?_
  rcases hB:decide (Jo0 cs x < 0) with _ | _
  ·
   refine WS.unwanted rfl rfl rfl ?_
   refine WS.unwanted rfl rfl rfl ?_
   refine WS.unwanted rfl rfl rfl ?_
   refine WS.unwanted rfl rfl rfl ?_
   refine WS.det rfl rfl rfl (Ji2 rfl) rfl ?_
   refine Wd (Qc ?_)
   refine CS.cond rfl (fun h=>nomatch h) (fun _=>?_)
   refine Ck (Qb ?_)
   exact fun u hu=>by simp only [Jhc,J3k hB]; exact hu
  refine WS.guardT rfl rfl rfl rfl (fun _=>Jah (j:=2) rfl rfl rfl J5k) rfl ?_
  refine WS.guardT rfl rfl rfl rfl (fun _=>Jcn rfl) rfl ?_
  refine WS.yield (L':=fun b'=>oints 3 v x::cond b' (C (pre.filter (fitB cs)++[x])) (Cx (pre.filter (fitB cs)++[x]))::[blk b3 [.func (.yield lp) #[] #[]] 246,blk b1 [.int .i64 lw,.int .i64 ls] 245,blk b2 [cv] 253,F]) rfl rfl rfl (fun u hu=>Jmq (fun F' u' hu'=>hy _ x _ (Jgv hall hB) F' v u' hu') hu) (fun _=>rfl) ?_
  intro b'
  refine WS.guardT rfl rfl rfl rfl (fun _=>Jl0 rfl) rfl ?_
  refine WS.det rfl rfl rfl (Jc0 rfl rfl rfl) rfl ?_
  skip
  skip
  skip
  skip
  refine Wd (Qc (CS.cond rfl ?_ ?_))<;>intro hc1<;>try simp only [bq] at hc1
  ·
   obtain rfl:b'=false:=by simpa using hc1
   refine Cr (Qs ?_)
   exact fun u hu=>by
    simp only [Jhc,Jlc hB]
    have h:=St.factI (p:=∀ q z,pre++[x]=q++[z]→fitB cs z=true) (fun q z e=>by obtain ⟨_,e2⟩:=List.append_inj' e rfl; simp at e2; rw [← e2]; exact hB) hu
    exact (h.perm (.swap _ _ _)).perm (.cons _ (.swap _ _ _)) |>.sub (.cons_cons _ (.cons_cons _ (.cons_cons _ (.cons _ (.cons_cons _ (.cons_cons _ (.cons_cons _ .slnil)))))))
  obtain rfl:b'=true:=by simpa using hc1
  refine Ck (Qb ?_)
  exact fun u hu=>by simp only [Jhc,Jlc hB]; exact hu
 ·
  intro D
  refine Qb ?_
  exact outM (j:=0) (Or.inr rfl) rfl (res0 rfl) (fun u hu=>⟨⟨_,rfl⟩,.inl (hu.sub (.cons _ (.cons_cons _ (.cons _ (.cons_cons _ (.cons_cons _ (.cons _ .slnil)))))))⟩)
 intro D c pre x post hall
 cases c with
 | ret =>
  refine Cr (Qs ?_)
  exact outM (j:=0) (Or.inl rfl) rfl (res0 rfl) (fun u hu=>⟨⟨_,rfl⟩,.inr ⟨_,x,_,Jgv hall (hu.factE (j:=2) rfl pre x rfl),by rw [← Jlc (hu.factE (j:=2) rfl pre x rfl)]; exact hu.sub (.cons _ (.cons_cons _ (.cons _ (.cons_cons _ (.cons_cons _ (.cons _ .slnil))))))⟩⟩)
 | _=>exact fun u hu=>(hu.factE (j:=1) rfl).elim
theorem Jzc (lw ls:Int) (cs:List Clue) (gs:List Value) (cv:Value) (w:World) (hL:Jbf lw ls=true) (hC:∀ c∈cs,Jbg lw ls c=true) (hk:ClS w cv cs gs) :
  Calls Tryz.prog 199 #[.agg #[.int .i64 lw,.int .i64 ls],cv] w (RetB w (.int .i64 (Jlo lw ls cs).length)):=by
 refine Jyn St.nil Tryz.func199 rfl rfl (Nat.le_of_ble_eq_true rfl) ?_
 refine Nz 0 ?_
 refine Wb 0 rfl rfl (fun _=>rfl) (fun _=>rfl) fun b2 hb2=>?_
 refine Wl 0 zv3 (fun _=>rfl) (fun _=>rfl) fun b4 hb4=>?_
 refine Wd (Qc (Cs (Nz 0 ?_)))
 refine Wk 1 (Bb 1) ?_
 refine Wc rfl rfl J2x (fun u hu=>Jpb _ _ _ _ _ u (hk.st hu)) (fun _=>rfl) ?_; intro br _; refine WS.unpack ?_
 refine Wd (Qc (Ce ?_))
 refine CS.perm (L':=[blk b4 [.int .i64 0] 3,blk b2 [.int .i64 lw,.int .i64 ls] 245]++[blk br.1 [.int .i64 lw,.int .i64 ls] 245,blk br.2 [cv] 253]) (List.perm_append_comm (l₁:=[_,_]) (l₂:=[_,_])) ?_
 refine CS.rangeS (A:=[blk br.1 [.int .i64 lw,.int .i64 ls] 245,blk br.2 [cv] 253]) rfl J23 (Jma lw ls cs gs cv w br.1 br.2 hL hk hC) (fun pre=>[blk b4 [.int .i64 pre.length] 3,blk b2 [.int .i64 lw,.int .i64 ls] 245]) (fun c pre=>match c with | _=>[fact False]) (fun _=>rfl) ?_ ?_ ?_
 ·
  intro lr pre x post v F hall
  have hb:=Ju6 hL cs
  rw [hall] at hb
  simp at hb
  refine Ce (Ny 0 ?_)
  refine Wk 0 (Ba 1) ?_
  refine Wk 0 Za ?_
  refine Ws 0 1 ?_
  refine Wd (Qb ?_)
  exact fun u hu=>by simp only [Jhc,List.length_append,List.length_singleton]; exact hu
 ·
  intro D
  refine Qb (Qc (Nz 0 ?_))
  refine Wk 0 (Ba 1) ?_
  refine Ws 0 1 ?_
  refine Wd (Qc (Cr ?_))
  exact outM (j:=0) (Or.inl rfl) rfl (resc rfl (Jzb (j:=1) rfl rfl rfl tk3)) (retB)
 intro D c pre x post hall
 cases c with
 | _=>exact fun u hu=>(hu.factE (j:=1) rfl).elim
theorem Jzm (lw ls:Int) (cs:List Clue) (gs:List Value) (cv:Value) (w:World) (hk:ClS w cv cs gs) :
  Calls Tryz.prog 173 #[.agg #[.int .i64 lw,.int .i64 ls],cv] w (RetB w (.tuple #[.int .i64 (if Jc5 lw ls cs=0 then ((Jlo lw ls cs).length:Int) else 0),.int .i64 (Jc5 lw ls cs)])):=by
 refine enter Tryz.func173 rfl rfl (Nat.le_of_ble_eq_true rfl) ?_
 refine Nz 0 ?_
 refine Wb 2 rfl rfl (fun _=>rfl) (fun _=>rfl) fun b2 hb2=>?_
 refine Wd (Qc (Cs (Nz 0 ?_)))
 refine Wk 1 (Bb 0) ?_
 refine Wk 1 (Cb rfl rfl J1c (fun u hu=>Jj7 _ _ _ _ _ u (hk.st hu))) ?_
 refine Wd (Qc (Nz 2 ?_))
 refine Wd (Qc (CS.cond rfl ?_ ?_))<;>intro hc1<;>try simp only [bq] at hc1
 ·
  refine Nz 3 ?_
  exact Wd (Qc (Cr (Qr (out2 rfl rfl rfl (Jac (by simp [hc1]))))))
 refine Ck (Qc (Nz 0 ?_))
 refine Wk 1 (Bb 0) ?_
 refine Wk 2 (Cb rfl rfl J3h (fun u hu=>Jzc _ _ _ _ _ u (Jln hc1) (Jmb hc1) (hk.st hu))) ?_
 exact Wd (Qc (Cr (out2 rfl rfl rfl (Jac (by simp [hc1])))))
end Go.Proofs.YtfbfdnoodccgiaaGreatDoor
