/- Merged texts of this proof (walks and plain laws), printed by a program of the prover. -/
import Derived.Test.YtbboikncaihafaaGreatDoorZd
import Derived.Test.YtbboikncaihafaaGreatDoorZa
import Derived.Test.YtbboikncaihafaaGreatDoorZb
import Derived.Test.YtbboikncaihafaaGreatDoorZc
set_option maxHeartbeats 8000000
namespace Go.Proofs.YtbboikncaihafaaGreatDoor
open Go.RowKit Go.Proofs
set_option maxRecDepth 100000
set_option linter.unusedVariables false
set_option linter.unusedSimpArgs false
theorem J1r (lw ls:Int) (w0:World) (b:Nat) (hL:Jbk lw ls=true) :
  Iter Tryz.prog w0 231 [.pointer (some ⟨b,0,none⟩)] [blk b [.int .i64 lw,.int .i64 ls] 184] (fun v x=>oints 3 v x) (allC lw ls):=by
 intro lp C Cx hy u hu
 have hl:=Jd0 hL
 have hp:=Joz (w:=lw) hl.2.2.1
 refine Jb0 hu Tryz.func231 rfl rfl (Nat.le_of_ble_eq_true rfl) ?_
 refine Nz 1 ?_
 refine Wk 0 (Ba 1) ?_
 refine WS.makeInts sl42 rfl rfl zv3 (by omega) (by omega) (by omega) (fun _=>rfl) ?_; intro v7
 refine Wz 1 ?_
 refine Wd (Qc (Ce ?_))
 refine CS.loopM (σ:=Nat) [4,8,9,10,11,12,13,14,15,16,17,18,19,20,21,22,23,24,25,26,27,28,29,30,31,32,33,34,35,36,37,38,39] (fun s=>[]) (fun s=>[oints 3 v7 (Jd9 lw ls s),C ((allC lw ls).take s),blk b [.int .i64 lw,.int .i64 ls] 184]) (fun s=>s < Jgd lw ls) (fun s=>Jgd lw ls - s) 0 (fun _ _=>rfl) rfl (by simp [Jp7]) (Jwl hL) ?_
 intro n t hs
 have hn:=hs
 refine Ce (Cs (Nz 2 ?_))
 refine WS.yield (L':=fun b'=>[oints 3 v7 (Jd9 lw ls n),cond b' (C ((allC lw ls).take (n+1))) (Cx ((allC lw ls).take (n+1))),blk b [.int .i64 lw,.int .i64 ls] 184]) rfl rfl rfl (fun u hu=>by rw [Jhk hn]; exact Jt3 (hy _ _ _ (Jma hn) _ _ u (hu.perm (.swap _ _ _)))) (fun _=>rfl) ?_; intro b'
 refine Wz 1 ?_
 refine Wd (Qc (CS.cond rfl ?_ ?_))<;>intro hc1<;>try simp only [bq] at hc1
 ·
  subst hc1
  exact Cr (Qr (Qs (Qr (Qs (out0 (Or.inl rfl) rfl (fun u hu=>⟨⟨_,rfl⟩,.inr ⟨_,_,_,Jma hn,by rw [← Jhk hn]; exact hu.tail⟩⟩))))))
 subst hc1
 refine Ck (Qc (Nz 1 ?_))
 refine Wk 0 (Ba 2) ?_
 refine Wk 1 Zb ?_
 refine Wd (Qc (Cs (Ce ?_)))
 refine CS.loopM (σ:=Int × Int × List Int) [15,16,17,18,19,20,21,22,23,24,25,26,27,28,29,30,31] (fun s=>[(4,.int .i64 s.1)]) (fun s=>[oints 3 v7 s.2.2,C ((allC lw ls).take (n+1)),blk b [.int .i64 lw,.int .i64 ls] 184]) (fun s=>Odo lw.toNat ls n s.1 s.2.1 s.2.2) (fun s=>(s.1+1).toNat) (lw - 1,n,Jd9 lw ls n) (fun _ _=>rfl) rfl rfl (Odo.start' (by omega) (by omega)) ?_
 intro q t hs
 have hq:=hs.len
 have hq2:=hs.lo
 have hq3:=hs.hi
 refine Cs (Cs (Dr Jah 3 ?_))
 refine Dt 0 rfl rfl (fun hg=>Fm) ?_
 refine Dt 0 rfl rfl (fun hg=>Fm) ?_
 refine Dt 0 rfl rfl (fun hg=>Xb 0 (eg_ hg rfl)) ?_
 refine Dt 0 rfl rfl (fun hg=>Ib 0) ?_
 refine Dt 0 rfl rfl (fun hg=>Ff) ?_
 refine Dt 0 rfl rfl (fun hg=>Ba 2) ?_
 refine Dt 0 rfl rfl (fun hg=>Zb) ?_
 refine Dt 0 rfl rfl (fun hg=>Fq) ?_
 refine Dk 0 Pa ?_
 refine Dd (Qc (CS.cond rfl ?_ ?_))<;>intro hc2<;>try simp only [bq] at hc2
 ·
  refine Ck (Qc (Ce (Nz 2 ?_)))
  refine Wk 0 (Xb 0) ?_
  refine WS.storeOI (j:=0) rfl rfl (by omega) rfl tk3 rfl ?_
  refine Wd (Qc (Ny 1 ?_))
  refine Wk 1 Zb ?_
  exact Wd (Qb (QS.head ((q.1 - 1,q.2.1 / ls,q.2.2.set q.1.toNat 0)) rfl rfl ⟨hs.back hc2.1 (by omega) hc2.2,by simp; omega⟩))
 refine Cv (Qe (Qe (Qx (Qc (Cs (Nz 2 ?_))))))
 refine Wd (Qc (CS.cond rfl ?_ ?_))<;>intro hc3<;>try simp only [bq] at hc3
 ·
  have he:=hs.end_ hc3 (by omega) (by omega)
  exact Cr (Qr (Qs (Qr (Qs (out0 (Or.inl rfl) rfl (fun u hu=>⟨⟨_,rfl⟩,.inl (by have e:=J1f (w:=lw) (s:=ls) (n:=n+1) (by omega); rw [e] at hu; exact hu.tail)⟩))))))
 have hd:¬ nth q.2.2 q.1=ls - 1:=by omega
 have hbd:=hs.bd (by omega) (by omega)
 refine Ck (Qc (Ny 2 ?_))
 refine Wk 0 (Xb 0) ?_
 refine Wk 0 (Ib 0) ?_
 refine Wk 0 Za ?_
 refine Wk 0 (Xb 0) ?_
 refine WS.storeOI (j:=0) rfl rfl (by omega) rfl tk3 rfl ?_
 exact Wd (Qb (QS.head (n+1) rfl (by rw [hs.next (by omega) (by omega) hd]; rfl) ⟨by have:=hs.more (by omega) (by omega) hd (by omega); omega,by omega⟩))
theorem J4u (lw ls:Int) (w:World) :
  Calls Tryz.prog 193 #[.agg #[.int .i64 lw,.int .i64 ls]] w (fun e w'=>∃ b:Nat,True∧RetF w (.func (.func 231) #[] #[.pointer (some ⟨b,0,none⟩)]) (blk b [.int .i64 lw,.int .i64 ls] 184) e w'):=by
 refine enter Tryz.func193 rfl rfl (Nat.le_of_ble_eq_true rfl) ?_
 refine Nz 0 ?_
 refine Wb 1 rfl rfl (fun _=>rfl) (fun _=>rfl) fun b1 hb1=>?_
 refine Wd (Qc (Nz 0 ?_))
 refine Wk 1 (Jal rfl) ?_
 exact Wd (Qc (Cr (out1 rfl rfl (fun u hu=>⟨b1,trivial,retF (j:=0) rfl u hu⟩))))
theorem Jur (lw ls:Int) (cs:List Clue) (gs:List Value) (cv:Value) (w:World) (hk:ClS w cv cs gs) :
  Calls Tryz.prog 148 #[.agg #[.int .i64 lw,.int .i64 ls],cv] w (fun e w'=>∃ b:Nat × Nat,True∧RetF w (.func (.func 192) #[] #[.pointer (some ⟨b.1,0,none⟩),.pointer (some ⟨b.2,0,none⟩)]) (star [blk b.1 [.int .i64 lw,.int .i64 ls] 184,blk b.2 [cv] 99]) e w'):=by
 obtain ⟨_,p,cap,rfl,_⟩:=hk.sp
 refine enter Tryz.func148 rfl rfl (Nat.le_of_ble_eq_true rfl) ?_
 refine Nz 0 ?_
 refine Wb 0 rfl rfl (fun _=>rfl) (fun _=>rfl) fun b2 hb2=>?_
 refine Wb 1 rfl rfl (fun _=>rfl) (fun _=>rfl) fun b3 hb3=>?_
 refine Wd (Qc (Nz 0 ?_))
 refine Wk 1 (Jal rfl) ?_
 exact Wd (Qc (Cr (out1 rfl rfl (fun u hu=>⟨(b2,b3),trivial,Jj7 hu (.swap _ _ _)⟩))))
theorem Jq0 (lw ls:Int) (cs:List Clue) (gs:List Value) (cv:Value) (w0:World) (b1 b2:Nat) (hL:Jbk lw ls=true) (hk:ClS w0 cv cs gs) (hC:∀ c∈cs,Jbi lw ls c=true) :
  Iter Tryz.prog w0 192 [.pointer (some ⟨b1,0,none⟩),.pointer (some ⟨b2,0,none⟩)] [blk b1 [.int .i64 lw,.int .i64 ls] 184,blk b2 [cv] 99] (fun v x=>oints 3 v x) (Jkh lw ls cs):=by
 obtain ⟨hkl,pp,cap,hpv,hkr⟩:=hk.sp
 subst hpv
 replace hk:ClS w0 (.slice pp cs.length cap) cs gs:=⟨⟨hkl,_,_,rfl,hkr⟩,hk.len,hk.el⟩
 clear hkl hkr
 obtain ⟨cv,hcv⟩:∃ cv,cv=Value.slice pp cs.length cap:=⟨_,rfl⟩
 rw [← hcv] at hk ⊢
 intro lp C Cx hy u hu
 refine J35 hu Tryz.func192 rfl rfl (Nat.le_of_ble_eq_true rfl) ?_
 refine Nz 0 ?_
 refine Wb 0 rfl rfl (fun _=>rfl) (fun _=>rfl) fun b3 hb3=>?_
 refine Wd (Qc (Nz 0 ?_))
 refine Wk 0 (Bb 2) ?_
 refine Wc rfl rfl J98 (fun u hu=>J4u _ _ u) (fun _=>rfl) ?_; intro bc _
 refine Wd (Qc (Ce ?_))
 refine CS.perm (L':=[C [],blk b3 [.func (.yield lp) #[] #[]] 250,blk b1 [.int .i64 lw,.int .i64 ls] 184,blk b2 [cv] 99]++[blk bc [.int .i64 lw,.int .i64 ls] 184]) ((List.perm_append_comm (l₁:=[_]) (l₂:=[_,_,_,_])).trans (.swap _ _ _)) ?_
 refine CS.rangeA (A:=[blk bc [.int .i64 lw,.int .i64 ls] 184]) rfl J7w (J1r lw ls w0 bc hL) (fun pre=>[C (pre.filter (fitB cs)),blk b3 [.func (.yield lp) #[] #[]] 250,blk b1 [.int .i64 lw,.int .i64 ls] 184,blk b2 [cv] 99]) (fun c pre=>match c with | .ret=>[Cx (pre.filter (fitB cs)),fact (∀ q z,pre=q++[z]→fitB cs z=true),blk b1 [.int .i64 lw,.int .i64 ls] 184,blk b2 [cv] 99] | _=>[fact False]) (fun _=>rfl) (Nat.le_of_ble_eq_true rfl) (fun _=>rfl) ?_ ?_ ?_
 ·
  intro lr pre x post v F hall
  have hx:Jc7 lw ls x=true:=J2q hL (by rw [hall]; simp)
  refine Ce (Nz 0 ?_)
  refine Wk 1 (Ba 4) ?_
  refine Wk 2 (Cb rfl rfl J7t (fun u hu=>J5u lw ls cs gs cv x v u (fun c hc=>⟨hL,hC c hc,hx⟩) (hk.st hu) (Jad hu (j:=0) rfl))) ?_
  rcases hB:decide (Jkj cs x < 0) with _ | _
  ·
   refine WS.unwanted rfl rfl rfl ?_
   refine WS.unwanted rfl rfl rfl ?_
   refine WS.unwanted rfl rfl rfl ?_
   refine WS.unwanted rfl rfl rfl ?_
   refine WS.det rfl rfl rfl (Jmq rfl) rfl ?_
   refine Wd (Qc ?_)
   refine CS.cond rfl (fun h=>nomatch h) (fun _=>?_)
   refine Ck (Qb ?_)
   exact fun u hu=>by simp only [Jkb,Ka4 hB]; exact hu
  refine WS.guardT rfl rfl rfl rfl (fun _=>Jas (j:=2) rfl rfl rfl Kcy) rfl ?_
  refine WS.guardT rfl rfl rfl rfl (fun _=>Jaw rfl) rfl ?_
  refine WS.yield (L':=fun b'=>oints 3 v x::cond b' (C (pre.filter (fitB cs)++[x])) (Cx (pre.filter (fitB cs)++[x]))::[blk b3 [.func (.yield lp) #[] #[]] 250,blk b1 [.int .i64 lw,.int .i64 ls] 184,blk b2 [cv] 99,F]) rfl rfl rfl (fun u hu=>Jq6 (fun F' u' hu'=>hy _ x _ (Jku hall hB) F' v u' hu') hu) (fun _=>rfl) ?_
  intro b'
  refine WS.guardT rfl rfl rfl rfl (fun _=>Jp2 rfl) rfl ?_
  refine WS.det rfl rfl rfl (Jdq rfl rfl rfl) rfl ?_
  skip
  skip
  skip
  skip
  refine Wd (Qc (CS.cond rfl ?_ ?_))<;>intro hc1<;>try simp only [bq] at hc1
  ·
   obtain rfl:b'=false:=by simpa using hc1
   refine Cr (Qs ?_)
   exact fun u hu=>by
    simp only [Jkb,Jqu hB]
    have h:=St.factI (p:=∀ q z,pre++[x]=q++[z]→fitB cs z=true) (fun q z e=>by obtain ⟨_,e2⟩:=List.append_inj' e rfl; simp at e2; rw [← e2]; exact hB) hu
    exact (h.perm (.swap _ _ _)).perm (.cons _ (.swap _ _ _)) |>.sub (.cons_cons _ (.cons_cons _ (.cons_cons _ (.cons _ (.cons_cons _ (.cons_cons _ (.cons_cons _ .slnil)))))))
  obtain rfl:b'=true:=by simpa using hc1
  refine Ck (Qb ?_)
  exact fun u hu=>by simp only [Jkb,Jqu hB]; exact hu
 ·
  intro D
  refine Qb ?_
  exact outM (j:=0) (Or.inr rfl) rfl (res0 rfl) (fun u hu=>⟨⟨_,rfl⟩,.inl (hu.sub (.cons _ (.cons_cons _ (.cons _ (.cons_cons _ (.cons_cons _ (.cons _ .slnil)))))))⟩)
 intro D c pre x post hall
 cases c with
 | ret =>
  refine Cr (Qs ?_)
  exact outM (j:=0) (Or.inl rfl) rfl (res0 rfl) (fun u hu=>⟨⟨_,rfl⟩,.inr ⟨_,x,_,Jku hall (hu.factE (j:=2) rfl pre x rfl),by rw [← Jqu (hu.factE (j:=2) rfl pre x rfl)]; exact hu.sub (.cons _ (.cons_cons _ (.cons _ (.cons_cons _ (.cons_cons _ (.cons _ .slnil))))))⟩⟩)
 | _=>exact fun u hu=>(hu.factE (j:=1) rfl).elim
theorem J7f (lw ls:Int) (cs:List Clue) (gs:List Value) (cv:Value) (w:World) (hL:Jbk lw ls=true) (hC:∀ c∈cs,Jbi lw ls c=true) (hk:ClS w cv cs gs) :
  Calls Tryz.prog 98 #[.agg #[.int .i64 lw,.int .i64 ls],cv] w (RetB w (.int .i64 (Jkh lw ls cs).length)):=by
 refine J35 St.nil Tryz.func98 rfl rfl (Nat.le_of_ble_eq_true rfl) ?_
 refine Nz 0 ?_
 refine Wb 0 rfl rfl (fun _=>rfl) (fun _=>rfl) fun b2 hb2=>?_
 refine Wl 0 zv3 (fun _=>rfl) (fun _=>rfl) fun b4 hb4=>?_
 refine Wd (Qc (Cs (Nz 0 ?_)))
 refine Wk 1 (Bb 1) ?_
 refine Wc rfl rfl J9u (fun u hu=>Jur _ _ _ _ _ u (hk.st hu)) (fun _=>rfl) ?_; intro br _; refine WS.unpack ?_
 refine Wd (Qc (Ce ?_))
 refine CS.perm (L':=[blk b4 [.int .i64 0] 3,blk b2 [.int .i64 lw,.int .i64 ls] 184]++[blk br.1 [.int .i64 lw,.int .i64 ls] 184,blk br.2 [cv] 99]) (List.perm_append_comm (l₁:=[_,_]) (l₂:=[_,_])) ?_
 refine CS.rangeS (A:=[blk br.1 [.int .i64 lw,.int .i64 ls] 184,blk br.2 [cv] 99]) rfl Kad (Jq0 lw ls cs gs cv w br.1 br.2 hL hk hC) (fun pre=>[blk b4 [.int .i64 pre.length] 3,blk b2 [.int .i64 lw,.int .i64 ls] 184]) (fun c pre=>match c with | _=>[fact False]) (fun _=>rfl) ?_ ?_ ?_
 ·
  intro lr pre x post v F hall
  have hb:=J2t hL cs
  rw [hall] at hb
  simp at hb
  refine Ce (Ny 0 ?_)
  refine Wk 0 (Ba 1) ?_
  refine Wk 0 Za ?_
  refine Ws 0 1 ?_
  refine Wd (Qb ?_)
  exact fun u hu=>by simp only [Jkb,List.length_append,List.length_singleton]; exact hu
 ·
  intro D
  refine Qb (Qc (Nz 0 ?_))
  refine Wk 0 (Ba 1) ?_
  refine Ws 0 1 ?_
  refine Wd (Qc (Cr ?_))
  exact outM (j:=0) (Or.inl rfl) rfl (resc rfl (Jhf (j:=1) rfl rfl rfl tk3)) (retB)
 intro D c pre x post hall
 cases c with
 | _=>exact fun u hu=>(hu.factE (j:=1) rfl).elim
theorem J6f (lw ls:Int) (cs:List Clue) (gs:List Value) (cv:Value) (w:World) (hk:ClS w cv cs gs) :
  Calls Tryz.prog 40 #[.agg #[.int .i64 lw,.int .i64 ls],cv] w (RetB w (.tuple #[.int .i64 (if Jcy lw ls cs=0 then ((Jkh lw ls cs).length:Int) else 0),.int .i64 (Jcy lw ls cs)])):=by
 refine enter Tryz.func40 rfl rfl (Nat.le_of_ble_eq_true rfl) ?_
 refine Nz 0 ?_
 refine Wb 2 rfl rfl (fun _=>rfl) (fun _=>rfl) fun b2 hb2=>?_
 refine Wd (Qc (Cs (Nz 0 ?_)))
 refine Wk 1 (Bb 0) ?_
 refine Wk 1 (Cb rfl rfl Kcc (fun u hu=>Jom _ _ _ _ _ u (hk.st hu))) ?_
 refine Wd (Qc (Nz 2 ?_))
 refine Wd (Qc (CS.cond rfl ?_ ?_))<;>intro hc1<;>try simp only [bq] at hc1
 ·
  refine Nz 3 ?_
  exact Wd (Qc (Cr (Qr (out2 rfl rfl rfl (Jab (by simp [hc1]))))))
 refine Ck (Qc (Nz 0 ?_))
 refine Wk 1 (Bb 0) ?_
 refine Wk 2 (Cb rfl rfl Kdf (fun u hu=>J7f _ _ _ _ _ u (Jj5 hc1) (Jjs hc1) (hk.st hu))) ?_
 exact Wd (Qc (Cr (out2 rfl rfl rfl (Jab (by simp [hc1])))))
theorem Ka7 (lw ls:Int) (cs:List Clue) (gs:List Value) (cv:Value) (w:World) (hL:Jbk lw ls=true) (hC:∀ c∈cs,Jbi lw ls c=true) (hk:ClS w cv cs gs) :
  Calls Tryz.prog 282 #[.agg #[.int .i64 lw,.int .i64 ls],cv] w (fun e w'=>∃ x:Value × List Value,(∃ u0,SlL u0 x.1 (Jkh lw ls cs) x.2)∧RetF w x.1 (roL x.1 (Jkh lw ls cs) x.2) e w'):=by
 have hl:=Jd0 hL
 have hmc:=Jrv hL
 refine enter Tryz.func282 rfl rfl (Nat.le_of_ble_eq_true rfl) ?_
 refine Nz 0 ?_
 refine Wb 1 rfl rfl (fun _=>rfl) (fun _=>rfl) fun b2 hb2=>?_
 refine Wd (Qc (Nz 1 ?_))
 refine Wd (Qc (Cs (Nz 1 ?_)))
 refine Wd (Qc (Ce ?_))
 refine CS.loopM (σ:=Int × Int) [12,13,14,15,16,17,18,19,20,21] (fun s=>[(5,.int .i64 s.2),(6,.int .i64 s.1)]) (fun _=>_) (fun s=>0≤s.1∧s.1≤lw∧s.2=ls ^ s.1.toNat) (fun s=>(lw - s.1).toNat) (0,1) (fun _ _=>rfl) rfl rfl ⟨by simp,by simp; omega,by simp⟩ ?_
 intro s t hs
 obtain ⟨hs1,hs2,hs3⟩:=hs
 refine Cs (Nz 2 ?_)
 refine Wk 1 (Ba 0) ?_
 refine Wd (Qc (CS.cond rfl ?_ ?_))<;>intro hc1<;>try simp only [bq] at hc1
 ·
  have hb2:=J65 hl.2.2.1 hl.2.2.2 (k:=(s.1+1).toNat) (by omega)
  rw [Jtr hs1, ← hs3] at hb2
  refine Ck (Qc (Cs (Ce (Ny 2 ?_))))
  refine Wk 0 (Ba 0) ?_
  refine Wk 1 Zc ?_
  refine Wd (Qb (Qc (Ny 1 ?_)))
  refine Wk 1 Za ?_
  exact Wd (QS.head ((s.1+1,s.2 * ls)) rfl rfl ⟨⟨by simp; omega,by simp; omega,by simp only; rw [Jtr hs1,hs3]⟩,by simp; omega⟩)
 have he:s.1=lw:=by omega
 rw [he, ← Joz hl.2.2.1] at hs3
 refine Cv (Qe (Qe (Qx (Qc (Nz 1 ?_)))))
 refine Wd (Qc (Cs (Nz 1 ?_)))
 refine Wd (Qc (Ce ?_))
 refine CS.weak (fun u hu=>hu.oll0 (te:=42) (e:=3)) ?_
 refine CS.loopM (σ:=Int × Value × List (Value × List Int)) [9,10,11,22,23,24,25,26,27,28,29,30,31,32,33,34,35,36,37,38,39,40,41,42,43,44,45,46,47,48,49,50,51,52,53,54,55,56] (fun s=>[(7,s.2.1),(8,.int .i64 s.1)]) (fun s=>[osl 42 1 s.2.1 (s.2.2.map (·.1)).length (s.2.2.map (·.1)),star (loi 3 s.2.2),blk b2 [.int .i64 lw,.int .i64 ls] 90]) (fun s=>0≤s.1∧s.1≤Jgd lw ls∧s.2.2.map (·.2)=Jfs lw ls cs s.1.toNat) (fun s=>Jgd lw ls - s.1.toNat) (0,.slice none 0 0,[]) (fun _ _=>rfl) rfl rfl ⟨by simp,by simp,by simp [Jfs]⟩ ?_
 intro r t hs
 obtain ⟨hr1,hr2,hr3⟩:=hs
 have hpl:=J53 hr3
 have hpl2:=Jvc (w:=lw) (s:=ls) (cs:=cs) (n:=r.1.toNat)
 have e1:(r.1+1).toNat=r.1.toNat+1:=by omega
 refine Cs (Nz 3 ?_)
 refine Wd (Qc (CS.cond rfl ?_ ?_))<;>intro hc2<;>try simp only [bq] at hc2
 ·
  refine Ck (Qc (Cs (Ce (Nz 1 ?_))))
  refine Wk 0 (Ba 2) ?_
  refine WS.makeInts sl42 rfl rfl zv3 (by omega) (by omega) (by omega) (fun _=>rfl) ?_; intro v29; refine WS.oc (j:=0) rfl (fun hv29=>?_)
  refine Wz 1 ?_
  refine Wd (Qc (Nz 2 ?_))
  refine Wd (Qc (Cs (Nz 1 ?_)))
  refine Wk 0 (Ba 3) ?_
  refine Wk 1 Zb ?_
  refine Wd (Qc (Ce ?_))
  refine CS.loopM (σ:=Int × Int × List Int) [34,35,36,37,38,39,40,41,42,43,44,45,46,47,48] (fun s=>[(10,.int .i64 s.2.1),(11,.int .i64 s.1)]) (fun s=>[oints 3 v29 s.2.2,osl 42 1 r.2.1 (r.2.2.map (·.1)).length (r.2.2.map (·.1)),star (loi 3 r.2.2),blk b2 [.int .i64 lw,.int .i64 ls] 90]) (fun s=>Fill lw.toNat ls r.1 s.1 s.2.1 s.2.2) (fun s=>(s.1+1).toNat) (lw - 1,r.1,List.replicate lw.toNat 0) (fun _ _=>rfl) rfl rfl (Fill.start (by omega) (by omega) (by omega)) ?_
  intro q t hs
  have hq1:=hs.len
  have hq2:=hs.lo
  have hq3:=hs.hi
  have hq4:=hs.pos
  refine Cs (Nz 2 ?_)
  refine Wd (Qc (CS.cond rfl ?_ ?_))<;>intro hc3<;>try simp only [bq] at hc3
  ·
   refine Ck (Qc (Cs (Ce (Nz 4 ?_))))
   refine Wk 0 (Ba 3) ?_
   refine Wk 0 (Jqf rfl rfl (by omega) (by omega)) ?_
   refine Wk 0 (Xb 0) ?_
   refine WS.storeOI (j:=0) rfl rfl (by omega) rfl tk3 rfl ?_
   refine Wd (Qc (Ny 2 ?_))
   refine Wk 0 (Ba 3) ?_
   refine Wk 1 (J6s rfl rfl (by omega) (by omega) (by omega)) ?_
   refine Wd (Qb (Qc (Ny 1 ?_)))
   refine Wk 1 Zb ?_
   exact Wd (QS.head ((q.1 - 1,q.2.1 / ls,q.2.2.set q.1.toNat (q.2.1 % ls))) rfl rfl ⟨hs.step (by omega) (by omega),by simp; omega⟩)
  have hcode:q.2.2=Jd9 lw ls r.1.toNat:=by
   rw [hs.end_ (by omega)]
   unfold Jd9
   congr 1
   omega
  have hx:Jc7 lw ls q.2.2=true:=hcode ▸ Jkv hL _
  refine Cv (Qe (Qe (Qx (Qc (Nz 2 ?_)))))
  refine Wk 1 (Cb rfl rfl J79 (fun u hu=>J6a lw ls cs gs cv q.2.2 v29 u (fun c hc=>⟨hL,hC c hc,hx⟩) (hk.st hu) (Jad hu (j:=0) rfl))) ?_
  refine Wd (Qc (CS.cond rfl ?_ ?_))<;>intro hc4<;>try simp only [bq] at hc4
  ·
   refine Ny 2 ?_
   refine WS.buildV1 sl33 zv42 rfl (by first | rfl | assumption) (fun _=>rfl) ?_; intro v55
   refine WS.append1 (j:=2) (jz:=0) sl33 zv42 rfl rfl rfl rfl (by first | rfl | assumption) (by first | omega | (simp; omega) | (simp only [List.length_append,List.length_singleton,List.length_map,List.length_cons,List.length_nil] at *; omega)) (by first | omega | (simp; omega) | (simp only [List.length_append,List.length_singleton,List.length_map,List.length_cons,List.length_nil] at *; omega)) (fun _=>rfl) (fun _=>rfl) ?_; intro v56; refine WS.oc (j:=2) rfl (fun hv56=>?_)
   refine Wz 1 ?_
   refine Wd (Qb (Qc (Ny 1 ?_)))
   refine Wk 1 Za ?_
   refine Wd ?_
   refine QS.sel [2,2,1,1] rfl ?_
   refine QS.weak (fun u hu=>hu.ollSnoc) ?_
   exact QS.head ((r.1+1,v56,r.2.2++[(v29,q.2.2)])) rfl rfl ⟨⟨by simp; omega,by simp; omega,by simp only; rw [J0l hr3,e1,Juj (by omega) (by rw [← hcode]; simpa [fitB] using hc4), ← hcode]⟩,by simp; omega⟩
  refine Ck (Qb (Qc (Ny 1 ?_)))
  refine Wk 1 Za ?_
  refine Wd ?_
  refine QS.sel [1,1,1] rfl ?_
  exact QS.head ((r.1+1,r.2.1,r.2.2)) rfl rfl ⟨⟨by simp; omega,by simp; omega,by simp only; rw [hr3,e1,Jw6 (by omega) (by rw [← hcode]; simpa [fitB] using hc4)]⟩,by simp; omega⟩
 refine Cv (Qe (Qe (Qx (Qc (Nz 2 ?_)))))
 exact Wd (Qc (Cr (out1 rfl rfl (retL (f:=id) (by rw [hr3,Jug (by omega)])))))
theorem J2z (lw ls:Int) (cs:List Clue) (gs:List Value) (cv:Value) (w:World) (hk:ClS w cv cs gs) :
  Calls Tryz.prog 279 #[.agg #[.int .i64 lw,.int .i64 ls],cv] w (RetB w (.tuple #[.int .i64 (if Jcy lw ls cs=0 then ((Jkh lw ls cs).length:Int) else 0),.int .i64 (Jcy lw ls cs)])):=by
 refine enter Tryz.func279 rfl rfl (Nat.le_of_ble_eq_true rfl) ?_
 refine Nz 0 ?_
 refine Wb 2 rfl rfl (fun _=>rfl) (fun _=>rfl) fun b2 hb2=>?_
 refine Wd (Qc (Cs (Nz 0 ?_)))
 refine Wk 1 (Bb 0) ?_
 refine Wk 1 (Cb rfl rfl Kaj (fun u hu=>Jm3 _ _ _ _ _ u (hk.st hu))) ?_
 refine Wd (Qc (Nz 2 ?_))
 refine Wd (Qc (CS.cond rfl ?_ ?_))<;>intro hc1<;>try simp only [bq] at hc1
 ·
  refine Nz 3 ?_
  exact Wd (Qc (Cr (Qr (out2 rfl rfl rfl (Jab (by simp [hc1]))))))
 have hL:=Jj5 hc1
 have hC:=Jjs hc1
 refine Ck (Qc (Nz 0 ?_))
 refine Wk 1 (Bb 0) ?_
 refine Wc rfl rfl J8r (fun u hu=>Ka7 _ _ _ _ _ u hL hC (hk.st hu)) (fun _=>rfl) ?_; rintro ⟨va,ga⟩ ⟨ua,hva⟩
 refine Wk 2 (Jb6 sl33 rfl (by first | exact SlL.sp (by assumption) | exact ClS.sp (by assumption))) ?_
 exact Wd (Qc (Cr (out2 rfl rfl rfl (Jab (by simp [hc1])))))
end Go.Proofs.YtbboikncaihafaaGreatDoor
