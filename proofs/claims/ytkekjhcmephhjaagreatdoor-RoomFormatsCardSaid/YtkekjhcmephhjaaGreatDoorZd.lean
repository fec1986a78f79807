/- Merged texts of this proof (walks and plain laws), printed by a program of the prover. -/
import Derived.Test.YtkekjhcmephhjaaGreatDoorZb
import Derived.Tactics
import Derived.Tactics2
import Derived.Defers
import Derived.Recover
import Derived.WalkSmall
import Derived.Laws.Pointers
import Derived.Test.YtkekjhcmephhjaaGreatDoorZc
set_option maxHeartbeats 8000000
namespace Go.Proofs.YtkekjhcmephhjaaGreatDoor
open Go.RowKit Go.Proofs
set_option maxRecDepth 100000
set_option linter.unusedVariables false
set_option linter.unusedSimpArgs false
def pchain:List PanicEntry:=[{ v:=.iface 122 (.agg #[]),recovered:=false }]
theorem J3f (w:World):Calls Tryz.prog 66 #[.bool true] w fun e w'=>w'=w∧e = .returned (.tuple #[]):=by
 go_enter Tryz.func66,Tryz.ntmps66
 go_wp2
 go_end0
 exact ⟨rfl,rfl⟩
theorem J01 (w:World):Calls Tryz.prog 66 #[.bool false] w fun e w'=>w'=w∧e = .panicked pchain:=by
 go_enter Tryz.func66,Tryz.ntmps66
 go_wp2
 exact ⟨rfl,rfl,rfl⟩
theorem Jqb (p:Addr) (w:World) :
  CallsD Tryz.prog 62 #[.pointer (some p)] .returning w fun e u' w'=>e = .returned (.tuple #[])∧u' = .returning∧w'=w:=by
 refine callsD_of_wpS Tryz.func62 rfl fun c₀ cs hu=>?_
 apply wpS_seq
 apply wpS_region
 simp [wpOpsS,go_sem,recoverD,hu,Tryz.ntmps62,Exit.thenS]
 apply wpS_seq
 apply wpS_region
 simp [wpOpsS,go_sem,recoverD,hu,Tryz.ntmps62,Exit.thenS]
 refine wpS_cond (t:=false) (by simp [Act.eval,Array.replicate]) ?_
 simp only [Bool.false_eq_true,if_false]
 refine wpS_of_wp (wp_skip ?_)
 cases c₀
 simp_all [bodyPostS,results,Tryz.results62]
set_option maxRecDepth 20000 in
theorem Jy7 (p:Addr) (x:Bool) (w:World) (hc:(w.alloc (.cells #[] 122)).cell? p=some (.bool x)) (hz:(w.alloc (.cells #[] 122)).frozen? p=false) :
  CallsD Tryz.prog 62 #[.pointer (some p)] (.panicking pchain) w fun e u' w' =>
   e = .returned (.tuple #[])∧u' = .panicking [{ v:=.iface 122 (.agg #[]),recovered:=true }]∧w'=(w.alloc (.cells #[] 122)).setCell p (.bool false):=by
 refine callsD_of_wpS Tryz.func62 rfl fun c₀ cs hu=>?_
 apply wpS_seq
 apply wpS_region
 simp [wpOpsS,go_sem,recoverD,hu,pchain,Tryz.ntmps62,Exit.thenS]
 apply wpS_seq
 apply wpS_region
 simp [wpOpsS,go_sem,recoverD,hu,Tryz.ntmps62,Exit.thenS]
 refine wpS_cond (t:=true) (by simp [Act.eval,Array.replicate]) ?_
 simp only [if_true]
 refine wpS_of_wp ?_
 have hta:∀ w:World,(Instr.typeAssert (.iface 122 (.agg #[])) 20 122 true).run Tryz.prog w = .ok (.tuple #[.agg #[],.bool true]) w:=fun w=>by
  simp [Instr.typeAssert,run_underlying Tryz.underlying122,go_sem,Result.andThen]
 go_wp2
 exact ⟨rfl,_,rfl,.tuple #[],by simp [results,Tryz.results62],rfl,rfl,rfl⟩
theorem Jhq (n lo hi:Int) (w:World) :
  Calls Tryz.prog 101 #[.int .i64 n,.int .i64 lo,.int .i64 hi] w (RetB w (.bool (decide (lo≤n) && decide (n≤hi)))):=by
 refine enter Tryz.func101 rfl rfl (Nat.le_of_ble_eq_true rfl) ?_
 refine Nz 1 ?_
 refine Wd (Qc (Nz 4 ?_))
 refine Wt 0 rfl rfl (fun hg=>Fm) ?_
 refine Wt 0 rfl rfl (fun hg=>Fm) ?_
 refine Wt 0 rfl rfl (fun hg=>Fk) ?_
 refine Wk 1 Pa ?_
 exact Wd (Qc (Cr (out1 rfl rfl (Jah (by simp)))))
theorem Jbh (n lo hi:Int) (w:World) :
  Calls Tryz.prog 77 #[.int .i64 n,.int .i64 lo,.int .i64 hi] w (RetB w (.bool (decide (lo≤n) && decide (n≤hi)))):=by
 refine enter Tryz.func77 rfl rfl (Nat.le_of_ble_eq_true rfl) ?_
 refine Nz 1 ?_
 refine Wd (Qc (Nz 4 ?_))
 refine Wt 0 rfl rfl (fun hg=>Fm) ?_
 refine Wt 0 rfl rfl (fun hg=>Fm) ?_
 refine Wt 0 rfl rfl (fun hg=>Fk) ?_
 refine Wk 1 Pa ?_
 exact Wd (Qc (Cr (out1 rfl rfl (Jah (by simp)))))
theorem Jzx (w:World) :
  Calls Tryz.prog 184 #[] w (fun e w'=>∃ v:Value,(∃ u0,SlT cStr u0 ⟨v,wordL⟩)∧RetF w v (roT cStr ⟨v,wordL⟩) e w'):=by
 refine enter Tryz.func184 rfl rfl (Nat.le_of_ble_eq_true rfl) ?_
 refine Nz 1 ?_
 refine Wd (Qc (Nz 0 ?_))
 refine WS.buildSlice1 (pl:=[(0,.const (.string ⟨#[97,116]⟩)),(1,.const (.string ⟨#[115,116,97,116,101,115]⟩)),(2,.const (.string ⟨#[115,116,97,114,116]⟩)),(3,.const (.string ⟨#[103,111,110,101]⟩)),(4,.const (.string ⟨#[105,102]⟩)),(5,.const (.string ⟨#[108,111,99,107]⟩)),(6,.const (.string ⟨#[119,105,116,104]⟩)),(7,.const (.string ⟨#[115,101,116,115]⟩)),(8,.const (.string ⟨#[115,112,101,110,100,115]⟩)),(9,.const (.string ⟨#[98,114,105,110,103,115]⟩))]) (vs:=wordL.map .string) sl23 zv9 rfl rfl (by decide) (by intro v hv; simp only [wordL,List.map_cons,List.map_nil,List.mem_cons,List.not_mem_nil,or_false] at hv; rcases hv with rfl | rfl | rfl | rfl | rfl | rfl | rfl | rfl | rfl | rfl <;> rfl) (fun _=>rfl) ?_; intro v1
 refine Wz 1 ?_
 refine Wd (Qc (Cr ?_))
 refine QS.weak (L':=[roT cStr ⟨v1,wordL⟩]) (fun u hu=>St.toRo (A:=osl 9 1 v1 10 (wordL.map .string)) (p:=fun u=>SlT cStr u ⟨v1,wordL⟩) (fun S u h=>⟨Jbt h.2,fun _ _=>trivial⟩) hu) ?_
 exact out1 rfl rfl (fun u hu=>⟨_,⟨u,hu.ro (j:=0) rfl⟩,retF (j:=0) rfl u hu⟩)
theorem Jsz (tx:ByteArray) (w:World) (hm:(tx.size:Int)≤9223372036854775806) :
  Calls Tryz.prog 142 #[.string tx] w (RetB w (.bool (Ja7 tx))):=by
 refine enter Tryz.func142 rfl rfl (Nat.le_of_ble_eq_true rfl) ?_
 refine Nz 1 ?_
 refine Wd (Qc (Cs (Nz 1 ?_)))
 refine Wd (Qc (Ce ?_))
 refine CS.loopM (σ:=Int) [2,6,7,8,9,10,11,12,13,14,15,16,17,18,19,20,21] (fun s=>[(3,.int .i64 s)]) (fun _=>_) (fun s=>0≤s∧s≤tx.size∧∀ j:Int,0≤j→j < s→97≤byt tx j∧byt tx j≤122) (fun s=>(tx.size - s).toNat) 0 (fun _ _=>rfl) rfl rfl ⟨by omega,by omega,fun j _ _=>by omega⟩ ?_
 intro s t hs
 obtain ⟨hs1,hs2,hs3⟩:=hs
 refine Cs (Nz 2 ?_)
 refine Wk 1 (Jbb Tryz.underlying9 rfl) ?_
 refine Wd (Qc (CS.cond rfl ?_ ?_))<;>intro hc1<;>try simp only [bq] at hc1
 ·
  refine Ck (Qc (Cs (Ce (Nz 2 ?_))))
  refine Wk 2 (Jcl Tryz.underlying9 rfl rfl (by omega) (by omega)) ?_
  refine Wf 0 rfl rfl (fun hg=>Fm) ?_
  refine Wf 0 rfl rfl (fun hg=>Fm) ?_
  refine Wf 0 rfl rfl (fun hg=>Jcl Tryz.underlying9 (eg_ hg rfl) (eg_ hg rfl) (by (try simp only [bq] at hg); omega) (by (try simp only [bq] at hg); omega)) ?_
  refine Wf 0 rfl rfl (fun hg=>Fg) ?_
  refine Wk 0 Po ?_
  refine Wd (Qc (CS.cond rfl ?_ ?_))<;>intro hc2<;>try simp only [bq] at hc2
  ·
   refine Nz 1 ?_
   exact Wd (Qc (Cr (Qs (Qr (Qr (Qs (Qr (out1 rfl rfl (Jah (by unfold Ja7; rw [Js7 hs1 (by omega) (by omega)]; rfl))))))))))
  refine Ck (Qb (Qc (Ny 1 ?_)))
  refine Wk 1 Za ?_
  refine Wd ?_
  exact QS.head (s+1) rfl rfl ⟨⟨by omega,by omega,fun j h0 h1=>by
     rcases (show j < s∨j=s by omega) with h | h
     ·
      exact hs3 j h0 h
     rw [h]; omega⟩,by omega⟩
 refine Cv (Qe (Qe (Qx (Qc (Nz 0 ?_)))))
 refine Wc rfl rfl J1d (fun u hu=>Jzx u) (fun _=>rfl) ?_; rintro v22 ⟨u22,hv22⟩
 refine Wz 1 ?_
 refine Wd (Qc (Cs (Nz 1 ?_)))
 refine Wd (Qc (Ce ?_))
 refine CS.loopM (σ:=Int) [2,23,24,25,26,27,28,29,30,31,32,33,34] (fun s=>[(5,.int .i64 s)]) (fun _=>_) (fun s=>0≤s∧s≤10∧∀ j:Int,0≤j→j < s→seq (nth wordL j) tx=false) (fun s=>(10 - s).toNat) 0 (fun _ _=>rfl) rfl rfl ⟨by omega,by omega,fun j _ _=>by omega⟩ ?_
 intro q t hs
 obtain ⟨hq1,hq2,hq3⟩:=hs
 refine Cs (Nz 2 ?_)
 refine WS.det rfl rfl rfl (Jdw (n:=10) sl23 rfl hv22.sp) rfl ?_
 refine Wz 1 ?_
 refine Wd (Qc (CS.cond rfl ?_ ?_))<;>intro hc3<;>try simp only [bq] at hc3
 ·
  refine Ck (Qc (Cs (Ce (Nz 2 ?_))))
  refine Wk 0 (Jeh sl23 rfl rfl rfl rfl hv22 (by omega) (by simp [wordL]; omega)) ?_
  refine Wk 1 (Jpm (jj:=0) rfl rfl rfl rfl ⟨by omega,by simp [wordL]; omega⟩ rfl tk9) ?_
  refine Wk 0 (Ja2 rfl rfl) ?_
  refine Wd (Qc (CS.cond rfl ?_ ?_))<;>intro hc4<;>try simp only [bq] at hc4
  ·
   refine Nz 1 ?_
   refine Wd (Qc (Cr (Qs (Qr (Qr (Qs (Qr ?_)))))))
   exact out1 rfl rfl (Jah (by
      have:(wordL.any fun x=>seq x tx)=true:=List.any_eq_true.2 ⟨_,Jak hq1 (by simp [wordL]; omega),hc4⟩
      unfold Ja7; rw [this]; simp))
  refine Ck (Qb (Qc (Ny 1 ?_)))
  refine Wk 1 Za ?_
  refine Wd ?_
  exact QS.head (q+1) rfl rfl ⟨⟨by omega,by omega,fun j h0 h1=>by
     rcases (show j < q∨j=q by omega) with h | h
     ·
      exact hq3 j h0 h
     rw [h]; exact hc4⟩,by omega⟩
 refine Cv (Qe (Qe (Qx (Qc (Nz 1 ?_)))))
 refine Wk 1 (Jcm rfl rfl) ?_
 refine Wd (Qc (Cr ?_))
 exact out1 rfl rfl (Jah (by
    have h1:lowB tx=true:=Jn8 fun j h0 h1=>hs3 j h0 (by omega)
    have h2:(wordL.any fun x=>seq x tx)=false:=by
     rw [List.any_eq_false]
     intro x hx
     obtain ⟨i,h0,h3,rfl⟩:=Ja4 hx
     rw [hq3 i h0 (by simp [wordL] at h3; omega)]; simp
    unfold Ja7; rw [h1,h2]; rfl))
theorem Jk3 (tx:ByteArray) (w:World) (hm:(tx.size:Int)≤9223372036854775806) :
  Calls Tryz.prog 98 #[.string tx] w (RetB w (.bool (Jay tx))):=by
 refine enter Tryz.func98 rfl rfl (Nat.le_of_ble_eq_true rfl) ?_
 refine Nz 1 ?_
 refine Wd (Qc (Nz 1 ?_))
 refine Wk 2 (Jbb Tryz.underlying9 rfl) ?_
 refine Wt 0 rfl rfl (fun hg=>Fm) ?_
 refine Wt 0 rfl rfl (fun hg=>Cb rfl (ec_ (eg_ hg rfl) en_) J2s (fun u hu=>Jsz _ u (by omega))) ?_
 refine Wk 1 Pa ?_
 exact Wd (Qc (Cr (out1 rfl rfl (Jah (by simp [Jay])))))
theorem Jix (r:Room) (w:World) (hr:RoomOk w r) (n:Int) :
  Calls Tryz.prog 100 #[.agg #[r.pls.v,r.ths.v,r.prs.v,r.wys.v,r.acs.v,r.aus.v,.int .i64 r.ply,r.gl.v],.int .i64 n] w (RetB w (.bool (decide (0≤n) && decide (n≤r.pls.l.length - 1)))):=by
 have kpl:=hr.pls
 have lpl:=hr.pls.le
 have kth:=hr.ths
 have lth:=hr.ths.le
 have kpr:=hr.prs
 have lpr:=hr.prs.le
 have kwy:=hr.wys
 have lwy:=hr.wys.le
 have kac:=hr.acs
 have lac:=hr.acs.le
 have kau:=hr.aus
 have lau:=hr.aus.le
 have kgl:=hr.gl
 have lgl:=hr.gl.le
 refine enter Tryz.func100 rfl rfl (Nat.le_of_ble_eq_true rfl) ?_
 refine Nz 0 ?_
 refine Wb 1 rfl rfl (fun _=>rfl) (fun _=>rfl) fun b2 hb2=>?_
 refine Wd (Qc (Nz 2 ?_))
 refine Wk 0 (Ba 0) ?_
 refine Wk 0 Nc ?_
 refine Wk 0 Zb ?_
 refine Wk 1 (Cb rfl rfl Jhs (fun u hu=>Jhq _ _ _ u)) ?_
 exact Wd (Qc (Cr (out1 rfl rfl (Jah rfl))))
theorem Jz2 (r:Room) (w:World) (hr:RoomOk w r) (a b:Int) :
  Calls Tryz.prog 104 #[.agg #[r.pls.v,r.ths.v,r.prs.v,r.wys.v,r.acs.v,r.aus.v,.int .i64 r.ply,r.gl.v],.int .i64 a,.int .i64 b] w (RetB w (.bool (putB r.ths.l a b))):=by
 have kpl:=hr.pls
 have lpl:=hr.pls.le
 have kth:=hr.ths
 have lth:=hr.ths.le
 have kpr:=hr.prs
 have lpr:=hr.prs.le
 have kwy:=hr.wys
 have lwy:=hr.wys.le
 have kac:=hr.acs
 have lac:=hr.acs.le
 have kau:=hr.aus
 have lau:=hr.aus.le
 have kgl:=hr.gl
 have lgl:=hr.gl.le
 refine enter Tryz.func104 rfl rfl (Nat.le_of_ble_eq_true rfl) ?_
 refine Nz 0 ?_
 refine Wb 1 rfl rfl (fun _=>rfl) (fun _=>rfl) fun b3 hb3=>?_
 refine Wd (Qc (Nz 2 ?_))
 refine Wk 0 (Ba 0) ?_
 refine Wk 0 Nc ?_
 refine Wk 0 Zb ?_
 refine Wk 1 (Cb rfl rfl Jhs (fun u hu=>Jhq _ _ _ u)) ?_
 refine Wt 0 rfl rfl (fun hg=>Fm) ?_
 refine Wt 0 rfl rfl (fun hg=>Ff) ?_
 refine Wt 0 rfl rfl (fun hg=>Ba 0) ?_
 refine Wt 0 rfl rfl (fun hg=>Fm) ?_
 refine Wt 0 rfl rfl (fun hg=>Jeh (C:=cThing) (s:=r.ths) sl24 (eg_ hg rfl) (eg_ hg rfl) rfl rfl hr.ths (by (try simp only [decide_eq_true_eq,Bool.and_eq_true] at hg); omega) (by (try simp only [decide_eq_true_eq,Bool.and_eq_true] at hg); omega)) ?_
 refine Wt 0 rfl rfl (fun hg=>Ff) ?_
 refine Wt 0 rfl rfl (fun hg=>Jgl (C:=cThing) (s:=r.ths) (i:=a) (j:=2) (eg_ hg rfl) rfl rfl hr.ths (by (try simp only [decide_eq_true_eq,Bool.and_eq_true] at hg); omega) (by decide) rfl tk3) ?_
 refine Wt 0 rfl rfl (fun hg=>Jpf (eg_ hg rfl) rfl) ?_
 refine Wt 0 rfl rfl (fun hg=>Cb rfl (ec_ (eg_ hg rfl) (ec_ rfl (ec_ (eg_ hg rfl) en_))) Jhs (fun u hu=>Jhq _ _ _ u)) ?_
 refine Wk 1 Pa ?_
 exact Wd (Qc (Cr (out1 rfl rfl (Jah rfl))))
theorem Jgf (r:Room) (w:World) (hr:RoomOk w r) (c:Sl Lit) (hk:SlT cLit w c) :
  Calls Tryz.prog 102 #[.agg #[r.pls.v,r.ths.v,r.prs.v,r.wys.v,r.acs.v,r.aus.v,.int .i64 r.ply,r.gl.v],c.v] w (RetB w (.bool (Jeg r.ths.l c.l))):=by
 have kpl:=hr.pls
 have lpl:=hr.pls.le
 have kth:=hr.ths
 have lth:=hr.ths.le
 have kpr:=hr.prs
 have lpr:=hr.prs.le
 have kwy:=hr.wys
 have lwy:=hr.wys.le
 have kac:=hr.acs
 have lac:=hr.acs.le
 have kau:=hr.aus
 have lau:=hr.aus.le
 have kgl:=hr.gl
 have lgl:=hr.gl.le
 have hcs:=hk.sp
 have lcs:=hk.le
 refine enter Tryz.func102 rfl rfl (Nat.le_of_ble_eq_true rfl) ?_
 refine Nz 0 ?_
 refine Wb 1 rfl rfl (fun _=>rfl) (fun _=>rfl) fun b2 hb2=>?_
 refine Wd (Qc (Cs (Nz 1 ?_)))
 refine Wd (Qc (Ce ?_))
 refine CS.loopM (σ:=Int) [4,6,7,8,9,10,11,12,13,14,15,16,17,18,19,20,21,22,23,24] (fun s=>[(5,.int .i64 s)]) (fun _=>_) (fun s=>0≤s∧s≤c.l.length∧∀ j:Int,0≤j→j < s→putB r.ths.l (nth c.l j).t (nth c.l j).s=true) (fun s=>(c.l.length - s).toNat) 0 (fun _ _=>rfl) rfl rfl ⟨by omega,by omega,fun j _ _=>by omega⟩ ?_
 intro s t hs
 obtain ⟨hs1,hs2,hs3⟩:=hs
 refine Cs (Nz 2 ?_)
 refine Wk 1 Nc ?_
 refine Wd (Qc (CS.cond rfl ?_ ?_))<;>intro hc1<;>try simp only [bq] at hc1
 ·
  refine Ck (Qc (Cs (Ce (Cs (Dr mixed 0 ?_)))))
  refine Dk 2 (Bb 0) ?_
  refine Dk 1 (Jeh (C:=cLit) (s:=c) sl30 rfl rfl rfl rfl hk (by omega) (by omega)) ?_
  refine Dk 2 (Jgl (C:=cLit) (s:=c) (i:=s) (j:=0) rfl rfl rfl hk ⟨by omega,by omega⟩ (by decide) rfl tk3) ?_
  refine Dk 1 (Jeh (C:=cLit) (s:=c) sl30 rfl rfl rfl rfl hk (by omega) (by omega)) ?_
  refine Dk 0 (Jgl (C:=cLit) (s:=c) (i:=s) (j:=1) rfl rfl rfl hk ⟨by omega,by omega⟩ (by decide) rfl tk3) ?_
  refine Dk 1 (Cb rfl rfl Jtu (fun u hu=>Jz2 r u (hr.st hu) _ _)) ?_
  refine Dd (Qc (CS.cond rfl ?_ ?_))<;>intro hc2<;>try simp only [bq] at hc2
  ·
   refine Nz 1 ?_
   refine Wd (Qc (Cr (Qs (Qr (Qr (Qs (Qr ?_)))))))
   exact out1 rfl rfl (Jah (by
      have:c.l.all (fun x=>putB r.ths.l x.t x.s)=false:=by
       rw [List.all_eq_false]
       exact ⟨_,Jak hs1 (by omega),by simpa using hc2⟩
      unfold Jeg; rw [this]; rfl))
  refine Ck (Qb (Qc (Ny 1 ?_)))
  refine Wk 1 Za ?_
  refine Wd ?_
  exact QS.head (s+1) rfl rfl ⟨⟨by omega,by omega,fun j h0 h1=>by
     rcases (show j < s∨j=s by omega) with h | h
     ·
      exact hs3 j h0 h
     rw [h]; exact hc2⟩,by omega⟩
 refine Cv (Qe (Qe (Qx (Qc (Nz 1 ?_)))))
 refine Wk 2 Nc ?_
 refine Wd (Qc (Cr ?_))
 exact out1 rfl rfl (Jah (by
    have:c.l.all (fun x=>putB r.ths.l x.t x.s)=true:=by
     rw [List.all_eq_true]
     intro x hx
     obtain ⟨i,h0,h3,rfl⟩:=Ja4 hx
     exact hs3 i h0 (by omega)
    unfold Jeg; rw [this]; rfl))
theorem in_c (xs:List Int) (v:Value) (n:Int) (w:World) (h1:SlI w v xs) :
  Calls Tryz.prog 147 #[v,.int .i64 n] w (RetB w (.bool (decide (n∈xs)))):=by
 have hl1:=h1.le
 refine enter Tryz.func147 rfl rfl (Nat.le_of_ble_eq_true rfl) ?_
 refine Nz 1 ?_
 refine Wd (Qc (Cs (Nz 1 ?_)))
 refine Wd (Qc (Ce ?_))
 refine CS.loopM (σ:=Int) [4,6,7,8,9,10,11,12,13,14,15,16,17] (fun s=>[(5,.int .i64 s)]) (fun _=>_) (fun s=>0≤s∧s≤xs.length∧∀ j:Int,0≤j→j < s→¬ nth xs j=n) (fun s=>(xs.length - s).toNat) 0 (fun _ _=>rfl) rfl rfl ⟨by omega,by omega,fun j _ _=>by omega⟩ ?_
 intro s t hs
 obtain ⟨hs1,hs2,hs3⟩:=hs
 refine Cs (Nz 2 ?_)
 refine Wk 1 Na ?_
 refine Wd (Qc (CS.cond rfl ?_ ?_))<;>intro hc1<;>try simp only [bq] at hc1
 ·
  refine Ck (Qc (Cs (Ce (Nz 2 ?_))))
  refine Wk 0 Xa ?_
  refine Wk 2 Ia ?_
  refine Wd (Qc (CS.cond rfl ?_ ?_))<;>intro hc2<;>try simp only [bq] at hc2
  ·
   refine Nz 1 ?_
   exact Wd (Qc (Cr (Qs (Qr (Qr (Qs (Qr (out1 rfl rfl (Jah (by rw [decide_eq_true (by rw [← hc2]; exact Jak hs1 (by omega))]))))))))))
  refine Ck (Qb (Qc (Ny 1 ?_)))
  refine Wk 1 Za ?_
  refine Wd ?_
  exact QS.head (s+1) rfl rfl ⟨⟨by omega,by omega,fun j h0 h1=>by
     rcases (show j < s∨j=s by omega) with h | h
     ·
      exact hs3 j h0 h
     rw [h]; exact hc2⟩,by omega⟩
 refine Cv (Qe (Qe (Qx (Qc (Nz 1 ?_)))))
 refine Wd (Qc (Cr ?_))
 exact out1 rfl rfl (Jah (by
    rw [decide_eq_false]
    intro hm
    obtain ⟨i,h0,h3,h4⟩:=Ja4 hm
    exact hs3 i h0 (by omega) h4))
theorem Jhl (xs ys:List Int) (v1 v2:Value) (w:World) (h1:SlI w v1 xs) (h2:SlI w v2 ys) :
  Calls Tryz.prog 105 #[v1,v2] w (RetB w (.bool (decide (xs=ys)))):=by
 have hl1:=h1.le
 have hl2:=h2.le
 refine enter Tryz.func105 rfl rfl (Nat.le_of_ble_eq_true rfl) ?_
 refine Nz 1 ?_
 refine Wd (Qc (Cs (Nz 1 ?_)))
 refine Wk 1 Na ?_
 refine Wk 1 Na ?_
 refine Wd (Qc (CS.cond rfl ?_ ?_))<;>intro hc1<;>try simp only [bq] at hc1
 ·
  refine Nz 1 ?_
  exact Wd (Qc (Cr (Qr (out1 rfl rfl (Jah (Jyj fun h=>by subst h; omega))))))
 refine Ck (Qc (Cs (Nz 1 ?_)))
 refine Wd (Qc (Ce ?_))
 refine CS.loopM (σ:=Int) [4,11,12,13,14,15,16,17,18,19,20,21,22,23,24,25] (fun s=>[(5,.int .i64 s)]) (fun _=>_) (fun s=>0≤s∧s≤xs.length∧xs.length=ys.length∧∀ j:Int,0≤j→j < s→nth xs j=nth ys j) (fun s=>(xs.length - s).toNat) 0 (fun _ _=>rfl) rfl rfl ⟨by omega,by omega,by omega,fun j h1 h2=>by omega⟩ ?_
 intro s t hs
 obtain ⟨hs1,hs2,hs3,hs4⟩:=hs
 refine Cs (Nz 2 ?_)
 refine Wk 1 Na ?_
 refine Wd (Qc (CS.cond rfl ?_ ?_))<;>intro hc2<;>try simp only [bq] at hc2
 ·
  refine Ck (Qc (Cs (Ce (Cs (Dr mixed 2 ?_)))))
  refine Dk 0 Xa ?_
  refine Dk 2 Ia ?_
  refine Dk 0 Xa ?_
  refine Dk 1 Ia ?_
  refine Dd (Qc (CS.cond rfl ?_ ?_))<;>intro hc3<;>try simp only [bq] at hc3
  ·
   refine Nz 1 ?_
   exact Wd (Qc (Cr (Qs (Qr (Qr (Qs (Qr (out1 rfl rfl (Jah (Jyj fun h=>by subst h; omega))))))))))
  refine Ck (Qb (Qc (Ny 1 ?_)))
  refine Wk 1 Za ?_
  exact Wd (QS.head (s+1) rfl rfl ⟨⟨by omega,by omega,hs3,fun j h1 h2=>if hj:j=s then by rw [hj]; omega else hs4 j h1 (by omega)⟩,by omega⟩)
 refine Cv (Qe (Qe (Qx (Qc (Nz 1 ?_)))))
 exact Wd (Qc (Cr (out1 rfl rfl (Jah (J0x (Jz8 hs3 fun i h1 h2=>hs4 i h1 (by omega)))))))
theorem Jrh (l:Sl ByteArray) (i:Int) (w:World) (hk:SlT cStr w l) (h0:0≤i) (h1:i < l.l.length) :
  Calls Tryz.prog 99 #[l.v,.int .i64 i] w (RetB w (.bool ((l.l.take i.toNat).any fun x=>seq x (nth l.l i)))):=by
 have hls:=hk.sp
 have lls:=hk.le
 refine enter Tryz.func99 rfl rfl (Nat.le_of_ble_eq_true rfl) ?_
 refine Nz 1 ?_
 refine Wd (Qc (Cs (Nz 1 ?_)))
 refine Wd (Qc (Ce ?_))
 refine CS.loopM (σ:=Int) [4,6,7,8,9,10,11,12,13,14,15,16,17,18,19] (fun s=>[(5,.int .i64 s)]) (fun _=>_) (fun s=>0≤s∧s≤i∧∀ j:Int,0≤j→j < s→seq (nth l.l j) (nth l.l i)=false) (fun s=>(i - s).toNat) 0 (fun _ _=>rfl) rfl rfl ⟨by omega,by omega,fun j _ _=>by omega⟩ ?_
 intro s t hs
 obtain ⟨hs1,hs2,hs3⟩:=hs
 refine Cs (Nz 3 ?_)
 refine Wd (Qc (CS.cond rfl ?_ ?_))<;>intro hc1<;>try simp only [bq] at hc1
 ·
  refine Ck (Qc (Cs (Ce (Cs (Dr mixed 2 ?_)))))
  refine Dk 0 (Jeh (C:=cStr) (s:=l) sl23 rfl rfl rfl rfl hk (by omega) (by omega)) ?_
  refine Dk 2 (Jkx (C:=cStr) (s:=l) (i:=s) rfl rfl rfl hk ⟨by omega,by omega⟩ rfl tk9) ?_
  refine Dk 0 (Jeh (C:=cStr) (s:=l) sl23 rfl rfl rfl rfl hk (by omega) (by omega)) ?_
  refine Dk 0 (Jkx (C:=cStr) (s:=l) (i:=i) rfl rfl rfl hk ⟨by omega,by omega⟩ rfl tk9) ?_
  refine Dk 0 (Ja2 rfl rfl) ?_
  refine Dd (Qc (CS.cond rfl ?_ ?_))<;>intro hc2<;>try simp only [bq] at hc2
  ·
   refine Nz 1 ?_
   exact Wd (Qc (Cr (Qs (Qr (Qr (Qs (Qr (out1 rfl rfl (Jah (by rw [Jdz hs1 hc1 (by omega) hc2]))))))))))
  refine Ck (Qb (Qc (Ny 1 ?_)))
  refine Wk 1 Za ?_
  refine Wd ?_
  exact QS.head (s+1) rfl rfl ⟨⟨by omega,by omega,fun j h0 h1=>by
     rcases (show j < s∨j=s by omega) with h | h
     ·
      exact hs3 j h0 h
     rw [h]; exact hc2⟩,by omega⟩
 refine Cv (Qe (Qe (Qx (Qc (Nz 1 ?_)))))
 exact Wd (Qc (Cr (out1 rfl rfl (Jah (by rw [Jf5 fun j a b=>hs3 j a (by omega)])))))
theorem Jqy (l:Sl Int) (w:World) (hk:SlT cInt w l) (hm:(l.l.length:Int)≤1000000) :
  Calls Tryz.prog 37 #[l.v] w (fun e w'=>∃ v:Value,v.oneCell'=true∧RetF w v (oints 3 v l.l) e w'):=by
 have hki:=hk.ints
 have hone:=hk.one
 refine enter Tryz.func37 rfl rfl (Nat.le_of_ble_eq_true rfl) ?_
 refine Nz 1 ?_
 refine Wd (Qc (Nz 0 ?_))
 refine WS.build0 sl43 zv3 (fun _=>rfl) ?_; intro v3
 refine Wz 1 ?_
 refine WS.append (j:=0) (xs:=[]) (news:=ints l.l) (m:=l.l.length) sl43 zv3 rfl (by decide) rfl rfl rfl (fun u hu=>(hk.st hu).ints) (by simp [ints,Value.oneCell']) (by omega) (by omega) (fun _=>rfl) (fun _=>rfl) ?_; intro v5; refine WS.oc (j:=0) rfl (fun hv5=>?_)
 refine Wz 1 ?_
 refine Wd (Qc (Cr ?_))
 exact out1 rfl rfl (fun u hu=>⟨v5,hv5,by
   have:=retF (v:=v5) (j:=0) rfl u hu
   rw [Nat.zero_add] at this
   exact this⟩)
theorem Jd8 (l:Sl Lit) (w:World) (hk:SlT cLit w l) (hm:(l.l.length:Int)≤1000000) :
  Calls Tryz.prog 36 #[l.v] w (fun e w'=>∃ v:Value,(∃ u0,SlT cLit u0 ⟨v,l.l⟩)∧RetF w v (roT cLit ⟨v,l.l⟩) e w'):=by
 have hls:=hk.sp
 have hone:=hk.one
 refine enter Tryz.func36 rfl rfl (Nat.le_of_ble_eq_true rfl) ?_
 refine Nz 1 ?_
 refine Wd (Qc (Nz 0 ?_))
 refine WS.build0 sl30 zv96 (fun _=>rfl) ?_; intro v3
 refine Wz 1 ?_
 refine WS.append (j:=0) (xs:=[]) (news:=Jax cLit l.l) (m:=l.l.length) sl30 zv96 rfl (by decide) rfl rfl rfl (fun u hu=>(hk.st hu).sp) hone (by omega) (by omega) (fun _=>rfl) (fun _=>rfl) ?_; intro v5
 refine Wz 1 ?_
 refine Wd (Qc (Cr ?_))
 refine QS.weak (L':=[roT cLit ⟨v5,l.l⟩]) (fun u hu=>St.toRo (A:=osl 96 3 v5 (0+l.l.length) ([]++Jax cLit l.l)) (p:=fun u=>SlT cLit u ⟨v5,l.l⟩) (fun S u h=>⟨by have:=Jbt h.2; rw [Nat.zero_add] at this; exact this,fun _ _=>trivial⟩) hu) ?_
 exact out1 rfl rfl (fun u hu=>⟨_,⟨u,hu.ro (j:=0) rfl⟩,retF (j:=0) rfl u hu⟩)
theorem Jfx (r:Room) (w:World) (hr:RoomOk w r) (v:Value) (xs:List Int) (hx:SlI w v xs) :
  Calls Tryz.prog 146 #[.agg #[r.pls.v,r.ths.v,r.prs.v,r.wys.v,r.acs.v,r.aus.v,.int .i64 r.ply,r.gl.v],v] w (RetB w (.bool (ascB r.prs.l.length xs))):=by
 have kpl:=hr.pls
 have lpl:=hr.pls.le
 have kth:=hr.ths
 have lth:=hr.ths.le
 have kpr:=hr.prs
 have lpr:=hr.prs.le
 have kwy:=hr.wys
 have lwy:=hr.wys.le
 have kac:=hr.acs
 have lac:=hr.acs.le
 have kau:=hr.aus
 have lau:=hr.aus.le
 have kgl:=hr.gl
 have lgl:=hr.gl.le
 have lxs:=hx.le
 refine enter Tryz.func146 rfl rfl (Nat.le_of_ble_eq_true rfl) ?_
 refine Nz 0 ?_
 refine Wb 1 rfl rfl (fun _=>rfl) (fun _=>rfl) fun b2 hb2=>?_
 refine Wd (Qc (Cs (Nz 1 ?_)))
 refine Wd (Qc (Ce ?_))
 refine CS.loopM (σ:=Int) [4,6,7,8,9,10,11,12,13,14,15,16,17,18,19,20,21,22,23,24,25,26,27,28,29,30,31,32,33,34,35,36,37] (fun s=>[(5,.int .i64 s)]) (fun _=>_) (fun s=>0≤s∧s≤xs.length∧∀ j:Int,0≤j→j < s→((decide (0≤nth xs j) && decide (nth xs j≤(r.prs.l.length:Int) - 1)) && (decide (j=0) || decide (nth xs (j - 1) < nth xs j)))=true) (fun s=>(xs.length - s).toNat) 0 (fun _ _=>rfl) rfl rfl ⟨by omega,by omega,fun j _ _=>by omega⟩ ?_
 intro s t hs
 obtain ⟨hs1,hs2,hs3⟩:=hs
 refine Cs (Nz 2 ?_)
 refine Wk 1 Na ?_
 refine Wd (Qc (CS.cond rfl ?_ ?_))<;>intro hc1<;>try simp only [bq] at hc1
 ·
  refine Ck (Qc (Cs (Ce (Cs (Dr mixed 2 ?_)))))
  refine Dk 0 Xa ?_
  refine Dk 1 Ia ?_
  refine Dk 0 (Ba 0) ?_
  refine Dk 0 Nc ?_
  refine Dk 0 Zb ?_
  refine Dk 2 (Cb rfl rfl Jhs (fun u hu=>Jhq _ _ _ u)) ?_
  refine Df 0 rfl rfl (fun hg=>Fm) ?_
  refine Df 0 rfl rfl (fun hg=>Fg) ?_
  refine Df 0 rfl rfl (fun hg=>Fm (eg_ hg rfl)) ?_
  refine Dn 0 rfl rfl rfl (fun hg=>Fm) ?_
  refine Dn 0 rfl rfl rfl (fun hg=>Fm) ?_
  refine Dn 0 rfl rfl rfl (fun hg=>Xa (eg_ hg rfl)) ?_
  refine Dn 0 rfl rfl rfl (fun hg=>Ia) ?_
  refine Dn 0 rfl rfl rfl (fun hg=>Fm) ?_
  refine Dn 0 rfl rfl rfl (fun hg=>Fm) ?_
  refine Dn 0 rfl rfl rfl (fun hg=>Zb) ?_
  refine Dn 0 rfl rfl rfl (fun hg=>Xa (eg_ hg rfl)) ?_
  refine Dn 0 rfl rfl rfl (fun hg=>Ia) ?_
  refine Dn 0 rfl rfl rfl (fun hg=>Fk) ?_
  refine Df 0 rfl rfl (fun hg=>Jc8 (eg_ hg rfl) (Jh8 hg rfl) rfl) ?_
  refine Dk 0 Po ?_
  refine Dd (Qc (CS.cond rfl ?_ ?_))<;>intro hc2<;>try simp only [bq] at hc2
  ·
   refine Nz 1 ?_
   exact Wd (Qc (Cr (Qs (Qr (Qr (Qs (Qr (out1 rfl rfl (Jah (by rw [show ascB r.prs.l.length xs=false from Jfy hs1 (by omega) (by simp only [Bool.and_eq_false_iff,Bool.or_eq_false_iff,decide_eq_false_iff_not]; omega)]))))))))))
  refine Ck (Qb (Qc (Ny 1 ?_)))
  refine Wk 1 Za ?_
  refine Wd ?_
  exact QS.head (s+1) rfl rfl ⟨⟨by omega,by omega,fun j h0 h1=>by
     rcases (show j < s∨j=s by omega) with h | h
     ·
      exact hs3 j h0 h
     rw [h]; simp only [Bool.and_eq_true,Bool.or_eq_true,decide_eq_true_eq]; omega⟩,by omega⟩
 refine Cv (Qe (Qe (Qx (Qc (Nz 1 ?_)))))
 exact Wd (Qc (Cr (out1 rfl rfl (Jah (by rw [show ascB r.prs.l.length xs=true from Jei fun j h0 h1=>hs3 j h0 (by omega)])))))
theorem J36 (r:Room) (w:World) (hr:RoomOk w r) (i:Int) (h0:0≤i) (h1:i < r.acs.l.length) (hn:∀ x∈r.acs.l,x.nm.size≤70000) :
  Calls Tryz.prog 103 #[.agg #[r.pls.v,r.ths.v,r.prs.v,r.wys.v,r.acs.v,r.aus.v,.int .i64 r.ply,r.gl.v],.int .i64 i] w (RetB w (.bool (actB r i))):=by
 have kpl:=hr.pls
 have lpl:=hr.pls.le
 have kth:=hr.ths
 have lth:=hr.ths.le
 have kpr:=hr.prs
 have lpr:=hr.prs.le
 have kwy:=hr.wys
 have lwy:=hr.wys.le
 have kac:=hr.acs
 have lac:=hr.acs.le
 have kau:=hr.aus
 have lau:=hr.aus.le
 have kgl:=hr.gl
 have lgl:=hr.gl.le
 have ha:ActOk w (nth r.acs.l i):=hr.acs.at h0 h1
 have hus:=ha.us.ints
 have hsp:=ha.sp.ints
 have hbr:=ha.br.ints
 have kse:=ha.se
 have lse:=kse.le
 have lus:=hus.le
 have lsp:=hsp.le
 have lbr:=hbr.le
 have hnm:=hn _ (Jak h0 h1)
 refine enter Tryz.func103 rfl rfl (Nat.le_of_ble_eq_true rfl) ?_
 refine Nz 0 ?_
 refine Wb 1 rfl rfl (fun _=>rfl) (fun _=>rfl) fun b2 hb2=>?_
 refine Wd (Qc (Nz 1 ?_))
 refine Wk 1 (Ba 0) ?_
 refine Wk 0 Xc ?_
 refine Wk 0 Ua ?_
 refine Wl 0 zv73 (fun _=>rfl) (fun _=>rfl) fun b5 hb5=>?_
 refine Wv 0 0 ?_
 refine Wd (Qc (Cs (Nz 1 ?_)))
 refine Wd (Qc (Ce ?_))
 refine CS.loopM (σ:=Int) [4,16,17,18,19,20,21,22,23,24,25,26,27,28,29] (fun s=>[(6,.int .i64 s)]) (fun _=>_) (fun s=>0≤s∧s≤i∧∀ j:Int,0≤j→j < s→seq (nth r.acs.l j).nm (nth r.acs.l i).nm=false) (fun s=>(i - s).toNat) 0 (fun _ _=>rfl) rfl rfl ⟨by omega,by omega,fun j _ _=>by omega⟩ ?_
 intro a t hs
 obtain ⟨ha1,ha2,ha3⟩:=hs
 refine Cs (Nz 3 ?_)
 refine Wd (Qc (CS.cond rfl ?_ ?_))<;>intro hc1<;>try simp only [bq] at hc1
 ·
  refine Ck (Qc (Cs (Ce (Cs (Dr mixed 1 ?_)))))
  refine Dk 1 (Ba 1) ?_
  refine Dk 1 Xc ?_
  refine Dk 1 (Uc 8 0) ?_
  refine Dk 0 (Ba 0) ?_
  refine Dk 0 (Ja2 rfl rfl) ?_
  refine Dd (Qc (CS.cond rfl ?_ ?_))<;>intro hc2<;>try simp only [bq] at hc2
  ·
   refine Nz 1 ?_
   exact Wd (Qc (Cr (Qs (Qr (Qr (Qs (Qr (out1 rfl rfl (Jah (by rw [show actB r i=false by unfold actB newB; rw [Jdz ha1 hc1 (by omega) hc2]; rfl]))))))))))
  refine Ck (Qb (Qc (Ny 1 ?_)))
  refine Wk 1 Za ?_
  refine Wd ?_
  exact QS.head (a+1) rfl rfl ⟨⟨by omega,by omega,fun j h0 h1=>by
     rcases (show j < a∨j=a by omega) with h | h
     ·
      exact ha3 j h0 h
     rw [h]; exact hc2⟩,by omega⟩
 refine Cv (Qe (Qe (Qx (Qc (Cs (Nz 1 ?_))))))
 refine Wk 0 (Ba 0) ?_
 refine Wk 2 (Cb rfl rfl Jvm (fun u hu=>Jk3 _ u (by omega))) ?_
 refine Wf 0 rfl rfl (fun hg=>Bb 1) ?_
 refine Wf 0 rfl rfl (fun hg=>Ff) ?_
 refine Wf 0 rfl rfl (fun hg=>Ba 0) ?_
 refine Wf 0 rfl rfl (fun hg=>Cb rfl (ec_ (eg_ hg rfl) (ec_ (eg_ hg rfl) en_)) Jl7 (fun u hu=>Jix r u (hr.st hu) _)) ?_
 refine Wf 0 rfl rfl (fun hg=>Fn) ?_
 refine Wk 1 Po ?_
 refine Wf 0 rfl rfl (fun hg=>Ff) ?_
 refine Wf 0 rfl rfl (fun hg=>Ba 0) ?_
 refine Wf 0 rfl rfl (fun hg=>Cb rfl (ec_ (eg_ hg rfl) (ec_ rfl (ec_ rfl en_))) Jhs (fun u hu=>Jhq _ _ _ u)) ?_
 refine Wf 0 rfl rfl (fun hg=>Fn) ?_
 refine Wk 1 Po ?_
 refine Wf 0 rfl rfl (fun hg=>Bb 1) ?_
 refine Wf 0 rfl rfl (fun hg=>Ff) ?_
 refine Wf 0 rfl rfl (fun hg=>Ba 0) ?_
 refine Wf 0 rfl rfl (fun hg=>Cb rfl (ec_ (eg_ hg rfl) (ec_ (eg_ hg rfl) en_)) Jut (fun u hu=>Jfx r u (hr.st hu) _ _ (hus.st hu))) ?_
 refine Wf 0 rfl rfl (fun hg=>Fn) ?_
 refine Wk 1 Po ?_
 refine Wf 0 rfl rfl (fun hg=>Bb 1) ?_
 refine Wf 0 rfl rfl (fun hg=>Ff) ?_
 refine Wf 0 rfl rfl (fun hg=>Ba 0) ?_
 refine Wf 0 rfl rfl (fun hg=>Cb rfl (ec_ (eg_ hg rfl) (ec_ (eg_ hg rfl) en_)) Jut (fun u hu=>Jfx r u (hr.st hu) _ _ (hsp.st hu))) ?_
 refine Wf 0 rfl rfl (fun hg=>Fn) ?_
 refine Wk 1 Po ?_
 refine Wf 0 rfl rfl (fun hg=>Bb 1) ?_
 refine Wf 0 rfl rfl (fun hg=>Ff) ?_
 refine Wf 0 rfl rfl (fun hg=>Ba 0) ?_
 refine Wf 0 rfl rfl (fun hg=>Cb rfl (ec_ (eg_ hg rfl) (ec_ (eg_ hg rfl) en_)) Jut (fun u hu=>Jfx r u (hr.st hu) _ _ (hbr.st hu))) ?_
 refine Wf 0 rfl rfl (fun hg=>Fn) ?_
 refine Wk 1 Po ?_
 refine Wf 0 rfl rfl (fun hg=>Ff) ?_
 refine Wf 0 rfl rfl (fun hg=>Ba 0) ?_
 refine Wf 0 rfl rfl (fun hg=>Nc (eg_ hg rfl)) ?_
 refine Wf 0 rfl rfl (fun hg=>Fg) ?_
 refine Wk 0 Po ?_
 refine Wd (Qc (CS.cond rfl ?_ ?_))<;>intro hc3<;>try simp only [bq] at hc3
 ·
  refine Nz 1 ?_
  exact Wd (Qc (Cr (Qr (out1 rfl rfl (Jah (by unfold actB; rw [show act2 r (nth r.acs.l i)=false by (unfold act2 placeB; grind)]; simp))))))
 refine Ck (Qc (Cs (Nz 1 ?_)))
 refine Wd (Qc (Ce ?_))
 refine CS.loopM (σ:=Int) [4,74,75,76,77,78,79,80,81,82,83,84,85,86,87,88,89] (fun s=>[(7,.int .i64 s)]) (fun _=>_) (fun s=>0≤s∧s≤(nth r.acs.l i).sp.l.length∧∀ j:Int,0≤j→j < s→nth (nth r.acs.l i).sp.l j∈(nth r.acs.l i).us.l) (fun s=>((nth r.acs.l i).sp.l.length - s).toNat) 0 (fun _ _=>rfl) rfl rfl ⟨by omega,by omega,fun j _ _=>by omega⟩ ?_
 intro b t hs
 obtain ⟨hb1,hb2,hb3⟩:=hs
 refine Cs (Nz 2 ?_)
 refine Wk 0 (Ba 0) ?_
 refine Wk 1 Na ?_
 refine Wd (Qc (CS.cond rfl ?_ ?_))<;>intro hc4<;>try simp only [bq] at hc4
 ·
  refine Ck (Qc (Cs (Ce (Cs (Dr mixed 1 ?_)))))
  refine Dk 1 (Ba 0) ?_
  refine Dk 1 (Ba 0) ?_
  refine Dk 0 Xa ?_
  refine Dk 0 Ia ?_
  refine Dk 1 (Cb rfl rfl Jx0 (fun u hu=>in_c _ _ _ u (hus.st hu))) ?_
  refine Dd (Qc (CS.cond rfl ?_ ?_))<;>intro hc5<;>try simp only [bq] at hc5
  ·
   refine Nz 1 ?_
   exact Wd (Qc (Cr (Qs (Qr (Qr (Qs (Qr (out1 rfl rfl (Jah (by unfold actB; rw [show act3 (nth r.acs.l i)=false from Jfy hb1 (by omega) (by simpa using hc5)]; simp))))))))))
  refine Ck (Qb (Qc (Ny 1 ?_)))
  refine Wk 1 Za ?_
  refine Wd ?_
  exact QS.head (b+1) rfl rfl ⟨⟨by omega,by omega,fun j h0 h1=>by
     rcases (show j < b∨j=b by omega) with h | h
     ·
      exact hb3 j h0 h
     rw [h]; exact hc5⟩,by omega⟩
 refine Cv (Qe (Qe (Qx (Qc (Cs (Nz 1 ?_))))))
 refine Wd (Qc (Ce ?_))
 refine CS.loopM (σ:=Int) [4,90,91,92,93,94,95,96,97,98,99,100,101,102,103,104] (fun s=>[(8,.int .i64 s)]) (fun _=>_) (fun s=>0≤s∧s≤(nth r.acs.l i).br.l.length∧∀ j:Int,0≤j→j < s→nth (nth r.acs.l i).br.l j ∉ (nth r.acs.l i).us.l) (fun s=>((nth r.acs.l i).br.l.length - s).toNat) 0 (fun _ _=>rfl) rfl rfl ⟨by omega,by omega,fun j _ _=>by omega⟩ ?_
 intro c t hs
 obtain ⟨hc1,hc2,hc3⟩:=hs
 refine Cs (Nz 2 ?_)
 refine Wk 0 (Ba 0) ?_
 refine Wk 1 Na ?_
 refine Wd (Qc (CS.cond rfl ?_ ?_))<;>intro hc6<;>try simp only [bq] at hc6
 ·
  refine Ck (Qc (Cs (Ce (Cs (Dr mixed 1 ?_)))))
  refine Dk 1 (Ba 0) ?_
  refine Dk 1 (Ba 0) ?_
  refine Dk 0 Xa ?_
  refine Dk 0 Ia ?_
  refine Dk 0 (Cb rfl rfl Jx0 (fun u hu=>in_c _ _ _ u (hus.st hu))) ?_
  refine Dd (Qc (CS.cond rfl ?_ ?_))<;>intro hc7<;>try simp only [bq] at hc7
  ·
   refine Nz 1 ?_
   exact Wd (Qc (Cr (Qs (Qr (Qr (Qs (Qr (out1 rfl rfl (Jah (by unfold actB; rw [show act4 (nth r.acs.l i)=false from Jfy hc1 (by omega) (by simpa using hc7)]; simp))))))))))
  refine Ck (Qb (Qc (Ny 1 ?_)))
  refine Wk 1 Za ?_
  refine Wd ?_
  exact QS.head (c+1) rfl rfl ⟨⟨by omega,by omega,fun j h0 h1=>by
     rcases (show j < c∨j=c by omega) with h | h
     ·
      exact hc3 j h0 h
     rw [h]; exact hc7⟩,by omega⟩
 refine Cv (Qe (Qe (Qx (Qc (Cs (Nz 1 ?_))))))
 refine Wd (Qc (Ce ?_))
 refine CS.loopM (σ:=Int) [4,10,105,106,107,108,109,110,111,112,113,114,115,116,117,118,119,120,121,122,123,124,125,126,127,128,129,130,131,132,133,134,135,136,137,138,139,140,141,142,143,144] (fun s=>[(9,.int .i64 s)]) (fun _=>_) (fun s=>0≤s∧s≤(nth r.acs.l i).se.l.length∧∀ j:Int,0≤j→j < s→(putB r.ths.l (nth (nth r.acs.l i).se.l j).t (nth (nth r.acs.l i).se.l j).s && !(((nth r.acs.l i).se.l.take j.toNat).any fun x=>decide (x.t=(nth (nth r.acs.l i).se.l j).t)))=true) (fun s=>((nth r.acs.l i).se.l.length - s).toNat) 0 (fun _ _=>rfl) rfl rfl ⟨by omega,by omega,fun j _ _=>by omega⟩ ?_
 intro p t hs
 obtain ⟨hp1,hp2,hp3⟩:=hs
 refine Cs (Nz 2 ?_)
 refine Wk 0 (Ba 0) ?_
 refine Wk 1 Nc ?_
 refine Wd (Qc (CS.cond rfl ?_ ?_))<;>intro hc8<;>try simp only [bq] at hc8
 ·
  refine Ck (Qc (Cs (Ce (Cs (Cs (Dr mixed 0 ?_))))))
  refine Dk 1 (Bb 1) ?_
  refine Dk 1 (Ba 0) ?_
  refine Dk 1 Xc ?_
  refine Dk 1 (Uc 2 0) ?_
  refine Dk 1 (Ba 0) ?_
  refine Dk 1 Xc ?_
  refine Dk 0 (Uc 2 1) ?_
  refine Dk 1 (Cb rfl rfl Jtu (fun u hu=>Jz2 r u (hr.st hu) _ _)) ?_
  refine Dd (Qc (CS.cond rfl ?_ ?_))<;>intro hc9<;>try simp only [bq] at hc9
  ·
   refine Nz 1 ?_
   exact Wd (Qc (Cr (Qr (Qs (Qr (Qr (Qs (Qr (out1 rfl rfl (Jah (by unfold actB; rw [show act5 r (nth r.acs.l i)=false from Jfy hp1 (by omega) (by rw [hc9]; rfl)]; simp)))))))))))
  refine Ck (Qc (Nz 1 ?_))
  refine Wd (Qc (Ce ?_))
  refine CS.loopM (σ:=Int) [4,127,128,129,130,131,132,133,134,135,136,137,138,139,140,141,142,143,144] (fun s=>[(10,.int .i64 s)]) (fun _=>_) (fun s=>0≤s∧s≤p∧∀ j:Int,0≤j→j < s→¬ (nth (nth r.acs.l i).se.l j).t=(nth (nth r.acs.l i).se.l p).t) (fun s=>(p - s).toNat) 0 (fun _ _=>rfl) rfl rfl ⟨by omega,by omega,fun j _ _=>by omega⟩ ?_
  intro q t hs
  obtain ⟨hq1,hq2,hq3⟩:=hs
  refine Cs (Nz 3 ?_)
  refine Wd (Qc (CS.cond rfl ?_ ?_))<;>intro hc10<;>try simp only [bq] at hc10
  ·
   refine Ck (Qc (Cs (Ce (Cs (Dr mixed 1 ?_)))))
   refine Dk 1 (Ba 0) ?_
   refine Dk 1 Xc ?_
   refine Dk 1 (Uc 2 0) ?_
   refine Dk 1 (Ba 0) ?_
   refine Dk 1 Xc ?_
   refine Dk 1 (Uc 2 0) ?_
   refine Dd (Qc (CS.cond rfl ?_ ?_))<;>intro hc11<;>try simp only [bq] at hc11
   ·
    refine Nz 1 ?_
    exact Wd (Qc (Cr (Qs (Qr (Qr (Qs (Qs (Qr (Qr (Qs (Qr (out1 rfl rfl (Jah (by unfold actB; rw [show act5 r (nth r.acs.l i)=false from Jfy hp1 (by omega) (by rw [Jdz (p:=fun x:Put=>decide (x.t=(nth (nth r.acs.l i).se.l p).t)) hq1 hc10 (by omega) (decide_eq_true hc11)]; simp)]; simp))))))))))))))
   refine Ck (Qb (Qc (Ny 1 ?_)))
   refine Wk 1 Za ?_
   refine Wd ?_
   exact QS.head (q+1) rfl rfl ⟨⟨by omega,by omega,fun j h0 h1=>by
      rcases (show j < q∨j=q by omega) with h | h
      ·
       exact hq3 j h0 h
      rw [h]; exact hc11⟩,by omega⟩
  refine Cv (Qe (Qe (Qx (Qb (Qc (Ny 1 ?_))))))
  refine Wk 1 Za ?_
  refine Wd ?_
  exact QS.head (p+1) rfl rfl ⟨⟨by omega,by omega,fun j h0 h1=>by
     rcases (show j < p∨j=p by omega) with h | h
     ·
      exact hp3 j h0 h
     rw [h]; rw [hc9,Jf5 (p:=fun x:Put=>decide (x.t=(nth (nth r.acs.l i).se.l p).t)) fun j a b=>decide_eq_false (hq3 j a (by omega))]; rfl⟩,by omega⟩
 refine Cv (Qe (Qe (Qx (Qc (Nz 1 ?_)))))
 refine Wd (Qc (Cr ?_))
 have q1:newB Actn.nm r.acs.l i=true:=by unfold newB; rw [Jf5 fun j a b=>ha3 j a (by omega)]; rfl
 have q2:act2 r (nth r.acs.l i)=true:=by (unfold act2 placeB; grind)
 have q3:act3 (nth r.acs.l i)=true:=Jei fun j a b=>decide_eq_true (hb3 j a (by omega))
 have q4:act4 (nth r.acs.l i)=true:=Jei fun j a b=>by rw [decide_eq_false (hc3 j a (by omega))]; rfl
 have q5:act5 r (nth r.acs.l i)=true:=Jei fun j a b=>hp3 j a (by omega)
 exact out1 rfl rfl (Jah (by unfold actB; rw [q1,q2,q3,q4,q5]; rfl))
theorem Jps {n0:Nat} {w0 u:World} {L:List SA} {j:Nat} {e:TypeId} {v:Value} {xs:List ByteArray} {a:ByteArray} (hj:L[j]? = some (osl e 1 v (Jax cStr xs++[Value.string a]).length (Jax cStr xs++[Value.string a]))) (hu:St n0 w0 L u):SlT cStr u ⟨v,xs++[a]⟩:=by
 have h:=Jcq hu hj
 refine ⟨?_,fun _ _=>trivial⟩
 have h2:Jax cStr xs++[Value.string a]=Jax cStr (xs++[a]):=by rw [Jex,Jmm]; rfl
 have h3:(Jax cStr xs++[Value.string a]).length=(xs++[a]).length:=by rw [h2,Jbx]; exact Nat.mul_one _
 rw [h3,h2] at h
 exact h
theorem Jlw {α:Type} [Inhabited α] (f:α→ByteArray) {l:List α} {s:Int} (h0:0≤s) (h1:s < l.length):Jax cStr ((l.take s.toNat).map f)++[Value.string (f (nth l s))]=Jax cStr ((l.take (s+1).toNat).map f):=by
 have h2:s.toNat < l.length:=by omega
 rw [show (s+1).toNat=s.toNat+1 by omega,List.take_succ_eq_append_getElem h2,List.map_append,Jex]
 congr 1
 simp [Jax,cStr,nth,List.getD,h2]
theorem Jol {α:Type} (f:α→ByteArray) {l:List α} {s:Int} (h0:0≤s) (h1:s≤l.length):(Jax cStr ((l.take s.toNat).map f)).length=s.toNat:=by
 rw [Jbx,List.length_map,List.length_take]
 show min s.toNat l.length * 1=s.toNat
 omega
theorem Jtb {α:Type} [Inhabited α] (f:α→ByteArray) {l:List α} {i:Int} (h0:0≤i) (h1:i < l.length) :
  ((((l.take i.toNat).map f++[f (nth l i)]).take i.toNat).any fun x=>seq x (nth ((l.take i.toNat).map f++[f (nth l i)]) i)) = !newB f l i:=by
 have h2:((l.take i.toNat).map f).length=i.toNat:=by simp; omega
 rw [Juo h2,List.take_append_of_le_length (by omega),List.take_of_length_le (by omega),List.any_map]
 unfold newB
 rw [Bool.not_not]
 rfl
theorem Jpq {α:Type} [Inhabited α] (f:α→ByteArray) (l:List α) (i:Int) (v:Value) (w:World) (hk:SlT cStr w ⟨v,(l.take i.toNat).map f++[f (nth l i)]⟩) (h0:0≤i) (h1:i < l.length) :
  Calls Tryz.prog 99 #[v,.int .i64 i] w (RetB w (.bool (!newB f l i))):=by
 have:=Jrh ⟨v,(l.take i.toNat).map f++[f (nth l i)]⟩ i w hk h0 (by simp; omega)
 rwa [Jtb f h0 h1] at this
theorem Jxp (l:Sl ByteArray) (i:Int) (w:World) (hk:SlT cStr w l) (h0:0≤i) (h1:i < l.l.length) :
  Calls Tryz.prog 99 #[l.v,.int .i64 i] w (RetB w (.bool (!newB id l.l i))):=by
 have:=Jrh l i w hk h0 h1
 unfold newB
 rwa [Bool.not_not]
theorem Jtd (r:Room) (w:World) (hr:RoomOk w r) (hn:NmB r) :
  Calls Tryz.prog 23 #[.agg #[r.pls.v,r.ths.v,r.prs.v,r.wys.v,r.acs.v,r.aus.v,.int .i64 r.ply,r.gl.v]] w (RetB w (.int .i64 (checkE r))):=by
 have kpl:=hr.pls
 have lpl:=hr.pls.le
 have kth:=hr.ths
 have lth:=hr.ths.le
 have kpr:=hr.prs
 have lpr:=hr.prs.le
 have kwy:=hr.wys
 have lwy:=hr.wys.le
 have kac:=hr.acs
 have lac:=hr.acs.le
 have kau:=hr.aus
 have lau:=hr.aus.le
 have kgl:=hr.gl
 have lgl:=hr.gl.le
 refine enter Tryz.func23 rfl rfl (Nat.le_of_ble_eq_true rfl) ?_
 refine Nz 0 ?_
 refine Wb 1 rfl rfl (fun _=>rfl) (fun _=>rfl) fun b1 hb1=>?_
 refine Wd (Qc (Cs (Nz 1 ?_)))
 refine Wk 0 (Ba 0) ?_
 refine Wk 2 Nc ?_
 refine Wf 0 rfl rfl (fun hg=>Ff) ?_
 refine Wf 0 rfl rfl (fun hg=>Ba 0) ?_
 refine Wf 0 rfl rfl (fun hg=>Nc (eg_ hg rfl)) ?_
 refine Wf 0 rfl rfl (fun hg=>Fg) ?_
 refine Wk 1 Po ?_
 refine Wf 0 rfl rfl (fun hg=>Ff) ?_
 refine Wf 0 rfl rfl (fun hg=>Ba 0) ?_
 refine Wf 0 rfl rfl (fun hg=>Nc (eg_ hg rfl)) ?_
 refine Wf 0 rfl rfl (fun hg=>Fg) ?_
 refine Wk 1 Po ?_
 refine Wf 0 rfl rfl (fun hg=>Ff) ?_
 refine Wf 0 rfl rfl (fun hg=>Ba 0) ?_
 refine Wf 0 rfl rfl (fun hg=>Nc (eg_ hg rfl)) ?_
 refine Wf 0 rfl rfl (fun hg=>Fg) ?_
 refine Wk 1 Po ?_
 refine Wf 0 rfl rfl (fun hg=>Ff) ?_
 refine Wf 0 rfl rfl (fun hg=>Ba 0) ?_
 refine Wf 0 rfl rfl (fun hg=>Nc (eg_ hg rfl)) ?_
 refine Wf 0 rfl rfl (fun hg=>Fg) ?_
 refine Wk 1 Po ?_
 refine Wf 0 rfl rfl (fun hg=>Ff) ?_
 refine Wf 0 rfl rfl (fun hg=>Ba 0) ?_
 refine Wf 0 rfl rfl (fun hg=>Nc (eg_ hg rfl)) ?_
 refine Wf 0 rfl rfl (fun hg=>Fg) ?_
 refine Wk 0 Po ?_
 refine Wd (Qc (CS.cond rfl ?_ ?_))<;>intro hc1<;>try simp only [bq] at hc1
 ·
  refine Nz 1 ?_
  exact Wd (Qc (Cr (Qr (out1 rfl rfl (Jah (by rw [show checkE r=2 from if_pos (by (unfold manyB; grind))]))))))
 have e0:manyB r=false:=by (unfold manyB; grind)
 refine Ck (Qc (Cs (Nz 1 ?_)))
 refine Wk 0 (Ba 0) ?_
 refine Wk 1 Nc ?_
 refine Wd (Qc (CS.cond rfl ?_ ?_))<;>intro hc2<;>try simp only [bq] at hc2
 ·
  refine Nz 1 ?_
  exact Wd (Qc (Cr (Qr (out1 rfl rfl (Jah (by unfold checkE; rw [if_neg (by rw [e0]; decide),if_pos (by omega)]))))))
 have e1:checkE r=Jgw r:=by unfold checkE; rw [if_neg (by rw [e0]; decide),if_neg (by omega)]
 refine Ck (Qc (Cs (Nz 1 ?_)))
 refine Wd (Qc (Ce ?_))
 refine CS.loopM (σ:=Int) [2,51,52,53,54,55,56,57,58,59,60,61,62,63,64,65,66,67,68,69,70] (fun s=>[(3,.int .i64 s)]) (fun _=>_) (fun s=>0≤s∧s≤r.pls.l.length∧∀ j:Int,0≤j→j < s→plO r j=0) (fun s=>(r.pls.l.length - s).toNat) 0 (fun _ _=>rfl) rfl rfl ⟨by omega,by omega,fun j _ _=>by omega⟩ ?_
 intro a t hs
 obtain ⟨ha1,ha2,ha3⟩:=hs
 refine Cs (Nz 2 ?_)
 refine Wk 0 (Ba 0) ?_
 refine Wk 1 Nc ?_
 refine Wd (Qc (CS.cond rfl ?_ ?_))<;>intro hc3<;>try simp only [bq] at hc3
 ·
  have hnm:=hn.pl _ (Jak ha1 (by omega))
  refine Ck (Qc (Cs (Ce (Nz 1 ?_))))
  refine Wk 1 (Ba 0) ?_
  refine Wk 0 Xc ?_
  refine Wk 0 Ub ?_
  refine Wk 2 (Cb rfl rfl Jvm (fun u hu=>Jk3 _ u (by omega))) ?_
  refine Wf 0 rfl rfl (fun hg=>Ff) ?_
  refine Wf 0 rfl rfl (fun hg=>Ba 0) ?_
  refine Wf 0 rfl rfl (fun hg=>Fm) ?_
  refine Wf 0 rfl rfl (fun hg=>Cb rfl (ec_ (eg_ hg rfl) (ec_ (eg_ hg rfl) en_)) Jz5 (fun u hu=>Jxp r.pls _ u (hr.pls.st hu) ha1 (by omega))) ?_
  refine Wk 0 Po ?_
  refine Wd (Qc (CS.cond rfl ?_ ?_))<;>intro hc4<;>try simp only [bq] at hc4
  ·
   refine Nz 1 ?_
   refine Wd (Qc (Cr (Qs (Qr (Qr (Qs (Qr ?_)))))))
   exact out1 rfl rfl (Jah (by
      have hE:plO r a=22:=by (unfold plO ; grind)
      rw [e1,show Jgw r=22 from Jdt ((Jas ha1 (by omega) ha3 (by rw [hE]; decide)).trans hE) (by decide)]))
  refine Ck (Qb (Qc (Ny 1 ?_)))
  refine Wk 1 Za ?_
  refine Wd ?_
  exact QS.head (a+1) rfl rfl ⟨⟨by omega,by omega,fun j h0 h1=>by
     rcases (show j < a∨j=a by omega) with h | h
     ·
      exact ha3 j h0 h
     rw [h]; exact (show plO r a=0 by (unfold plO ; grind))⟩,by omega⟩
 have e2:checkE r=Jid r:=e1.trans (Jeo (Jau fun j a b=>ha3 j a (by omega)))
 refine Cv (Qe (Qe (Qx (Qc (Nz 1 ?_)))))
 refine Wd (Qc (Cs (Nz 1 ?_)))
 refine Wd (Qc (Ce ?_))
 refine CS.weak (fun _ hu=>hu.osl0 (e:=9) (size:=1)) ?_
 refine CS.loopM (σ:=Int × Value) [2,6,71,72,73,74,75,76,77,78,79,80,81,82,83,84,85,86,87,88,89,90,91,92,93,94,95,96,97,98,99,100,101,102,103,104,105,106,107,108,109,110,111,112,113,114,115,116,117,118] (fun s=>[(5,.int .i64 s.1),(4,s.2)]) (fun s=>[osl 9 1 s.2 (Jax cStr ((r.ths.l.take (s.1).toNat).map Thing.nm)).length (Jax cStr ((r.ths.l.take (s.1).toNat).map Thing.nm)),blk b1 [r.pls.v,r.ths.v,r.prs.v,r.wys.v,r.acs.v,r.aus.v,.int .i64 r.ply,r.gl.v] 32]) (fun s=>0≤s.1∧s.1≤r.ths.l.length∧∀ j:Int,0≤j→j < s.1→thO r j=0) (fun s=>(r.ths.l.length - s.1).toNat) (0,.slice none 0 0) (fun _ _=>rfl) rfl rfl ⟨by simp,by simp,fun j h0 h1=>by simp at h1; omega⟩ ?_
 intro b t hs
 obtain ⟨hb1,hb2,hb3⟩:=hs
 have hln:=Jol Thing.nm (l:=r.ths.l) hb1 hb2
 refine Cs (Nz 2 ?_)
 refine Wk 0 (Ba 1) ?_
 refine Wk 1 Nc ?_
 refine Wd (Qc (CS.cond rfl ?_ ?_))<;>intro hc5<;>try simp only [bq] at hc5
 ·
  have hnm:=hn.th _ (Jak hb1 (by omega))
  refine Ck (Qc (Cs (Ce (Nz 1 ?_))))
  refine Wk 1 (Ba 1) ?_
  refine Wk 0 Xc ?_
  refine Wk 0 Ua ?_
  refine Wl 0 zv65 (fun _=>rfl) (fun _=>rfl) fun b6 hb6=>?_
  refine Wv 0 0 ?_
  refine Wd (Qc (Nz 2 ?_))
  refine Wk 0 (Ba 0) ?_
  refine WS.buildV1 sl23 zv9 rfl (by first | rfl | assumption) (fun _=>rfl) ?_; intro v86
  refine WS.append1 (j:=2) (jz:=0) sl23 zv9 rfl rfl rfl rfl (by first | rfl | assumption) (by first | omega | (simp; omega) | (simp only [List.length_append,List.length_singleton,List.length_map,List.length_cons,List.length_nil] at *; omega)) (by first | omega | (simp; omega) | (simp only [List.length_append,List.length_singleton,List.length_map,List.length_cons,List.length_nil] at *; omega)) (fun _=>rfl) (fun _=>rfl) ?_; intro v87; refine WS.oc (j:=2) rfl (fun hv87=>?_)
  refine Wz 1 ?_
  refine Wd (Qc (Nz 1 ?_))
  refine Wk 0 (Ba 1) ?_
  refine Wk 2 (Cb rfl rfl Jvm (fun u hu=>Jk3 _ u (by omega))) ?_
  refine Wf 0 rfl rfl (fun hg=>Fm) ?_
  refine Wf 0 rfl rfl (fun hg=>Fm) ?_
  refine Wf 0 rfl rfl (fun hg=>Cb rfl (ec_ (eg_ hg rfl) (ec_ (eg_ hg rfl) en_)) Jz5 (fun u hu=>Jpq Thing.nm r.ths.l b.1 _ u (Jps (j:=2) rfl hu) hb1 (by omega))) ?_
  refine Wk 1 Po ?_
  refine Wf 0 rfl rfl (fun hg=>Bb 3) ?_
  refine Wf 0 rfl rfl (fun hg=>Ff) ?_
  refine Wf 0 rfl rfl (fun hg=>Ba 1) ?_
  refine Wf 0 rfl rfl (fun hg=>Cb rfl (ec_ (eg_ hg rfl) (ec_ (eg_ hg rfl) en_)) Jl7 (fun u hu=>Jix r u (hr.st hu) _)) ?_
  refine Wf 0 rfl rfl (fun hg=>Fn) ?_
  refine Wk 1 Po ?_
  refine Wf 0 rfl rfl (fun hg=>Ff) ?_
  refine Wf 0 rfl rfl (fun hg=>Ba 1) ?_
  refine Wf 0 rfl rfl (fun hg=>Cb rfl (ec_ (eg_ hg rfl) (ec_ rfl (ec_ rfl en_))) Jhs (fun u hu=>Jhq _ _ _ u)) ?_
  refine Wf 0 rfl rfl (fun hg=>Fn) ?_
  refine Wk 1 Po ?_
  refine Wf 0 rfl rfl (fun hg=>Ff) ?_
  refine Wf 0 rfl rfl (fun hg=>Ba 1) ?_
  refine Wf 0 rfl rfl (fun hg=>Ff) ?_
  refine Wf 0 rfl rfl (fun hg=>Ba 1) ?_
  refine Wf 0 rfl rfl (fun hg=>Zb) ?_
  refine Wf 0 rfl rfl (fun hg=>Cb rfl (ec_ (eg_ hg rfl) (ec_ rfl (ec_ (eg_ hg rfl) en_))) Jhs (fun u hu=>Jhq _ _ _ u)) ?_
  refine Wf 0 rfl rfl (fun hg=>Fn) ?_
  refine Wk 0 Po ?_
  refine Wd (Qc (CS.cond rfl ?_ ?_))<;>intro hc6<;>try simp only [bq] at hc6
  ·
   refine Nz 1 ?_
   refine Wd (Qc (Cr (Qs (Qr (Qr (Qs (Qr ?_)))))))
   exact out1 rfl rfl (Jah (by
      have hE:thO r b.1=21:=by (unfold thO thB placeB; grind)
      rw [e2,show Jid r=21 from Jdt ((Jas hb1 (by omega) hb3 (by rw [hE]; decide)).trans hE) (by decide)]))
  refine Ck (Qb (Qc (Ny 1 ?_)))
  refine Wk 1 Za ?_
  refine Wd ?_
  refine QS.sel [2,2] rfl ?_
  exact QS.head ((b.1+1,v87)) rfl (by simp only [Jlw Thing.nm (l:=r.ths.l) hb1 (by omega)]) ⟨⟨by simp; omega,by simp; omega,fun j h0 h1=>by
     simp only at h1
     rcases (show j < b.1∨j=b.1 by omega) with h | h
     ·
      exact hb3 j h0 h
     rw [h]; exact (show thO r b.1=0 by (unfold thO thB placeB; grind))⟩,by simp; omega⟩
 have e3:checkE r=Jgg r:=e2.trans (Jeo (Jau fun j a b=>hb3 j a (by omega)))
 refine Cv (Qe (Qe (Qx (Qc (Nz 1 ?_)))))
 refine Wd (Qc (Cs (Nz 1 ?_)))
 refine Wd (Qc (Ce ?_))
 refine CS.weak (fun _ hu=>hu.osl0 (e:=9) (size:=1)) ?_
 refine CS.sel [0,1] rfl ?_
 refine CS.loopM (σ:=Int × Value) [2,8,119,120,121,122,123,124,125,126,127,128,129,130,131,132,133,134,135,136,137,138,139,140,141,142,143,144,145,146,147,148,149,150,151,152,153,154,155,156,157,158,159,160,161] (fun s=>[(7,.int .i64 s.1),(4,s.2)]) (fun s=>[osl 9 1 s.2 (Jax cStr ((r.prs.l.take (s.1).toNat).map Pro.nm)).length (Jax cStr ((r.prs.l.take (s.1).toNat).map Pro.nm)),blk b1 [r.pls.v,r.ths.v,r.prs.v,r.wys.v,r.acs.v,r.aus.v,.int .i64 r.ply,r.gl.v] 32]) (fun s=>0≤s.1∧s.1≤r.prs.l.length∧∀ j:Int,0≤j→j < s.1→prO r j=0) (fun s=>(r.prs.l.length - s.1).toNat) (0,.slice none 0 0) (fun _ _=>rfl) rfl rfl ⟨by simp,by simp,fun j h0 h1=>by simp at h1; omega⟩ ?_
 intro d t hs
 obtain ⟨hd1,hd2,hd3⟩:=hs
 have hln:=Jol Pro.nm (l:=r.prs.l) hd1 hd2
 refine Cs (Nz 2 ?_)
 refine Wk 0 (Ba 1) ?_
 refine Wk 1 Nc ?_
 refine Wd (Qc (CS.cond rfl ?_ ?_))<;>intro hc7<;>try simp only [bq] at hc7
 ·
  have hnm:=hn.pr _ (Jak hd1 (by omega))
  have hwh:SlT cLit w (nth r.prs.l d.1).wh:=hr.prs.at hd1 (by omega)
  refine Ck (Qc (Cs (Ce (Nz 1 ?_))))
  refine Wk 1 (Ba 1) ?_
  refine Wk 0 Xc ?_
  refine Wk 0 Ua ?_
  refine Wl 0 zv67 (fun _=>rfl) (fun _=>rfl) fun b8 hb8=>?_
  refine Wv 0 0 ?_
  refine Wd (Qc (Nz 2 ?_))
  refine Wk 0 (Ba 0) ?_
  refine WS.buildV1 sl23 zv9 rfl (by first | rfl | assumption) (fun _=>rfl) ?_; intro v134
  refine WS.append1 (j:=2) (jz:=0) sl23 zv9 rfl rfl rfl rfl (by first | rfl | assumption) (by first | omega | (simp; omega) | (simp only [List.length_append,List.length_singleton,List.length_map,List.length_cons,List.length_nil] at *; omega)) (by first | omega | (simp; omega) | (simp only [List.length_append,List.length_singleton,List.length_map,List.length_cons,List.length_nil] at *; omega)) (fun _=>rfl) (fun _=>rfl) ?_; intro v135; refine WS.oc (j:=2) rfl (fun hv135=>?_)
  refine Wz 1 ?_
  refine Wd (Qc (Cs (Nz 1 ?_)))
  refine Wk 0 (Ba 1) ?_
  refine Wk 2 (Cb rfl rfl Jvm (fun u hu=>Jk3 _ u (by omega))) ?_
  refine Wf 0 rfl rfl (fun hg=>Fm) ?_
  refine Wf 0 rfl rfl (fun hg=>Fm) ?_
  refine Wf 0 rfl rfl (fun hg=>Cb rfl (ec_ (eg_ hg rfl) (ec_ (eg_ hg rfl) en_)) Jz5 (fun u hu=>Jpq Pro.nm r.prs.l d.1 _ u (Jps (j:=2) rfl hu) hd1 (by omega))) ?_
  refine Wk 1 Po ?_
  refine Wf 0 rfl rfl (fun hg=>Ff) ?_
  refine Wf 0 rfl rfl (fun hg=>Ba 1) ?_
  refine Wf 0 rfl rfl (fun hg=>Fr) ?_
  refine Wf 0 rfl rfl (fun hg=>Fm (eg_ hg rfl)) ?_
  refine Wn 0 rfl rfl rfl (fun hg=>Bb 3) ?_
  refine Wn 0 rfl rfl rfl (fun hg=>Ff) ?_
  refine Wn 0 rfl rfl rfl (fun hg=>Ba 1) ?_
  refine Wn 0 rfl rfl rfl (fun hg=>Cb rfl (ec_ (eg_ hg rfl) (ec_ (eg_ hg rfl) en_)) Jl7 (fun u hu=>Jix r u (hr.st hu) _)) ?_
  refine Wn 0 rfl rfl rfl (fun hg=>Fn) ?_
  refine Wf 0 rfl rfl (fun hg=>Jc8 (eg_ hg rfl) (Jh8 hg rfl) rfl) ?_
  refine Wk 0 Po ?_
  refine Wd (Qc (CS.cond rfl ?_ ?_))<;>intro hc8<;>try simp only [bq] at hc8
  ·
   refine Nz 1 ?_
   refine Wd (Qc (Cr (Qr (Qs (Qr (Qr (Qs (Qr ?_))))))))
   exact out1 rfl rfl (Jah (by
      have hE:prO r d.1=24:=by (unfold prO or0 placeB; grind)
      rw [e3,show Jgg r=24 from Jdt ((Jas hd1 (by omega) hd3 (by rw [hE]; decide)).trans hE) (by decide)]))
  refine Ck (Qc (Nz 0 ?_))
  refine Wk 1 (Bb 3) ?_
  refine Wk 0 (Ba 1) ?_
  refine Wk 1 (Cb rfl rfl Jms (fun u hu=>Jgf r u (hr.st hu) _ (hwh.st hu))) ?_
  refine Wd (Qc (CS.cond rfl ?_ ?_))<;>intro hc9<;>try simp only [bq] at hc9
  ·
   refine Nz 1 ?_
   refine Wd (Qc (Cr (Qs (Qr (Qr (Qs (Qr ?_)))))))
   exact out1 rfl rfl (Jah (by
      have hE:prO r d.1=25:=by (unfold prO or0 whO placeB; grind)
      rw [e3,show Jgg r=25 from Jdt ((Jas hd1 (by omega) hd3 (by rw [hE]; decide)).trans hE) (by decide)]))
  refine Ck (Qb (Qc (Ny 1 ?_)))
  refine Wk 1 Za ?_
  refine Wd ?_
  refine QS.sel [2,2] rfl ?_
  exact QS.head ((d.1+1,v135)) rfl (by simp only [Jlw Pro.nm (l:=r.prs.l) hd1 (by omega)]) ⟨⟨by simp; omega,by simp; omega,fun j h0 h1=>by
     simp only at h1
     rcases (show j < d.1∨j=d.1 by omega) with h | h
     ·
      exact hd3 j h0 h
     rw [h]; exact (show prO r d.1=0 by (unfold prO or0 whO placeB; grind))⟩,by simp; omega⟩
 have e4:checkE r=Jgz r:=e3.trans (Jeo (Jau fun j a b=>hd3 j a (by omega)))
 refine Cv (Qe (Qe (Qx (Qc (Cs (Nz 1 ?_))))))
 refine Wd (Qc (Ce ?_))
 refine CS.loopM (σ:=Int) [2,10,162,163,164,165,166,167,168,169,170,171,172,173,174,175,176,177,178,179,180,181,182,183,184,185,186,187,188,189,190,191,192,193,194,195,196,197] (fun s=>[(9,.int .i64 s)]) (fun _=>_) (fun s=>0≤s∧s≤r.wys.l.length∧∀ j:Int,0≤j→j < s→wyO r j=0) (fun s=>(r.wys.l.length - s).toNat) 0 (fun _ _=>rfl) rfl rfl ⟨by omega,by omega,fun j _ _=>by omega⟩ ?_
 intro e t hs
 obtain ⟨he1,he2,he3⟩:=hs
 refine Cs (Nz 2 ?_)
 refine Wk 0 (Ba 1) ?_
 refine Wk 1 Nc ?_
 refine Wd (Qc (CS.cond rfl ?_ ?_))<;>intro hc10<;>try simp only [bq] at hc10
 ·
  have hwh:SlT cLit w (nth r.wys.l e).wh:=hr.wys.at he1 (by omega)
  refine Ck (Qc (Cs (Ce (Nz 1 ?_))))
  refine Wk 1 (Ba 1) ?_
  refine Wk 0 Xc ?_
  refine Wk 0 Ua ?_
  refine Wl 0 zv69 (fun _=>rfl) (fun _=>rfl) fun b10 hb10=>?_
  refine Wv 0 0 ?_
  refine Wd (Qc (Cs (Nz 0 ?_)))
  refine Wk 1 (Bb 2) ?_
  refine Wk 0 (Ba 0) ?_
  refine Wk 2 (Cb rfl rfl Jl7 (fun u hu=>Jix r u (hr.st hu) _)) ?_
  refine Wf 0 rfl rfl (fun hg=>Bb 2) ?_
  refine Wf 0 rfl rfl (fun hg=>Ff) ?_
  refine Wf 0 rfl rfl (fun hg=>Ba 0) ?_
  refine Wf 0 rfl rfl (fun hg=>Cb rfl (ec_ (eg_ hg rfl) (ec_ (eg_ hg rfl) en_)) Jl7 (fun u hu=>Jix r u (hr.st hu) _)) ?_
  refine Wf 0 rfl rfl (fun hg=>Fn) ?_
  refine Wk 1 Po ?_
  refine Wf 0 rfl rfl (fun hg=>Ff) ?_
  refine Wf 0 rfl rfl (fun hg=>Ba 0) ?_
  refine Wf 0 rfl rfl (fun hg=>Ff) ?_
  refine Wf 0 rfl rfl (fun hg=>Ba 0) ?_
  refine Wf 0 rfl rfl (fun hg=>Fq) ?_
  refine Wk 0 Po ?_
  refine Wd (Qc (CS.cond rfl ?_ ?_))<;>intro hc11<;>try simp only [bq] at hc11
  ·
   refine Nz 1 ?_
   refine Wd (Qc (Cr (Qr (Qs (Qr (Qr (Qs (Qr ?_))))))))
   exact out1 rfl rfl (Jah (by
      have hE:wyO r e=23:=by (unfold wyO or0 placeB; grind)
      rw [e4,show Jgz r=23 from Jdt ((Jas he1 (by omega) he3 (by rw [hE]; decide)).trans hE) (by decide)]))
  refine Ck (Qc (Nz 0 ?_))
  refine Wk 1 (Bb 2) ?_
  refine Wk 0 (Ba 0) ?_
  refine Wk 1 (Cb rfl rfl Jms (fun u hu=>Jgf r u (hr.st hu) _ (hwh.st hu))) ?_
  refine Wd (Qc (CS.cond rfl ?_ ?_))<;>intro hc12<;>try simp only [bq] at hc12
  ·
   refine Nz 1 ?_
   refine Wd (Qc (Cr (Qs (Qr (Qr (Qs (Qr ?_)))))))
   exact out1 rfl rfl (Jah (by
      have hE:wyO r e=25:=by (unfold wyO or0 whO placeB; grind)
      rw [e4,show Jgz r=25 from Jdt ((Jas he1 (by omega) he3 (by rw [hE]; decide)).trans hE) (by decide)]))
  refine Ck (Qb (Qc (Ny 1 ?_)))
  refine Wk 1 Za ?_
  refine Wd ?_
  refine QS.sel [1,1] rfl ?_
  exact QS.head (e+1) rfl rfl ⟨⟨by omega,by omega,fun j h0 h1=>by
     rcases (show j < e∨j=e by omega) with h | h
     ·
      exact he3 j h0 h
     rw [h]; exact (show wyO r e=0 by (unfold wyO or0 whO placeB; grind))⟩,by omega⟩
 have e5:checkE r=Jg3 r:=e4.trans (Jeo (Jau fun j a b=>he3 j a (by omega)))
 refine Cv (Qe (Qe (Qx (Qc (Cs (Nz 1 ?_))))))
 refine Wd (Qc (Ce ?_))
 refine CS.loopM (σ:=Int) [2,198,199,200,201,202,203,204,205,206,207,208,209,210,211,212,213,214,215,216,217] (fun s=>[(11,.int .i64 s)]) (fun _=>_) (fun s=>0≤s∧s≤r.acs.l.length∧∀ j:Int,0≤j→j < s→acO r j=0) (fun s=>(r.acs.l.length - s).toNat) 0 (fun _ _=>rfl) rfl rfl ⟨by omega,by omega,fun j _ _=>by omega⟩ ?_
 intro g t hs
 obtain ⟨hg1,hg2,hg3⟩:=hs
 refine Cs (Nz 2 ?_)
 refine Wk 0 (Ba 1) ?_
 refine Wk 1 Nc ?_
 refine Wd (Qc (CS.cond rfl ?_ ?_))<;>intro hc13<;>try simp only [bq] at hc13
 ·
  have hwh:SlT cLit w (nth r.acs.l g).wh:=(hr.acs.at hg1 (by omega):ActOk w _).wh
  refine Ck (Qc (Cs (Ce (Cs (Nz 0 ?_)))))
  refine Wk 1 (Bb 1) ?_
  refine Wk 1 (Cb rfl rfl J1c (fun u hu=>J36 r u (hr.st hu) _ hg1 (by omega) (fun x hx=>(hn.ac x hx).1))) ?_
  refine Wd (Qc (CS.cond rfl ?_ ?_))<;>intro hc14<;>try simp only [bq] at hc14
  ·
   refine Nz 1 ?_
   refine Wd (Qc (Cr (Qr (Qs (Qr (Qr (Qs (Qr ?_))))))))
   exact out1 rfl rfl (Jah (by
      have hE:acO r g=26:=by (unfold acO or0; grind)
      rw [e5,show Jg3 r=26 from Jdt ((Jas hg1 (by omega) hg3 (by rw [hE]; decide)).trans hE) (by decide)]))
  refine Ck (Qc (Cs (Dr mixed 0 ?_)))
  refine Dk 1 (Bb 1) ?_
  refine Dk 1 (Ba 1) ?_
  refine Dk 1 Xc ?_
  refine Dk 0 (Uc 8 4) ?_
  refine Dk 1 (Cb rfl rfl Jms (fun u hu=>Jgf r u (hr.st hu) _ (hwh.st hu))) ?_
  refine Dd (Qc (CS.cond rfl ?_ ?_))<;>intro hc15<;>try simp only [bq] at hc15
  ·
   refine Nz 1 ?_
   refine Wd (Qc (Cr (Qs (Qr (Qr (Qs (Qr ?_)))))))
   exact out1 rfl rfl (Jah (by
      have hE:acO r g=25:=by (unfold acO or0 whO; grind)
      rw [e5,show Jg3 r=25 from Jdt ((Jas hg1 (by omega) hg3 (by rw [hE]; decide)).trans hE) (by decide)]))
  refine Ck (Qb (Qc (Ny 1 ?_)))
  refine Wk 1 Za ?_
  refine Wd ?_
  exact QS.head (g+1) rfl rfl ⟨⟨by omega,by omega,fun j h0 h1=>by
     rcases (show j < g∨j=g by omega) with h | h
     ·
      exact hg3 j h0 h
     rw [h]; exact (show acO r g=0 by (unfold acO or0 whO; grind))⟩,by omega⟩
 have e6:checkE r=Jgo r:=e5.trans (Jeo (Jau fun j a b=>hg3 j a (by omega)))
 refine Cv (Qe (Qe (Qx (Qc (Cs (Nz 1 ?_))))))
 refine Wd (Qc (Ce ?_))
 refine CS.loopM (σ:=Int) [2,218,219,220,221,222,223,224,225,226,227,228,229,230,231,232,233,234,235,236,237,238,239,240,241,242,243,244,245,246,247,248,249,250] (fun s=>[(12,.int .i64 s)]) (fun _=>_) (fun s=>0≤s∧s≤r.aus.l.length∧∀ j:Int,0≤j→j < s→auO r j=0) (fun s=>(r.aus.l.length - s).toNat) 0 (fun _ _=>rfl) rfl rfl ⟨by omega,by omega,fun j _ _=>by omega⟩ ?_
 intro m t hs
 obtain ⟨hm1,hm2,hm3⟩:=hs
 refine Cs (Nz 2 ?_)
 refine Wk 0 (Ba 1) ?_
 refine Wk 1 Nc ?_
 refine Wd (Qc (CS.cond rfl ?_ ?_))<;>intro hc16<;>try simp only [bq] at hc16
 ·
  have hwh:SlT cLit w (nth r.aus.l m).wh:=hr.aus.at hm1 (by omega)
  refine Ck (Qc (Cs (Ce (Cs (Cs (Dr mixed 0 ?_))))))
  refine Dk 1 (Bb 1) ?_
  refine Dk 1 (Ba 1) ?_
  refine Dk 2 Xc ?_
  refine Dk 1 (Uc 3 1) ?_
  refine Dk 1 (Ba 1) ?_
  refine Dk 2 Xc ?_
  refine Dk 0 (Uc 3 2) ?_
  refine Dk 1 (Cb rfl rfl Jtu (fun u hu=>Jz2 r u (hr.st hu) _ _)) ?_
  refine Dd (Qc (CS.cond rfl ?_ ?_))<;>intro hc17<;>try simp only [bq] at hc17
  ·
   refine Nz 1 ?_
   refine Wd (Qc (Cr (Qr (Qs (Qr (Qr (Qs (Qr ?_))))))))
   exact out1 rfl rfl (Jah (by
      have hE:auO r m=27:=by (unfold auO or0; grind)
      rw [e6,show Jgo r=27 from Jdt ((Jas hm1 (by omega) hm3 (by rw [hE]; decide)).trans hE) (by decide)]))
  refine Ck (Qc (Cs (Dr mixed 0 ?_)))
  refine Dk 1 (Bb 1) ?_
  refine Dk 1 (Ba 1) ?_
  refine Dk 1 Xc ?_
  refine Dk 0 (Uc 3 0) ?_
  refine Dk 1 (Cb rfl rfl Jms (fun u hu=>Jgf r u (hr.st hu) _ (hwh.st hu))) ?_
  refine Dd (Qc (CS.cond rfl ?_ ?_))<;>intro hc18<;>try simp only [bq] at hc18
  ·
   refine Nz 1 ?_
   refine Wd (Qc (Cr (Qs (Qr (Qr (Qs (Qr ?_)))))))
   exact out1 rfl rfl (Jah (by
      have hE:auO r m=25:=by (unfold auO or0 whO; grind)
      rw [e6,show Jgo r=25 from Jdt ((Jas hm1 (by omega) hm3 (by rw [hE]; decide)).trans hE) (by decide)]))
  refine Ck (Qb (Qc (Ny 1 ?_)))
  refine Wk 1 Za ?_
  refine Wd ?_
  exact QS.head (m+1) rfl rfl ⟨⟨by omega,by omega,fun j h0 h1=>by
     rcases (show j < m∨j=m by omega) with h | h
     ·
      exact hm3 j h0 h
     rw [h]; exact (show auO r m=0 by (unfold auO or0 whO; grind))⟩,by omega⟩
 have e7:checkE r=glO r:=e6.trans (Jeo (Jau fun j a b=>hm3 j a (by omega)))
 refine Cv (Qe (Qe (Qx (Qc (Cs (Nz 1 ?_))))))
 refine Wk 0 (Ba 1) ?_
 refine Wk 1 (Cb rfl rfl Jhs (fun u hu=>Jhq _ _ _ u)) ?_
 refine Wd (Qc (CS.cond rfl ?_ ?_))<;>intro hc19<;>try simp only [bq] at hc19
 ·
  refine Nz 1 ?_
  exact Wd (Qc (Cr (Qr (out1 rfl rfl (Jah (by rw [e7,show glO r=1 by (unfold glO or0; grind)]))))))
 refine Ck (Qc (Cs (Nz 0 ?_)))
 refine Wk 1 (Bb 1) ?_
 refine Wk 0 (Ba 1) ?_
 refine Wk 1 (Cb rfl rfl Jms (fun u hu=>Jgf r u (hr.st hu) _ (kgl.st hu))) ?_
 refine Wd (Qc (CS.cond rfl ?_ ?_))<;>intro hc20<;>try simp only [bq] at hc20
 ·
  refine Nz 1 ?_
  exact Wd (Qc (Cr (Qr (out1 rfl rfl (Jah (by rw [e7,show glO r=25 by (unfold glO or0 whO; grind)]))))))
 refine Ck (Qc (Nz 1 ?_))
 exact Wd (Qc (Cr (out1 rfl rfl (Jah (by rw [e7,show glO r=0 by (unfold glO or0 whO; grind)])))))
theorem retS {w0 u:World} {L:List SA} {is:List Nat} {e1 e2 e3:TypeId} {a b c:Value} {xs ys zs:List Int} {f:Value→Value} (hs:selo L is=some [oints e1 a xs,oints e2 b ys,oints e3 c zs]) (hu:St w0.heap.size w0 L u) :
  RetS w0 (xs,ys,zs) f (.returned (f (.agg #[a,b,c]))) u:=by
 have h1:=St.toRo (A:=star [oints e1 a xs,oints e2 b ys,oints e3 c zs]) (p:=fun u=>SttOk u ⟨⟨a,xs⟩,⟨b,ys⟩,⟨c,zs⟩⟩) (L:=[]) (fun S u h=>⟨SlI.tree (Star.oints (L:=[oints e1 a xs,oints e2 b ys,oints e3 c zs]) (j:=0) rfl h.1),SlI.tree (Star.oints (L:=[oints e1 a xs,oints e2 b ys,oints e3 c zs]) (j:=1) rfl h.1),SlI.tree (Star.oints (L:=[oints e1 a xs,oints e2 b ys,oints e3 c zs]) (j:=2) rfl h.1)⟩) (St.pack (L2:=[]) (by simpa using hu.sel is hs))
 exact ⟨⟨⟨a,xs⟩,⟨b,ys⟩,⟨c,zs⟩⟩,⟨rfl,u,h1.ro (j:=0) rfl⟩,retF (j:=0) rfl u h1⟩
theorem Js8 {w0 u:World} {L:List SA} {f:Value→Value} (hu:St w0.heap.size w0 L u):RetS w0 no3 f (.returned (f (.agg #[.slice none 0 0,.slice none 0 0,.slice none 0 0]))) u:=by
 have h1:St w0.heap.size w0 (oints 3 (.slice none 0 0) []::L) u:=St.osl0 hu
 have h2:St w0.heap.size w0 (oints 3 (.slice none 0 0) []::oints 3 (.slice none 0 0) []::L) u:=St.osl0 h1
 have h3:St w0.heap.size w0 (oints 3 (.slice none 0 0) []::oints 3 (.slice none 0 0) []::oints 3 (.slice none 0 0) []::L) u:=St.osl0 h2
 exact retS (is:=[0,0,0]) rfl h3
end Go.Proofs.YtkekjhcmephhjaaGreatDoor
