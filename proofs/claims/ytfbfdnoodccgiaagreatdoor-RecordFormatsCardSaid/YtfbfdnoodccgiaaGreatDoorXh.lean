/- Merged texts of this proof (walks and plain laws), printed by a program of the prover. -/
import Derived.Test.YtfbfdnoodccgiaaGreatDoorXg
set_option maxHeartbeats 8000000
namespace Go.Proofs.YtfbfdnoodccgiaaGreatDoor
open Go.RowKit Go.Proofs
set_option maxRecDepth 100000
set_option linter.unusedVariables false
set_option linter.unusedSimpArgs false
theorem Jqv (x:Entr) (w:World) (hk:inK x.k=true) :
  Calls Tryz.prog 28 #[.agg #[.int .i64 x.t,.int .i64 x.k,.int .i64 x.m.p,.int .i64 x.m.k,.int .i64 x.m.n,.int .i64 x.a,.int .i64 x.b]] w (fun e w'=>∃ v:Value,v.oneCell'=true∧RetF w (.tuple #[.string (kwE x.k),v]) (oints 3 v (fldE x)) e w'):=by
 have hk5:=Jjb hk
 refine enter Tryz.func28 rfl rfl (Nat.le_of_ble_eq_true rfl) ?_
 refine Nz 0 ?_
 refine Wb 2 rfl rfl (fun _=>rfl) (fun _=>rfl) fun b1 hb1=>?_
 refine Wd (Qc (Cs (Nz 1 ?_)))
 refine Wk 0 (by first | exact Jah (j:=0) rfl rfl rfl tk3 | exact Ja0 rfl (by assumption) rfl tk3) ?_
 refine Wd (Qc (Ce (Nz 2 ?_)))
 refine Wd (Qc (CS.cond rfl ?_ ?_))<;>intro hc1<;>try simp only [bq] at hc1
 ·
  refine Cs ?_
  refine CS.drawnAll (k:=12) mixed rfl rfl ?_
  refine Ar [0,1] ?_
  refine Ak 2 [3,4] rfl (by first | exact Jah (j:=0) rfl rfl rfl tk3 | exact Ja0 rfl (by assumption) rfl tk3) ?_
  refine Ak 5 [6,7] rfl (by first | exact Jah (j:=0) rfl rfl rfl tk3 | exact Ja0 rfl (by assumption) rfl tk3) ?_
  refine Ak 8 [10] rfl (by first | exact Jah (j:=0) rfl rfl rfl tk3 | exact Ja0 rfl (by assumption) rfl tk3) ?_
  refine Ao 9 rfl ?_
  refine WS.buildSlice1 (pl:=[(0,.tmp 10),(1,.tmp 13),(2,.tmp 16)]) (vs:=ints [x.m.p,x.m.k,x.m.n]) sl86 zv3 rfl rfl (by decide) (by simp [ints,Value.oneCell']) (fun _=>rfl) ?_; intro v17; refine WS.oc (j:=0) rfl (fun hv17=>?_)
  refine Wd (Qa ?_)
  refine Ar [11] ?_
  refine Ae ?_
  exact Qc (Cr (Qs (Qr (out2 rfl rfl rfl (fun u hu=>⟨v17,hv17,by rw [show kwE x.k=Jka from by rw [hc1]; rfl,show fldE x=[x.m.p,x.m.k,x.m.n] from by unfold fldE; simp [hc1]]; exact retF (L:=[oints 3 v17 [x.m.p,x.m.k,x.m.n]]) (j:=0) rfl u (hu.sel [0] rfl)⟩)))))
 refine Nz 2 ?_
 refine Wd (Qc (CS.cond rfl ?_ ?_))<;>intro hc2<;>try simp only [bq] at hc2
 ·
  refine Cs ?_
  refine CS.drawnAll (k:=5) mixed rfl rfl ?_
  refine Ar [0] ?_
  refine Ak 1 [3] rfl (by first | exact Jah (j:=0) rfl rfl rfl tk3 | exact Ja0 rfl (by assumption) rfl tk3) ?_
  refine Ao 2 rfl ?_
  refine WS.buildSlice1 (pl:=[(0,.tmp 21)]) (vs:=ints [x.a]) sl86 zv3 rfl rfl (by decide) (by simp [ints,Value.oneCell']) (fun _=>rfl) ?_; intro v22; refine WS.oc (j:=0) rfl (fun hv22=>?_)
  refine Wd (Qa ?_)
  refine Ar [4] ?_
  refine Ae ?_
  exact Qc (Cr (Qs (Qr (out2 rfl rfl rfl (fun u hu=>⟨v22,hv22,by rw [show kwE x.k=Jj2 from by rw [hc2]; rfl,show fldE x=[x.a] from by unfold fldE; simp [hc2]]; exact retF (L:=[oints 3 v22 [x.a]]) (j:=0) rfl u (hu.sel [0] rfl)⟩)))))
 refine Nz 2 ?_
 refine Wd (Qc (CS.cond rfl ?_ ?_))<;>intro hc3<;>try simp only [bq] at hc3
 ·
  refine Nz 2 ?_
  exact Wd (Qc (Cr (Qs (Qr (out2 rfl rfl rfl (fun u hu=>⟨(.slice none 0 0),rfl,by rw [show kwE x.k=Jhf from by rw [hc3]; rfl,show fldE x=[] from by unfold fldE; rw [if_neg (by omega),if_neg (by omega),if_neg (by omega)]]; exact retF (L:=[oints 3 (.slice none 0 0) []]) (j:=0) rfl u ((hu.osl0 (e:=3) (size:=1)).sel [0] rfl)⟩))))))
 refine Nz 2 ?_
 refine Wd (Qc (CS.cond rfl ?_ ?_))<;>intro hc4<;>try simp only [bq] at hc4
 ·
  refine Nz 2 ?_
  exact Wd (Qc (Cr (Qs (Qr (out2 rfl rfl rfl (fun u hu=>⟨(.slice none 0 0),rfl,by rw [show kwE x.k=Jez from by rw [hc4]; rfl,show fldE x=[] from by unfold fldE; rw [if_neg (by omega),if_neg (by omega),if_neg (by omega)]]; exact retF (L:=[oints 3 (.slice none 0 0) []]) (j:=0) rfl u ((hu.osl0 (e:=3) (size:=1)).sel [0] rfl)⟩))))))
 have hc5:x.k=5:=by omega
 refine Ck (Qb (Qc (Cs ?_)))
 refine CS.drawnAll (k:=7) mixed rfl rfl ?_
 refine Ar [0] ?_
 refine Ak 1 [2] rfl (by first | exact Jah (j:=0) rfl rfl rfl tk3 | exact Ja0 rfl (by assumption) rfl tk3) ?_
 refine Ak 3 [5] rfl (by first | exact Jah (j:=0) rfl rfl rfl tk3 | exact Ja0 rfl (by assumption) rfl tk3) ?_
 refine Ao 4 rfl ?_
 refine WS.buildSlice1 (pl:=[(0,.tmp 28),(1,.tmp 30)]) (vs:=ints [x.a,x.b]) sl86 zv3 rfl rfl (by decide) (by simp [ints,Value.oneCell']) (fun _=>rfl) ?_; intro v31; refine WS.oc (j:=0) rfl (fun hv31=>?_)
 refine Wd (Qa ?_)
 refine Ar [6] ?_
 refine Ae ?_
 exact Qc (Cr (out2 rfl rfl rfl (fun u hu=>⟨v31,hv31,by rw [show kwE x.k=Jgy from by rw [hc5]; rfl,show fldE x=[x.a,x.b] from by unfold fldE; simp [hc5]]; exact retF (L:=[oints 3 v31 [x.a,x.b]]) (j:=0) rfl u (hu.sel [0] rfl)⟩)))
theorem Jpo (l:Sl Entr) (w:World) (hk:SlT cEntry w l) (hl:l.l.length≤1000) :
  Calls Tryz.prog 11 #[l.v] w (RetB w (.tuple #[.string (FmtE l.l).1,.int .i64 (FmtE l.l).2])):=by
 have lls:=hk.le
 have s10:(⟨#[10]⟩:ByteArray).size=1:=rfl
 have s32:(⟨#[32]⟩:ByteArray).size=1:=rfl
 refine enter Tryz.func11 rfl rfl (Nat.le_of_ble_eq_true rfl) ?_
 refine Nz 2 ?_
 refine Wd (Qc (Cs (Nz 1 ?_)))
 refine Wk 1 Nc ?_
 refine Wd (Qc (CS.cond rfl ?_ ?_))<;>intro hc1<;>try simp only [bq] at hc1
 ·
  have hmany:=Jhj (l:=l.l) hc1
  refine Nz 2 ?_
  exact Wd (Qc (Cr (Qr (out2 rfl rfl rfl (Jac (by rw [hmany]))))))
 have hfew:¬ 500 < (l.l.length:Int):=by omega
 refine Ck (Qc (Nz 1 ?_))
 refine Wd (Qc (Cs (Nz 1 ?_)))
 refine Wd (Qc (Ce ?_))
 refine CS.loopM (σ:=Int × ByteArray) [2,3,6,7,8,12,13,14,15,16,17,18,19,20,21,22,23,24,25,26,27,28,29,30,31,32,33,34,35,36,37,38,39,40,41,42,43,44,45,46,47,48,49,50,51,52,53,54,55,56,57,58,59,60,61,62,63,64,65,66,67,68,69,70,71,72,73] (fun s=>[(5,.int .i64 s.1),(4,.string s.2)]) (fun _=>_) (fun s=>0≤s.1∧s.1≤l.l.length∧s.2=Jej ((l.l.take s.1.toNat).map linE)∧(l.l.take s.1.toNat).all okE=true) (fun s=>(l.l.length - s.1).toNat) (0,⟨#[]⟩) (fun _ _=>rfl) rfl rfl ⟨by simp,by simp,rfl,rfl⟩ ?_
 intro a t hs
 obtain ⟨ha1,ha2,ha3,ha4⟩:=hs
 refine Cs (Nz 2 ?_)
 refine Wk 1 Nc ?_
 refine Wd (Qc (CS.cond rfl ?_ ?_))<;>intro hc2<;>try simp only [bq] at hc2
 ·
  have hxm:=Jaj ha1 (show a.1 < (l.l.length:Int) by omega)
  have hbz:=Jfi ha4 (n:=1000) (by rw [List.length_take]; omega)
  rw [← ha3] at hbz
  refine Ck (Qc (Cs (Ce (Cs (Nz 2 ?_)))))
  refine Wk 0 Xc ?_
  refine Wk 0 Ua ?_
  refine Wk 2 (Cb rfl rfl J6r (fun u hu=>Jvq _ u)) ?_
  refine Wf 0 rfl rfl (fun hg=>Fm) ?_
  refine Wf 0 rfl rfl (fun hg=>Fm) ?_
  refine Wf 0 rfl rfl (fun hg=>Xc (eg_ hg rfl)) ?_
  refine Wf 0 rfl rfl (fun hg=>Ff) ?_
  refine Wf 0 rfl rfl (fun hg=>Uc 7 0) ?_
  refine Wf 0 rfl rfl (fun hg=>Cb rfl (ec_ (eg_ hg rfl) (ec_ rfl (ec_ rfl en_))) J4k (fun u hu=>Jqw _ _ _ u)) ?_
  refine Wf 0 rfl rfl (fun hg=>Fn) ?_
  refine Wk 0 Po ?_
  refine Wd (Qc (CS.cond rfl ?_ ?_))<;>intro hc3<;>try simp only [bq] at hc3
  ·
   have hbad:okE (nth l.l a.1)=false:=by
    cases ho:okE (nth l.l a.1) with
    | false=>rfl
    | true =>
     obtain ⟨h7,h8,_⟩:=Jn9 ho
     simp only [clkB,Bool.and_eq_true,decide_eq_true_eq] at h8
     exfalso
     have h6:=hc3
     simp [h7,h8] at h6
   refine Nz 2 ?_
   exact Wd (Qc (Cr (Qr (Qs (Qr (Qr (Qs (Qr (out2 rfl rfl rfl (Jac (by rw [Je6 hfew hxm hbad])))))))))))
  have hform:Jci (nth l.l a.1)=true:=hc3.1
  have hat:0≤(nth l.l a.1).t∧(nth l.l a.1).t≤1000000:=by have h6:=hc3.2; (try simp at h6); omega
  have hib:=Jrv hform
  have hik:inK (nth l.l a.1).k=true:=by unfold inK; simp; omega
  have hd7:=(dig7 (n:=(nth l.l a.1).t) (by unfold clkB; simp; omega)).2
  have hkz:(kwE (nth l.l a.1).k).size≤6:=by rcases Jjb hik with h | h | h | h | h <;> rw [h] <;> decide
  refine Ck (Qc (Nz 2 ?_))
  refine Wk 0 Xc ?_
  refine Wk 0 Ua ?_
  refine Wc rfl rfl J6b (fun u hu=>Jqv (nth l.l a.1) u hik) (fun _=>rfl) ?_; intro v38 hv38
  refine Wz 5 ?_
  refine Wd (Qc (Nz 3 ?_))
  refine Wk 1 Xc ?_
  refine Wk 0 (Uc 7 0) ?_
  refine Wk 0 (Cb rfl rfl Jy3 (fun u hu=>J1v _ _ u (Nat.le_refl _) (by omega))) ?_
  refine Wk 0 (Jc1 rfl rfl (by (try simp only [ByteArray.size_append]); omega)) ?_
  refine Wk 1 (Jc1 rfl rfl (by (try simp only [ByteArray.size_append]); omega)) ?_
  refine Wk 1 (Jc1 rfl rfl (by (try simp only [ByteArray.size_append]); omega)) ?_
  refine Wd (Qc (Cs (Nz 1 ?_)))
  refine Wd (Qc (Ce ?_))
  refine CS.loopM (σ:=Int × ByteArray) [2,3,52,53,54,55,56,57,58,59,60,61,62,63,64,65,66,67,68,69,70,71] (fun s=>[(8,.int .i64 s.1),(4,.string s.2)]) (fun s=>[oints 3 v38 (fldE (nth l.l a.1))]) (fun s=>0≤s.1∧s.1≤(fldE (nth l.l a.1)).length∧s.2=a.2++digB (nth l.l a.1).t++(⟨#[32]⟩:ByteArray)++kwE (nth l.l a.1).k++catB (((fldE (nth l.l a.1)).take s.1.toNat).map digB)∧((fldE (nth l.l a.1)).take s.1.toNat).all clkB=true∧(s.2.size:Int)≤100000+10 * s.1) (fun s=>((fldE (nth l.l a.1)).length - s.1).toNat) (0,a.2++digB (nth l.l a.1).t++(⟨#[32]⟩:ByteArray)++kwE (nth l.l a.1).k) (fun _ _=>rfl) rfl rfl ⟨by simp,by simp,Jjs (by simp [Jfb,Jsw]),rfl,by simp only [ByteArray.size_append]; omega⟩ ?_
  intro q t hs
  obtain ⟨hq1,hq2,hq3,hq4,hq5⟩:=hs
  have hfl:=Jue (nth l.l a.1)
  have hol:=Juq (nth l.l a.1).k
  refine Cs (Nz 2 ?_)
  refine Wk 1 (Nb 0) ?_
  refine Wd (Qc (CS.cond rfl ?_ ?_))<;>intro hc4<;>try simp only [bq] at hc4
  ·
   refine Ck (Qc (Cs (Ce (Cs (Nz 2 ?_)))))
   refine Wk 0 (Xb 0) ?_
   refine Wk 0 (Jgn (j:=0) rfl rfl ⟨by omega,by omega⟩ tk3) ?_
   refine Wk 1 (Cb rfl rfl J4k (fun u hu=>Jqw _ _ _ u)) ?_
   refine Wd (Qc (CS.cond rfl ?_ ?_))<;>intro hc5<;>try simp only [bq] at hc5
   ·
    have hbad:=Jm6 hq1 (show q.1 < ((fldE (nth l.l a.1)).length:Int) by omega) (by unfold clkB; simp; omega)
    refine Nz 2 ?_
    exact Wd (Qc (Cr (Qr (Qs (Qr (Qr (Qs (Qr (Qs (Qr (Qr (Qs (Qr (out2 rfl rfl rfl (Jac (by rw [Je6 hfew hxm hbad]))))))))))))))))
   have hn2:0≤nth (fldE (nth l.l a.1)) q.1∧nth (fldE (nth l.l a.1)) q.1≤1000000:=by have h6:=hc5; (try simp at h6); omega
   have hcl:clkB (nth (fldE (nth l.l a.1)) q.1)=true:=by unfold clkB; simp; omega
   have hdz:=(dig7 hcl).2
   refine Ck (Qc (Ny 1 ?_))
   refine Wk 2 (Jc1 rfl rfl (by (try simp only [ByteArray.size_append]); omega)) ?_
   refine Wk 0 (Xb 0) ?_
   refine Wk 0 (Jgn (j:=0) rfl rfl ⟨by omega,by omega⟩ tk3) ?_
   refine Wk 0 (Cb rfl rfl Jy3 (fun u hu=>J1v _ _ u (Nat.le_refl _) (by omega))) ?_
   refine Wk 1 (Jc1 rfl rfl (by (try simp only [ByteArray.size_append]); omega)) ?_
   refine Wd (Qb (Qc (Ny 1 ?_)))
   refine Wk 1 Za ?_
   refine Wd ?_
   exact QS.head ((q.1+1,q.2++(⟨#[32]⟩:ByteArray)++digB (nth (fldE (nth l.l a.1)) q.1))) rfl rfl ⟨⟨by simp; omega,by simp; omega,by
      show _=a.2++digB (nth l.l a.1).t++(⟨#[32]⟩:ByteArray)++kwE (nth l.l a.1).k++catB (((fldE (nth l.l a.1)).take (q.1+1).toNat).map digB)
      rw [Ja2 (fldE (nth l.l a.1)) hq1 (by omega),List.map_append,List.map_singleton,Jq3,hq3]
      exact Jjs (by simp [Jfb,Jth,Jsw]),Jgh hq1 (by omega) hq4 hcl,by simp only [ByteArray.size_append]; omega⟩,by simp; omega⟩
  have hok:okE (nth l.l a.1)=true:=Jyu hform (by unfold clkB; simp; omega) (by have h9:=hq4; rw [List.take_of_length_le (by omega)] at h9; exact h9)
  rw [List.take_of_length_le (by omega)] at hq3
  refine Cv (Qe (Qe (Qx (Qc (Ny 1 ?_)))))
  refine Wk 1 (Jc1 rfl rfl (by (try simp only [ByteArray.size_append]); omega)) ?_
  refine Wd (Qb (Qc (Ny 1 ?_)))
  refine Wk 1 Za ?_
  refine Wd ?_
  refine QS.sel [] rfl ?_
  exact QS.head ((a.1+1,q.2++(⟨#[10]⟩:ByteArray))) rfl rfl ⟨⟨by simp; omega,by simp; omega,by
     show q.2++_=Jej ((l.l.take (a.1+1).toNat).map linE)
     rw [Jks ha1 (by omega), ← ha3,hq3]
     exact Jjs (by simp [Jfb,Jth,Jxt,Jsw,linE]),Jgh ha1 (by omega) ha4 hok⟩,by simp; omega⟩
 have hae:a.1.toNat=l.l.length:=by omega
 rw [hae,List.take_length] at ha3 ha4
 refine Cv (Qe (Qe (Qx (Qc (Nz 3 ?_)))))
 exact Wd (Qc (Cr (out2 rfl rfl rfl (Jac (by rw [Jm0 hfew ha4,ha3])))))
end Go.Proofs.YtfbfdnoodccgiaaGreatDoor
