/- Merged texts of this proof (walks and plain laws), printed by a program of the prover. -/
import Derived.Test.YtfbfdnoodccgiaaGreatDoorXg
set_option maxHeartbeats 8000000
namespace Go.Proofs.YtfbfdnoodccgiaaGreatDoor
open Go.RowKit Go.Proofs
set_option maxRecDepth 100000
set_option linter.unusedVariables false
set_option linter.unusedSimpArgs false
theorem J0g (t0:ByteArray) (most:Int) (w:World) (ht:(t0.size:Int)≤1000000) (hm:most≤7) :
  Calls Tryz.prog 38 #[.string t0,.int .i64 most] w (RetB w (.tuple #[.int .i64 ((numB most t0).getD 0),.bool (numB most t0).isSome])):=by
 refine enter Tryz.func38 rfl rfl (Nat.le_of_ble_eq_true rfl) ?_
 refine Nz 2 ?_
 refine Wd (Qc (Cs (Nz 1 ?_)))
 refine Wk 2 (Jau Tryz.underlying9 rfl) ?_
 refine Wf 0 rfl rfl (fun hg=>Fm) ?_
 refine Wf 0 rfl rfl (fun hg=>Jau Tryz.underlying9 (eg_ hg rfl)) ?_
 refine Wf 0 rfl rfl (fun hg=>Fm) ?_
 refine Wf 0 rfl rfl (fun hg=>Fg) ?_
 refine Wk 1 Po ?_
 refine Wf 0 rfl rfl (fun hg=>Fm) ?_
 refine Wf 0 rfl rfl (fun hg=>Ja5 Tryz.underlying9 (eg_ hg rfl) rfl (by decide) (by have h9:=hg; (try simp at h9); omega)) ?_
 refine Wf 0 rfl rfl (fun hg=>Fq) ?_
 refine Wf 0 rfl rfl (fun hg=>Fm (eg_ hg rfl)) ?_
 refine Wn 0 rfl rfl rfl (fun hg=>Fm) ?_
 refine Wn 0 rfl rfl rfl (fun hg=>Jau Tryz.underlying9 (eg_ hg rfl)) ?_
 refine Wn 0 rfl rfl rfl (fun hg=>Fg) ?_
 refine Wf 0 rfl rfl (fun hg=>Jcj (eg_ hg rfl) (Jiz hg rfl) rfl) ?_
 refine Wk 0 Po ?_
 refine Wd (Qc (CS.cond rfl ?_ ?_))<;>intro hc1<;>try simp only [bq] at hc1
 ·
  have hno:numB most t0=none:=by
   by_cases hz:(1:Int)≤t0.size∧(t0.size:Int)≤most
   ·
    exact Jj9 (.inr (by have h9:=hc1; (try simp at h9); omega))
   exact Jj9 (.inl (by unfold Jbm; rw [show (decide ((1:Int)≤t0.size) && decide ((t0.size:Int)≤most))=false by simp; omega]; rfl))
  refine Nz 2 ?_
  exact Wd (Qc (Cr (Qr (out2 rfl rfl rfl (Jad (by rw [hno]; rfl))))))
 have hsz:(1:Int)≤t0.size∧(t0.size:Int)≤most:=by have h9:=hc1; (try simp at h9); omega
 have hz0:byt t0 0=48→¬ (1:Int) < t0.size:=by have h9:=hc1; (try simp at h9); omega
 refine Ck (Qc (Nz 1 ?_))
 refine Wd (Qc (Cs (Nz 1 ?_)))
 refine Wd (Qc (Ce ?_))
 refine CS.loopM (σ:=Int × Int) [4,5,27,28,29,30,31,32,33,34,35,36,37,38,39,40,41,42,43,44,45,46,47,48,49,50] (fun s=>[(7,.int .i64 s.1),(6,.int .i64 s.2)]) (fun _=>_) (fun s=>0≤s.1∧s.1≤t0.size∧(∀ j:Int,0≤j→j < s.1→48≤byt t0 j∧byt t0 j≤57)∧s.2=numL ((bl t0).take s.1.toNat)∧(0≤s.2∧s.2≤9999999∧(s.1=0→s.2=0)∧(s.1=1→s.2≤9)∧(s.1=2→s.2≤99)∧(s.1=3→s.2≤999)∧(s.1=4→s.2≤9999)∧(s.1=5→s.2≤99999)∧(s.1=6→s.2≤999999))) (fun s=>(t0.size - s.1).toNat) (0,0) (fun _ _=>rfl) rfl rfl ⟨by simp,by simp,fun j _ _=>by omega,rfl,by simp⟩ ?_
 intro q t hs
 obtain ⟨hs1,hs2,hs3,hs4,hs5⟩:=hs
 refine Cs (Nz 2 ?_)
 refine Wk 1 (Jau Tryz.underlying9 rfl) ?_
 refine Wd (Qc (CS.cond rfl ?_ ?_))<;>intro hc2<;>try simp only [bq] at hc2
 ·
  refine Ck (Qc (Cs (Ce (Cs (Nz 2 ?_)))))
  refine Wk 2 (Ja5 Tryz.underlying9 rfl rfl (by omega) (by omega)) ?_
  refine Wf 0 rfl rfl (fun hg=>Fm) ?_
  refine Wf 0 rfl rfl (fun hg=>Fm) ?_
  refine Wf 0 rfl rfl (fun hg=>Ja5 Tryz.underlying9 (eg_ hg rfl) (eg_ hg rfl) (by (try simp only [bq] at hg); omega) (by (try simp only [bq] at hg); omega)) ?_
  refine Wf 0 rfl rfl (fun hg=>Fg) ?_
  refine Wk 0 Po ?_
  refine Wd (Qc (CS.cond rfl ?_ ?_))<;>intro hc3<;>try simp only [bq] at hc3
  ·
   have hno:numB most t0=none:=Jj9 (.inl (by unfold Jbm; rw [Jz8 hs1 (show q.1 < t0.size by omega) (by have h9:=hc3; (try simp at h9); omega)]; simp))
   refine Nz 2 ?_
   exact Wd (Qc (Cr (Qr (Qs (Qr (Qr (Qs (Qr (out2 rfl rfl rfl (Jad (by rw [hno]; rfl)))))))))))
  refine Ck (Qc (Ny 1 ?_))
  refine Wk 2 Zc ?_
  refine Wk 0 (Ja5 Tryz.underlying9 rfl rfl (by omega) (by omega)) ?_
  refine Wk 0 (Jp7 rfl rfl (by have h9:=hc3; (try simp at h9); have:=Jnn (t:=t0) (i:=q.1); omega)) ?_
  refine Wk 0 (Jo7 Tryz.underlying5 Tryz.underlying3 rfl (by have h9:=hc3; (try simp at h9); have:=Jnn (t:=t0) (i:=q.1); omega)) ?_
  refine Wk 1 (Js3 rfl rfl (by have h9:=hc3; (try simp at h9); have:=Jnn (t:=t0) (i:=q.1); omega)) ?_
  refine Wd (Qb (Qc (Ny 1 ?_)))
  refine Wk 1 Za ?_
  refine Wd ?_
  exact QS.head ((q.1+1,10 * q.2+(byt t0 q.1 - 48))) rfl rfl (by
     have h9:=hc3; (try simp at h9)
     have hb9:=Jnn (t:=t0) (i:=q.1)
     refine ⟨⟨by simp; omega,by simp; omega,fun j h0 h1=>?_,by show _=numL ((bl t0).take (q.1+1).toNat); rw [Jua hs1 (by omega),hs4],by simp only; omega⟩,by simp only; omega⟩
     rcases (show j < q.1∨j=q.1 by simp only at h1; omega) with h | h
     ·
      exact hs3 j h0 h
     rw [h]; omega)
 have hfin:(bl t0).take q.1.toNat=bl t0:=List.take_of_length_le (by rw [Jcm]; omega)
 have hd:Jbm t0 most=true:=by
  unfold Jbm
  rw [Jy9 fun j h0 h1=>hs3 j h0 (by omega)]
  simp; omega
 have hyes:numB most t0=some (numL (bl t0)):=Jp8 hd hz0
 refine Cv (Qe (Qe (Qx (Qc (Nz 3 ?_)))))
 exact Wd (Qc (Cr (out2 rfl rfl rfl (Jad (by rw [hyes,hs4,hfin]; rfl)))))
end Go.Proofs.YtfbfdnoodccgiaaGreatDoor
