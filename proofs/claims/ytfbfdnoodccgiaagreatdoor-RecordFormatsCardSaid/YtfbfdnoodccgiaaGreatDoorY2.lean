/- Contracts of functions, printed by a program of the prover (gen.py). -/
import Derived.Test.YtfbfdnoodccgiaaGreatDoorXf
import Derived.Test.YtfbfdnoodccgiaaGreatDoorXh
import Derived.Test.YtfbfdnoodccgiaaGreatDoorXg
import Derived.Test.YtfbfdnoodccgiaaGreatDoorXe
set_option maxHeartbeats 8000000
namespace Go.Proofs.YtfbfdnoodccgiaaGreatDoor
open Go.RowKit Go.Proofs
set_option maxRecDepth 100000
set_option linter.unusedVariables false
set_option linter.unusedSimpArgs false
theorem Jvo {l:List Entr} (h:(FmtE l).2=0):Jdq (FmtE l).1=(l,0,0)∧(FmtE l).1.size≤65536:=by
 by_cases h1:500 < (l.length:Int)
 ·
  rw [Jhj h1] at h; cases h
 by_cases h2:l.all okE=true
 ·
  rw [Jm0 h1 h2]
  exact ⟨Jjh h2 h1,by have:=Jfi h2 (n:=500) (by omega); show (Jej (l.map linE)).size≤65536; omega⟩
 unfold FmtE at h
 rw [if_neg h1,if_neg h2] at h; cases h
theorem Jg8 (l:Sl Entr) (w:World) (hk:SlT cEntry w l) (g:Sl ByteArray) (hW:GOk w g) (hM:MaxOk w) {m:Nat} {es:List MapEntry} {c:Nat} (hS:ShpOk w m es c) (ht:Lib.TabIs Tryz.prog w "internal/strconv.uint64pow10" .u64 Lib.pow10Tab) :
  Calls Tryz.prog 4 #[l.v] w (RetB w (.bool true)):=by
 have lls:=hk.le
 refine enter Tryz.func4 rfl rfl (Nat.le_of_ble_eq_true rfl) ?_
 refine Nz 1 ?_
 refine Wd (Qc (Cs (Nz 1 ?_)))
 refine Wk 1 Nc ?_
 refine Wd (Qc (CS.cond rfl ?_ ?_))<;>intro hc1<;>try simp only [bq] at hc1
 ·
  refine Nz 0 ?_
  refine Wk 1 (Cb rfl rfl ent5 (fun u hu=>Jiy u g (hW.st hu))) ?_
  exact Wd (Qc (Cr (Qr (out1 rfl rfl retB))))
 refine Ck (Qc (Nz 1 ?_))
 refine Wc rfl rfl J5c (fun u hu=>Jtj l u (hk.st hu) (by omega)) (fun _=>rfl) ?_; rintro v16 ⟨u16,h16⟩
 refine Wk 5 (Cb rfl rfl ent9 (fun u hu=>Jsk ⟨v16,l.l⟩ u (hu.ro (j:=0) rfl) (hS.st hu) (J01 ht hu) (by show l.l.length≤1000; omega))) ?_
 refine Wd (Qc (Nz 1 ?_))
 refine Wk 5 (Cb rfl rfl J6m (fun u hu=>Jpo l u (hk.st hu) (by omega))) ?_
 refine Wd (Qc (Cs (Nz 2 ?_)))
 refine Wk 1 (Jfa rfl rfl) ?_
 refine Wf 0 rfl rfl (fun hg=>Fm) ?_
 refine Wf 0 rfl rfl (fun hg=>Fm) ?_
 refine Wf 0 rfl rfl (fun hg=>Fr) ?_
 refine Wk 0 Po ?_
 refine Wd (Qc (CS.cond rfl ?_ ?_))<;>intro hc2<;>try simp only [bq] at hc2
 ·
  exact absurd hc2 (by have h9:=Jew.2 (rfl:(FmtE l.l).1=(FmtE l.l).1); simp [h9])
 refine Ck (Qc (Cs (Nz 2 ?_)))
 refine Wd (Qc (CS.cond rfl ?_ ?_))<;>intro hc3<;>try simp only [bq] at hc3
 ·
  refine Nz 0 ?_
  refine Wk 1 (Cb rfl rfl ent5 (fun u hu=>Jiy u g (hW.st hu))) ?_
  exact Wd (Qc (Cr (Qr (out1 rfl rfl retB))))
 obtain ⟨hpf,hsz⟩:=Jvo (l:=l.l) (by simpa using hc3)
 refine Ck (Qc (Nz 1 ?_))
 refine Wc rfl rfl ent6 (fun u hu=>Jwb (FmtE l.l).1 u (hM.st hu) (hS.st hu) hsz) (fun _=>rfl) ?_; rintro v38 ⟨u38,h38⟩
 refine Wz 7 ?_
 refine Wd (Qc (Nz 3 ?_))
 refine Wt 0 rfl rfl (fun hg=>Fm) ?_
 refine Wt 0 rfl rfl (fun hg=>Fq) ?_
 refine Wk 1 Pa ?_
 refine Wt 0 rfl rfl (fun hg=>Fm) ?_
 refine Wt 0 rfl rfl (fun hg=>Fm) ?_
 refine Wt 0 rfl rfl (fun hg=>Cb rfl (ec_ (eg_ hg rfl) (ec_ (eg_ hg rfl) en_)) ent8 (fun u hu=>J1p ⟨v38,_⟩ l u (hu.ro (j:=0) rfl) (hk.st hu))) ?_
 refine Wk 1 Pa ?_
 refine Wt 0 rfl rfl (fun hg=>Cb rfl rfl ent5 (fun u hu=>Jiy u g (hW.st hu))) ?_
 refine Wk 1 Pa ?_
 exact Wd (Qc (Cr (out1 rfl rfl (Jac (by rw [hpf]; simp)))))
end Go.Proofs.YtfbfdnoodccgiaaGreatDoor
