/- Contracts of functions, printed by a program of the prover (gen.py). -/
import Derived.Test.YtdpbapffdmahnaaGreatDoorZz
import Derived.Test.YtdpbapffdmahnaaGreatDoorZe
set_option maxHeartbeats 8000000
namespace Go.Proofs.YtdpbapffdmahnaaGreatDoor
open Go.RowKit Go.Proofs
set_option maxRecDepth 100000
set_option linter.unusedVariables false
set_option linter.unusedSimpArgs false
theorem Jex (lw ls:Int) (c:Clue) (gv:Value) (w:World) (h1:SlI w gv c.g) (hM:MaxOk w) (hW:WOk w) (hT:Lib.TabIs Tryz.prog w "internal/strconv.uint64pow10" .u64 Lib.pow10Tab) :
  Calls Tryz.prog 5 #[.agg #[.int .i64 lw,.int .i64 ls],.agg #[.int .i64 c.k,.int .i64 c.a,.int .i64 c.b,.int .i64 c.n,.int .i64 c.m,gv,.bool c.nt]] w (RetB w (.bool true)):=by
 refine enter Tryz.func5 rfl rfl (Nat.le_of_ble_eq_true rfl) ?_
 refine Nz 0 ?_
 refine Wb 0 rfl rfl (fun _=>rfl) (fun _=>rfl) fun b2 hb2=>?_
 refine Wb 1 rfl rfl (fun _=>rfl) (fun _=>rfl) fun b3 hb3=>?_
 refine Wd (Qc (Nz 0 ?_))
 refine Wk 0 (by first | exact Jad (j:=1) rfl rfl tk45 | exact Jaf (j:=1) rfl rfl (by rfl) tk45 | exact Jag rfl (by assumption) (by rfl) tk45 | exact Jal (n:=2) (j:=1) rfl rfl rfl rfl tk45) ?_
 refine Wk 0 (by first | exact Jav rfl (by assumption) (by omega) tk47 | exact Jad (j:=0) rfl rfl tk47 | exact Jaf (j:=0) rfl rfl (by rfl) tk47 | exact Jag rfl (by assumption) (by rfl) tk47 | exact Jal (n:=7) (j:=0) rfl rfl rfl rfl tk47) ?_
 refine Wk 5 (Cb rfl rfl Jpk (fun u hu=>Jjg lw ls c gv u (h1.st hu) (hW.st hu) (Jma hT hu))) ?_
 refine Wd (Qc (Nz 0 ?_))
 refine Wk 0 (by first | exact Jad (j:=1) rfl rfl tk45 | exact Jaf (j:=1) rfl rfl (by rfl) tk45 | exact Jag rfl (by assumption) (by rfl) tk45 | exact Jal (n:=2) (j:=1) rfl rfl rfl rfl tk45) ?_
 refine Wk 0 (by first | exact Jav rfl (by assumption) (by omega) tk47 | exact Jad (j:=0) rfl rfl tk47 | exact Jaf (j:=0) rfl rfl (by rfl) tk47 | exact Jag rfl (by assumption) (by rfl) tk47 | exact Jal (n:=7) (j:=0) rfl rfl rfl rfl tk47) ?_
 refine Wk 5 (Cb rfl rfl Jpi (fun u hu=>Jjp lw ls c gv u (h1.st hu))) ?_
 refine Wd (Qc (Cs (Nz 2 ?_)))
 refine Wk 1 (Jfg rfl rfl) ?_
 refine Wf 0 rfl rfl (fun hg=>Fm) ?_
 refine Wf 0 rfl rfl (fun hg=>Fm) ?_
 refine Wf 0 rfl rfl (fun hg=>Fr) ?_
 refine Wk 0 Po ?_
 refine Wd (Qc (CS.cond rfl ?_ ?_))<;>intro hc1<;>try simp only [bq] at hc1
 ·
  exact absurd hc1 (by simp [Jdb])
 refine Ck (Qc (Cs (Nz 2 ?_)))
 refine Wd (Qc (CS.cond rfl ?_ ?_))<;>intro hc2<;>try simp only [bq] at hc2
 ·
  refine Nz 0 ?_
  refine Wk 1 (Cb rfl rfl Jov (fun u hu=>Jjh u)) ?_
  exact Wd (Qc (Cr (Qr (out1 rfl rfl retB))))
 have hc2:(Jbg lw ls c).1=0:=hc2
 have hE:Jb3 lw ls c=0:=by
  unfold Jbg at hc2
  split at hc2
  ·
   assumption
  exact hc2
 have hF:(Jbg lw ls c).2=jnB (fmtW c):=by unfold Jbg; rw [if_pos hE]
 have hP:=Jiw hE
 rw [← hF] at hP
 refine Ck (Qc (Nz 0 ?_))
 refine Wk 1 (by first | exact Jad (j:=1) rfl rfl tk45 | exact Jaf (j:=1) rfl rfl (by rfl) tk45 | exact Jag rfl (by assumption) (by rfl) tk45 | exact Jal (n:=2) (j:=1) rfl rfl rfl rfl tk45) ?_
 refine Wc rfl rfl Jpz (fun u hu=>(by have q:=Jkc lw ls (Jbg lw ls c).2 u (hM.st hu) (hW.st hu); rw [hP] at q; exact q)) (fun _=>rfl) ?_; rintro g1 ⟨hg1,u1,hs1⟩
 refine Wz 3 ?_
 refine Wl 0 zv47 (fun _=>rfl) (fun _=>rfl) fun b9 hb9=>?_
 refine WS.storeW (j:=0) rfl rfl rfl rfl (Jbr hg1) tk47 rfl rfl ?_
 refine Wz 1 ?_
 refine Wd (Qc (Nz 3 ?_))
 refine Wt 0 rfl rfl (fun hg=>by first | exact Jav rfl (by assumption) (by (try simp only [bq] at hg); omega) tk47 | exact Jad (j:=0) rfl rfl tk47 | exact Jaf (j:=0) rfl rfl (by rfl) tk47 | exact Jag rfl (by assumption) (by rfl) tk47 | exact Jal (n:=7) (j:=0) rfl rfl rfl rfl tk47) ?_
 refine Wt 0 rfl rfl (fun hg=>by first | exact Jav rfl (by assumption) (by (try simp only [bq] at hg); omega) tk47 | exact Jad (j:=2) rfl rfl tk47 | exact Jaf (j:=2) rfl rfl (by rfl) tk47 | exact Jag rfl (by assumption) (by rfl) tk47 | exact Jal (n:=7) (j:=2) rfl rfl rfl rfl tk47) ?_
 refine Wt 0 rfl rfl (fun hg=>Cb rfl (ec_ (eg_ hg rfl) (ec_ (eg_ hg rfl) en_)) Joy (fun u hu=>Jea c c g1 gv u (hu.roI (j:=1) rfl) (h1.st hu))) ?_
 refine Wk 1 Pa ?_
 refine Wt 0 rfl rfl (fun hg=>Cb rfl rfl Jov (fun u hu=>Jjh u)) ?_
 refine Wk 1 Pa ?_
 exact Wd (Qc (Cr (out1 rfl rfl (Jan (by simp)))))
end Go.Proofs.YtdpbapffdmahnaaGreatDoor
