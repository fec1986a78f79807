/- Contracts of functions, printed by a program of the prover (gen.py). -/
import Derived.Test.YtllebkdchemabaaGreatDoorZv
import Derived.Test.YtllebkdchemabaaGreatDoorZw
set_option maxHeartbeats 8000000
namespace Go.Proofs.YtllebkdchemabaaGreatDoor
open Go.RowKit Go.Proofs Tryz
set_option maxRecDepth 100000
set_option linter.unusedVariables false
set_option linter.unusedSimpArgs false
theorem Ld (a:Addr) (t0:ByteArray) (w:World) (g:Sl ByteArray) (hG:GOk w g) (gk:Sl ByteArray) (hK:KOk w gk) (hM:MaxOk w) (hW8:WOk w) (hU:U8Ok w) (hE:EOk w a):
  Calls prog 3 #[.string t0] w (RetB w (.bool true)):=by
 refine En func3 ?_;refine Nz 1 ?_;refine Nv 1 ?_;refine Wk 1 (Al underlying9 rfl) ?_;refine Wp ?_ ?_<;>intro hc1
 ·refine Nz 0 ?_;refine Wk 1 (Cb rfl rfl ent5 (fun u hu=>Pr u g (hG.st hu))) ?_;exact Wd (Qc (Cr (Qr (out1 rfl rfl retB))))
 refine Ck (Qc (Nz 1 ?_));refine Wc rfl rfl ent6 (fun u hu=>Wi a t0 u g (hG.st hu) gk (hK.st hu) (hM.st hu) (hW8.st hu) (hU.st hu) (hE.st hu) (by omega)) (fun _=>rfl) ?_;rintro y ⟨hye,uy,hyok⟩;have y0:=Sl.one hyok.rm.pls;have y1:=Sl.one hyok.rm.ths;have y2:=Sl.one hyok.rm.prs;have y3:=Sl.one hyok.rm.wys;have y4:=Sl.one hyok.rm.acs;have y5:=Sl.one hyok.rm.aus;have y6:=Sl.one hyok.rm.gl;have y7:=Sl.one hyok.lks;have y8:=Sl.one hyok.cds;have y9:=Sl.one hyok.nts;refine Wz 4 ?_;refine Wq 0 zv37 fun b3 hb3=>?_;refine Wv 2 0 ?_;refine Nx 1 ?_;refine Wc rfl rfl ent7 (fun u hu=>R0 t0 u (by omega)) (fun _=>rfl) ?_;rintro z ⟨hze,uz,hzok⟩;have z0:=Sl.one hzok.rm.pls;have z1:=Sl.one hzok.rm.ths;have z2:=Sl.one hzok.rm.prs;have z3:=Sl.one hzok.rm.wys;have z4:=Sl.one hzok.rm.acs;have z5:=Sl.one hzok.rm.aus;have z6:=Sl.one hzok.rm.gl;have z7:=Sl.one hzok.lks;have z8:=Sl.one hzok.cds;have z9:=Sl.one hzok.nts;refine Wz 4 ?_;refine Wq 0 zv37 fun b6 hb6=>?_;refine Wv 2 0 ?_;refine Nx 0 ?_;refine Wk 0 (Bb 2) ?_;refine Wk 0 (Bb 0) ?_;refine Wk 1 (Cb rfl rfl ent8 (fun u hu=>ZZ y z u (hu.ro (j:=3) rfl) (hu.ro (j:=1) rfl))) ?_;refine Wj 0 ?_;refine Wj 0 ?_;refine Wj 0 ?_;refine Wk 1 Pa ?_;refine Wj 0 ?_;refine Wj 0 ?_;refine Wj 0 ?_;refine Wk 1 Pa ?_;refine Wt 0 rfl rfl (fun hg=>Cb rfl rfl ent5 (fun u hu=>Pr u g (hG.st hu))) ?_;refine Wk 1 Pa ?_;exact Wd (Qc (Cr (out1 rfl rfl (Af (by rw[show clB (y.p=z.p)=true from Cq.2 (hye.trans hze.symm)];simp)))))
end Go.Proofs.YtllebkdchemabaaGreatDoor
