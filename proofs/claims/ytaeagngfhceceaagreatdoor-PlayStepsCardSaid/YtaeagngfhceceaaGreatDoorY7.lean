/- Merged texts of this proof (walks and plain laws), printed by a program of the prover. -/
import Derived.Test.YtaeagngfhceceaaGreatDoorY0
import Derived.Test.YtaeagngfhceceaaGreatDoorY1
import Derived.Test.YtaeagngfhceceaaGreatDoorY5
import Derived.Test.YtaeagngfhceceaaGreatDoorZb
import Derived.Test.YtaeagngfhceceaaGreatDoorProg
import Derived.KernelRfl
import Derived.Test.YtaeagngfhceceaaGreatDoorZc
import Derived.Test.YtaeagngfhceceaaGreatDoorZo
import Derived.Test.YtaeagngfhceceaaGreatDoorZe
import Derived.Test.YtaeagngfhceceaaGreatDoorZl
namespace Go.Proofs.YtaeagngfhceceaaGreatDoor
open Go.Proofs
theorem ent94 : Ent Tryz.prog 94 := ent_of Tryz.func94 (by kernel_rfl) rfl
end Go.Proofs.YtaeagngfhceceaaGreatDoor
set_option maxHeartbeats 8000000
namespace Go.Proofs.YtaeagngfhceceaaGreatDoor
open Go.RowKit Go.Proofs
set_option maxRecDepth 100000
set_option linter.unusedVariables false
set_option linter.unusedSimpArgs false
theorem openR_c (G : Game) (w : World) (hG : GameOk w G) (hV : GoodG G) (p : Pos) (hp : PosOk w p) (hl : p.rd.l.length = G.nts.l.length) (lk : Int) (h0 : 0 ≤ lk) (h1 : lk < G.lks.l.length) :
  Calls Tryz.prog 94 #[.agg #[G.rm.pls.v, G.rm.ths.v, G.rm.prs.v, G.rm.wys.v, G.rm.acs.v, G.rm.aus.v, .int .i64 G.rm.ply, G.rm.gl.v, G.lks.v, G.cds.v, G.nts.v, .int .i64 G.tr], .agg #[p.st.ths.v, p.st.prs.v, p.st.pls.v, p.rd.v], .int .i64 lk] w (RetB w (.bool (openB G.p p.rd.l lk))) := by
 have hnn := hV.nn
 refine enter Tryz.func94 rfl rfl (Nat.le_of_ble_eq_true rfl) ?_
 refine Nz 0 ?_
 refine Wb 0 rfl rfl (fun _ => rfl) (fun _ => rfl) fun b3 hb3 => ?_
 refine Wb 1 rfl rfl (fun _ => rfl) (fun _ => rfl) fun b4 hb4 => ?_
 refine Wd (Qc (Cs ?_))
 refine CS.drawnAll (k := 11) mixed rfl rfl ?_
 refine Ak 0 [1] rfl (Bb 1) ?_
 refine Ak 2 [] rfl (Bb 1) ?_
 refine Ak 3 [4,7] rfl (Bb 0) ?_
 refine Ak 8 [] rfl (Ba 1) ?_
 refine Ao 5 rfl ?_
 refine Wc rfl rfl ent90 (fun u hu => clues_c G u (hG.st hu) p (hp.toSt hu) hl (by omega) _) (fun _ => rfl) ?_; rintro vc ⟨uc, hvc⟩
 refine Wd (Qa ?_)
 refine Ao 6 rfl ?_
 refine Wk 0 (Cb rfl rfl ent92 (fun u hu => readingsR_c G u (hG.st hu) hV _ h0 h1 _ _ (hu.ro (j := 0) rfl) clu_of (Nat.le_trans (clu_len hV _ _) (by decide)))) ?_
 refine Wd (Qa ?_)
 refine Ar [9,10] ?_
 refine Ae ?_
 exact Qc (Cr (out1 rfl rfl (retBe rfl)))
end Go.Proofs.YtaeagngfhceceaaGreatDoor
