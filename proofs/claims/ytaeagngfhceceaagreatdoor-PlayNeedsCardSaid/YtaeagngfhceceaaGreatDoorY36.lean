/- Merged texts of this proof (walks and plain laws), printed by a program of the prover. -/
import Derived.Test.YtaeagngfhceceaaGreatDoorY2
import Derived.Test.YtaeagngfhceceaaGreatDoorY6
import Derived.Test.YtaeagngfhceceaaGreatDoorY9
import Derived.Test.YtaeagngfhceceaaGreatDoorY14
import Derived.Test.YtaeagngfhceceaaGreatDoorY16
import Derived.Test.YtaeagngfhceceaaGreatDoorY22
import Derived.Test.YtaeagngfhceceaaGreatDoorY24
import Derived.Test.YtaeagngfhceceaaGreatDoorZb
import Derived.Test.YtaeagngfhceceaaGreatDoorProg
import Derived.KernelRfl
import Derived.Test.YtaeagngfhceceaaGreatDoorZc
import Derived.Test.YtaeagngfhceceaaGreatDoorZp
import Derived.Test.YtaeagngfhceceaaGreatDoorZg
import Derived.Test.YtaeagngfhceceaaGreatDoorZq
namespace Go.Proofs.YtaeagngfhceceaaGreatDoor
open Go.Proofs
theorem ent53 : Ent Tryz.prog 53 := ent_of Tryz.func53 (by kernel_rfl) rfl
end Go.Proofs.YtaeagngfhceceaaGreatDoor
set_option maxHeartbeats 8000000
namespace Go.Proofs.YtaeagngfhceceaaGreatDoor
open Go.RowKit Go.Proofs
set_option maxRecDepth 100000
set_option linter.unusedVariables false
set_option linter.unusedSimpArgs false
section
variable {P : Program} {ro : Option Nat} {n0 : Nat} {w0 : World} {ds : List Deferred} {ops : Array Oper} {Q : Exit → Act → World → Prop} {L : List SA}
 {rest : List Oper} {l : List Value} {ty : TypeId} {ps : String} {af : Array Edge}
theorem St.keep2 {u : World} {p : World → Prop} {e e' : TypeId} {v a : Value} {xs ys : List Int} (hp : ∀ u, p u → SlI u a ys) (h : St n0 w0 (oints e v xs :: roS p :: L) u) : St n0 w0 (oints e' (.slice none 0 0) [] :: roS (fun u => SlI u a ys ∧ SlI u v xs) :: L) u := by
 have h1 := St.roAnd (St.toRo (A := oints e v xs) (p := fun u => SlI u v xs) (fun S u hA => ownsRow_SlC hA.2) h)
 have h2 := St.toRo (p := fun u => SlI u a ys ∧ SlI u v xs) (fun S u (q : (roS fun u => SlI u v xs ∧ p u).h S u) => ⟨hp _ (roS.now q).2, (roS.now q).1⟩) h1
 exact h2.osl0
theorem St.keep1 {u : World} {v : Value} {xs : List Int} (h : St n0 w0 (Go.Proofs.YtaeagngfhceceaaGreatDoor.roI v xs :: L) u) : St n0 w0 (roS (fun u => SlI u v xs ∧ SlI u v xs) :: L) u :=
 St.toRo (p := fun u => SlI u v xs ∧ SlI u v xs) (fun S u (q : (roS fun u => SlI u v xs).h S u) => ⟨roS.now q, roS.now q⟩) h
theorem CS.exr {p : World → Prop} {j : Nat} {c : Code} (hj : L[j]? = some (roS p)) (k : (∃ u, p u) → CS P ro n0 w0 ds c Q L l) : CS P ro n0 w0 ds c Q L l := fun u hu => k ⟨u, hu.ro hj⟩ u hu
end
def dropQ (G : GP) (lk i : Int) (k : Int) : Bool := !decide (k = nth (allN G lk) i)
theorem needX_yes {G : GP} {lk i : Int} (h0 : 0 ≤ i) (h : readN G lk ((needX G lk i.toNat).filter (dropQ G lk i)) = readN G lk (allN G lk)) : needX G lk (i + 1).toNat = (needX G lk i.toNat).filter (dropQ G lk i) := by
 rw [show (i + 1).toNat = i.toNat + 1 by omega, needX]
 have e : ((i.toNat : Nat) : Int) = i := by omega
 rw [e]
 exact if_pos h
theorem needX_no {G : GP} {lk i : Int} (h0 : 0 ≤ i) (h : ¬ readN G lk ((needX G lk i.toNat).filter (dropQ G lk i)) = readN G lk (allN G lk)) : needX G lk (i + 1).toNat = needX G lk i.toNat := by
 rw [show (i + 1).toNat = i.toNat + 1 by omega, needX]
 have e : ((i.toNat : Nat) : Int) = i := by omega
 rw [e]
 exact if_neg h
theorem NeededR_c (G : Game) (w : World) (hG : GameOk w G) (hn : NearG G) (lk : Int) :
  Calls Tryz.prog 53 #[.agg #[G.rm.pls.v, G.rm.ths.v, G.rm.prs.v, G.rm.wys.v, G.rm.acs.v, G.rm.aus.v, .int .i64 G.rm.ply, G.rm.gl.v, G.lks.v, G.cds.v, G.nts.v, .int .i64 G.tr], .int .i64 lk] w (fun e w' => ∃ x : Value, (∃ u0, SlI u0 x (NeedV G.p lk).2) ∧ RetF w (.tuple #[x, .int .i64 (NeedV G.p lk).1]) (roI x (NeedV G.p lk).2) e w') := by
 have klk := hG.lks
 have llk := hG.lks.le
 refine enter Tryz.func53 rfl rfl (Nat.le_of_ble_eq_true rfl) ?_
 refine Nz 0 ?_
 refine Wb 2 rfl rfl (fun _ => rfl) (fun _ => rfl) fun b2 hb2 => ?_
 refine Wd (Qc (Nz 0 ?_))
 refine Wk 0 (Bb 0) ?_
 refine Wk 1 (Cb rfl rfl ent15 (fun u hu => GRCheck_c G u (hG.st hu) hn)) ?_
 refine Wd (Qc (Cs (Nz 2 ?_)))
 refine Wd (Qc (CS.cond rfl ?_ ?_))<;>intro hc1<;>try simp only [bq] at hc1
 ·
  refine Nz 3 ?_
  refine Wd (Qc (Cr (Qr ?_)))
  exact out2 rfl rfl rfl (by
    have hv : NeedV G.p lk = (checkG G.p, []) := if_neg hc1
    rw [hv]
    exact retIn (f := fun v => .tuple #[v, .int .i64 (checkG G.p)]) rfl rfl)
 ·
  have hV := good_of hc1
  have hnl := hV.nl
  have hnn := hV.nn
  have hal := all_len hV lk
  refine Ck (Qc (Cs (Nz 2 ?_)))
  refine Wk 0 (Ba 0) ?_
  refine Wk 0 Nc ?_
  refine Wk 0 Zb ?_
  refine Wk 1 (Cb rfl rfl ent61 (fun u hu => gfrom_c _ _ _ u)) ?_
  refine Wd (Qc (CS.cond rfl ?_ ?_))<;>intro hc2<;>try simp only [bq] at hc2
  ·
   refine Nz 2 ?_
   refine Wd (Qc (Cr (Qr ?_)))
   exact out2 rfl rfl rfl (by
     have hv : NeedV G.p lk = (1, []) := (if_pos hc1).trans (if_neg (show ¬ (decide (0 ≤ lk) && decide (lk ≤ (G.lks.l.length : Int) - 1)) = true from by simp only [Bool.and_eq_true, decide_eq_true_eq]; omega))
     rw [hv]
     exact retIn (f := fun v => .tuple #[v, .int .i64 1]) rfl rfl)
  ·
   have hin : 0 ≤ lk ∧ lk ≤ (G.lks.l.length : Int) - 1 := by omega
   refine Ck (Qc (Nz 0 ?_))
   refine Wk 1 (Bb 0) ?_
   refine Wc rfl rfl ent101 (fun u hu => aboutR_c G u (hG.st hu) (by omega) _) (fun _ => rfl) ?_; rintro va ⟨ua, hva⟩
   refine WS.weak (fun u hu => St.keep1 hu) ?_
   refine Wz 1 ?_
   refine Wd (Qc (Nz 2 ?_))
   refine Wd (Qc (Cs (Nz 1 ?_)))
   refine Wd (Qc (Ce ?_))
   refine CS.loopM (σ := Int × Value) [10, 11, 28, 29, 30, 31, 32, 33, 34, 35, 36, 37, 38, 39, 40, 41, 42, 43, 44, 45, 46, 47, 48, 49, 50, 51, 52, 53, 54, 55, 56, 57, 58, 59, 60, 61, 62, 63, 64, 65] (fun s => [(9, .int .i64 s.1), (8, s.2)]) (fun s => [roS (fun u => SlI u va (allN G.p lk) ∧ SlI u s.2 (needX G.p lk s.1.toNat)), blk b2 [G.rm.pls.v, G.rm.ths.v, G.rm.prs.v, G.rm.wys.v, G.rm.acs.v, G.rm.aus.v, .int .i64 G.rm.ply, G.rm.gl.v, G.lks.v, G.cds.v, G.nts.v, .int .i64 G.tr] 36]) (fun s => 0 ≤ s.1 ∧ s.1 ≤ (allN G.p lk).length) (fun s => ((allN G.p lk).length - s.1).toNat) (0, va) (fun _ _ => rfl) rfl rfl ⟨by simp, by simp⟩ ?_
   intro a t hs
   obtain ⟨ha1, ha2⟩ := hs
   refine CS.exr (j := 0) rfl fun ⟨ua3, _, ha3⟩ => ?_
   refine Cs (Nz 2 ?_)
   refine Wk 1 (det_lenS sl42 rfl hva) ?_
   refine Wd (Qc (CS.cond rfl ?_ ?_))<;>intro hc3<;>try simp only [bq] at hc3
   ·
    have hxl := needX_len hV (lk := lk) a.1.toNat
    refine Ck (Qc (Cs (Ce (Nz 1 ?_))))
    refine Wd (Qc (Cs (Nz 1 ?_)))
    refine Wd (Qc (Ce ?_))
    refine CS.weak (fun _ hu => hu.osl0 (e := 3) (size := 1)) ?_
    refine CS.loopM (σ := Int × Value) [34, 35, 36, 37, 38, 39, 40, 41, 42, 43, 44, 45, 46, 47, 48, 49, 50, 51, 52, 53, 54, 55] (fun s => [(11, .int .i64 s.1), (10, s.2)]) (fun s => [oints 3 s.2 (((needX G.p lk a.1.toNat).take s.1.toNat).filter (dropQ G.p lk a.1)), roS (fun u => SlI u va (allN G.p lk) ∧ SlI u a.2 (needX G.p lk a.1.toNat)), blk b2 [G.rm.pls.v, G.rm.ths.v, G.rm.prs.v, G.rm.wys.v, G.rm.acs.v, G.rm.aus.v, .int .i64 G.rm.ply, G.rm.gl.v, G.lks.v, G.cds.v, G.nts.v, .int .i64 G.tr] 36]) (fun s => 0 ≤ s.1 ∧ s.1 ≤ (needX G.p lk a.1.toNat).length) (fun s => ((needX G.p lk a.1.toNat).length - s.1).toNat) (0, .slice none 0 0) (fun _ _ => rfl) rfl rfl ⟨by simp, by simp⟩ ?_
    intro d t hs
    obtain ⟨hd1, hd2⟩ := hs
    refine Cs (Nz 2 ?_)
    refine Wk 1 (det_lenS sl42 rfl ha3) ?_
    refine Wd (Qc (CS.cond rfl ?_ ?_))<;>intro hc4<;>try simp only [bq] at hc4
    ·
     have hfl := filt_len (p := dropQ G.p lk a.1) (l := (needX G.p lk a.1.toNat)) (n := d.1.toNat)
     refine Ck (Qc (Cs (Ce (Cs (Dr mixed 2 ?_)))))
     refine Dk 0 (det_idxI sl42 rfl rfl ha3 (by omega) (by omega)) ?_
     refine Dk 2 (det_ldP (j := 1) rfl (fun u (h : SlI u va (allN G.p lk) ∧ SlI u a.2 (needX G.p lk a.1.toNat)) => h.2) rfl (by omega) tk3) ?_
     refine Dk 0 (det_idxI sl42 rfl rfl hva (by omega) (by omega)) ?_
     refine Dk 1 (det_ldP (j := 1) rfl (fun u (h : SlI u va (allN G.p lk) ∧ SlI u a.2 (needX G.p lk a.1.toNat)) => h.1) rfl (by omega) tk3) ?_
     refine Dd (Qc (CS.cond rfl ?_ ?_))<;>intro hc5<;>try simp only [bq] at hc5
     ·
      refine Ny 3 ?_
      refine Wk 0 (det_idxI sl42 rfl rfl ha3 (by omega) (by omega)) ?_
      refine Wk 0 (det_ldP (j := 1) rfl (fun u (h : SlI u va (allN G.p lk) ∧ SlI u a.2 (needX G.p lk a.1.toNat)) => h.2) rfl (by omega) tk3) ?_
      refine WS.buildI1 sl42 zv3 rfl (fun _ => rfl) ?_; intro v54
      refine WS.appendI (j := 1) sl42 zv3 rfl rfl rfl (fun u hu => oints_SlI hu (j := 0) rfl) (by first | omega | (simp; omega) | (simp only [List.length_append, List.length_singleton, List.length_map, List.length_cons, List.length_nil] at *; omega)) (by first | omega | (simp; omega) | (simp only [List.length_append, List.length_singleton, List.length_map, List.length_cons, List.length_nil] at *; omega)) (fun _ => rfl) (fun _ => rfl) ?_; intro v55; refine WS.oc (j := 1) rfl (fun hv55 => ?_)
      refine Wz 1 ?_
      refine Wd (Qb (Qc (Ny 1 ?_)))
      refine Wk 1 Za ?_
      refine Wd ?_
      refine QS.sel [1, 1, 1] rfl ?_
      exact QS.head ((d.1 + 1, v55)) rfl (by first | simp only [filt_yes hd1 (show d.1 < (needX G.p lk a.1.toNat).length by omega) (show dropQ G.p lk a.1 _ = true by unfold dropQ; simpa using hc5)] | simp only [← filt_no hd1 (show d.1 < (needX G.p lk a.1.toNat).length by omega) (show dropQ G.p lk a.1 _ = false by unfold dropQ; simpa using hc5)]) ⟨⟨by simp; omega, by simp; omega⟩, by simp; omega⟩
     ·
      refine Ck (Qb (Qc (Ny 1 ?_)))
      refine Wk 1 Za ?_
      exact Wd (QS.head ((d.1 + 1, d.2)) rfl (by first | simp only [filt_yes hd1 (show d.1 < (needX G.p lk a.1.toNat).length by omega) (show dropQ G.p lk a.1 _ = true by unfold dropQ; simpa using hc5)] | simp only [← filt_no hd1 (show d.1 < (needX G.p lk a.1.toNat).length by omega) (show dropQ G.p lk a.1 _ = false by unfold dropQ; simpa using hc5)]) ⟨⟨by simp; omega, by simp; omega⟩, by simp; omega⟩)
    ·
     have hta : (needX G.p lk a.1.toNat).take d.1.toNat = (needX G.p lk a.1.toNat) := List.take_of_length_le (by omega)
     rw [hta]
     refine Cv (Qe (Qe (Qx (Qc (Cs (Dr mixed 0 ?_))))))
     refine Dk 2 (Bb 2) ?_
     refine Dk 0 (Cb rfl rfl ent92 (fun u hu => readingsR_c G u (hG.st hu) hV lk hin.1 (by omega) _ _ (oints_SlI hu (j := 0) rfl) (needX_of _).filt (Nat.le_trans (List.length_filter_le _ _) (by omega)))) ?_
     refine Dk 2 (Bb 2) ?_
     refine Dk 1 (Cb rfl rfl ent92 (fun u hu => readingsR_c G u (hG.st hu) hV lk hin.1 (by omega) _ _ (hu.ro (j := 1) rfl).1 all_of (by omega))) ?_
     refine Dd (Qc (CS.cond rfl ?_ ?_))<;>intro hc6<;>try simp only [bq] at hc6
     ·
      refine CS.weak (fun u hu => St.keep2 (e' := 3) (fun _ h => h.1) hu) ?_
      have hnx := needX_yes ha1 hc6
      refine Ny 2 ?_
      refine Wd (Qb (Qc (Ny 1 ?_)))
      refine Wk 1 Za ?_
      refine Wd ?_
      refine QS.sel [1, 1] rfl ?_
      exact QS.head ((a.1 + 1, d.2)) rfl (by simp only [hnx]) ⟨⟨by simp; omega, by simp; omega⟩, by simp; omega⟩
     ·
      have hnx := needX_no ha1 hc6
      refine Ck (Qb (Qc (Ny 1 ?_)))
      refine Wk 1 Za ?_
      refine Wd ?_
      refine QS.sel [1, 1] rfl ?_
      exact QS.head ((a.1 + 1, a.2)) rfl (by simp only [hnx]) ⟨⟨by simp; omega, by simp; omega⟩, by simp; omega⟩
   ·
    refine Cv (Qe (Qe (Qx (Qc (Nz 3 ?_)))))
    refine Wd (Qc (Cr ?_))
    exact out2 rfl rfl rfl (by
      have hv : NeedV G.p lk = (0, needX G.p lk a.1.toNat) := (if_pos hc1).trans ((if_pos (show (decide (0 ≤ lk) && decide (lk ≤ (G.lks.l.length : Int) - 1)) = true from by simpa using hin)).trans (by rw [show a.1.toNat = (allN G.p lk).length by omega]))
      rw [hv]
      exact retIp (v := a.2) (f := fun v => .tuple #[v, .int .i64 0]) (fun S u hs => (Star.ro (j := 0) rfl hs : SlI u va (allN G.p lk) ∧ SlI u a.2 (needX G.p lk a.1.toNat)).2) rfl)
end Go.Proofs.YtaeagngfhceceaaGreatDoor
