/- Merged texts of this proof (walks and plain laws), printed by a program of the prover. -/
import Derived.Test.YtaeagngfhceceaaGreatDoorZp
import Derived.Test.YtaeagngfhceceaaGreatDoorZg
import Derived.Test.YtaeagngfhceceaaGreatDoorZb
set_option maxHeartbeats 8000000
namespace Go.Proofs.YtaeagngfhceceaaGreatDoor
open Go.RowKit Go.Proofs
set_option maxRecDepth 100000
set_option linter.unusedVariables false
set_option linter.unusedSimpArgs false
section
variable {P : Program} {ro : Option Nat} {n0 : Nat} {w0 : World} {ds : List Deferred} {ops : Array Oper} {Q : Exit → Act → World → Prop} {L : List SA}
 {rest : List Oper} {l : List Value} {ty : TypeId} {ps : String} {af : Array Edge}
theorem CS.exr {p : World → Prop} {j : Nat} {c : Code} (hj : L[j]? = some (roS p)) (k : (∃ u, p u) → CS P ro n0 w0 ds c Q L l) : CS P ro n0 w0 ds c Q L l := fun u hu => k ⟨u, hu.ro hj⟩ u hu
end
theorem needX_len {G : Game} (hV : GoodG G) {lk : Int} : ∀ n, (needX G.p lk n).length ≤ 16
 | 0 => all_len hV lk
 | n + 1 => by
  unfold needX
  split
  ·
   exact Nat.le_trans (List.length_filter_le _ _) (needX_len hV n)
  ·
   exact needX_len hV n
end Go.Proofs.YtaeagngfhceceaaGreatDoor
set_option maxHeartbeats 8000000
namespace Go.Proofs.YtaeagngfhceceaaGreatDoor
open Go.RowKit Go.Proofs
set_option maxRecDepth 100000
set_option linter.unusedVariables false
set_option linter.unusedSimpArgs false
theorem about_c (G : Game) (w : World) (hG : GameOk w G) (hnn : G.nts.l.length ≤ 1000) (lk : Int) (f : FuncId) (cap : List Value) (q : Int → Bool) (hf : Ent Tryz.prog f)
  (hq : ∀ u, Below w.heap.size w u → ∀ i : Int, 0 ≤ i → i < G.nts.l.length → Calls Tryz.prog f ([.int .i64 i] ++ cap : List Value).toArray u (RetB u (.bool (q i)))) :
  Calls Tryz.prog 64 #[.agg #[G.rm.pls.v, G.rm.ths.v, G.rm.prs.v, G.rm.wys.v, G.rm.acs.v, G.rm.aus.v, .int .i64 G.rm.ply, G.rm.gl.v, G.lks.v, G.cds.v, G.nts.v, .int .i64 G.tr], .int .i64 lk, .func (.func f) #[] cap.toArray] w (fun e w' => ∃ x : Value × Value, (x.1.oneCell' = true ∧ x.2.oneCell' = true) ∧ RetF w (.tuple #[x.1, x.2]) (star [oints 3 x.1 (aboutN G.p lk q), osl 48 7 x.2 (clsG G (aboutN G.p lk q)).length (clFlat (clsG G (aboutN G.p lk q)) (gvsG G (aboutN G.p lk q)))]) e w') := by
 have knt := hG.nts
 have lnt := hG.nts.le
 refine enter Tryz.func64 rfl rfl (Nat.le_of_ble_eq_true rfl) ?_
 refine Nz 0 ?_
 refine Wb 2 rfl rfl (fun _ => rfl) (fun _ => rfl) fun b3 hb3 => ?_
 refine Wd (Qc (Cs (Nz 1 ?_)))
 refine Wk 0 (Ba 0) ?_
 refine Wk 1 Nc ?_
 refine Wd (Qc (Ce ?_))
 refine CS.weak (fun _ hu => hu.osl0 (e := 48) (size := 7)) ?_
 refine CS.weak (fun _ hu => hu.osl0 (e := 3) (size := 1)) ?_
 refine CS.loopM (σ := Int × Value × Value) [8, 9, 14, 15, 16, 17, 18, 19, 20, 21, 22, 23, 24, 25, 26, 27, 28, 29, 30, 31, 32, 33, 34, 35, 36] (fun s => [(6, s.2.1), (7, s.2.2), (13, .int .i64 s.1)]) (fun s => [oints 3 s.2.1 (filI s.1 (fun i => decide ((nth G.nts.l i).lk = lk) && q i)), osl 48 7 s.2.2 (clsG G (filI s.1 (fun i => decide ((nth G.nts.l i).lk = lk) && q i))).length (clFlat (clsG G (filI s.1 (fun i => decide ((nth G.nts.l i).lk = lk) && q i))) (gvsG G (filI s.1 (fun i => decide ((nth G.nts.l i).lk = lk) && q i)))), blk b3 [G.rm.pls.v, G.rm.ths.v, G.rm.prs.v, G.rm.wys.v, G.rm.acs.v, G.rm.aus.v, .int .i64 G.rm.ply, G.rm.gl.v, G.lks.v, G.cds.v, G.nts.v, .int .i64 G.tr] 36]) (fun s => 0 ≤ s.1 ∧ s.1 ≤ G.nts.l.length) (fun s => (G.nts.l.length - s.1).toNat) (0, .slice none 0 0, .slice none 0 0) (fun _ _ => rfl) rfl rfl ⟨by simp, by simp⟩ ?_
 intro s t hs
 obtain ⟨hs1, hs2⟩ := hs
 have hfl := filI_len (n := s.1) (p := (fun i => decide ((nth G.nts.l i).lk = lk) && q i)) hs1
 have hcl : (clsG G (filI s.1 (fun i => decide ((nth G.nts.l i).lk = lk) && q i))).length = (filI s.1 (fun i => decide ((nth G.nts.l i).lk = lk) && q i)).length := by simp [clsG]
 refine Nz 1 ?_
 refine Wd (Qc (Cs (CS.cond rfl ?_ ?_)))<;>intro hc1<;>try simp only [bq] at hc1
 ·
  have hs3 : s.1 < G.nts.l.length := by omega
  have hnt : cNote.ok w (nth G.nts.l s.1) := knt.at hs1 hs3
  have hg1 := hnt.2.one1
  have hwh1 := Sl.one hnt.1
  refine Ck (Qc (Cs (Ce (Nz 1 ?_))))
  refine Wk 0 Xc ?_
  refine Wk 0 Ua ?_
  refine Wl 1 zv50 (fun _ => rfl) (fun _ => rfl) fun b9 hb9 => ?_
  refine Wv 0 0 ?_
  refine Wd (Qc (Nz 1 ?_))
  refine Wk 3 (Ba 0) ?_
  refine Wt 0 rfl rfl (fun hg => Fm) ?_
  refine Wt 0 rfl rfl (fun hg => Fm) ?_
  refine Wt 0 rfl rfl (fun hg => Cb (eg_ hg rfl) (ec_ (eg_ hg rfl) en_) hf (fun u hu => hq u hu.below s.1 hs1 hs3)) ?_
  refine Wk 0 Pa ?_
  refine Wd (Qc (CS.cond rfl ?_ ?_))<;>intro hc2<;>try simp only [bq] at hc2
  ·
   have hpy : (fun i => decide ((nth G.nts.l i).lk = lk) && q i) s.1 = true := by (simp only [Bool.and_eq_true, decide_eq_true_eq]; exact hc2)
   refine Nz 2 ?_
   refine WS.buildI1 sl42 zv3 rfl (fun _ => rfl) ?_; intro v29
   refine WS.appendI (j := 2) sl42 zv3 rfl rfl rfl (fun u hu => oints_SlI hu (j := 0) rfl) (by first | omega | (simp; omega) | (simp only [List.length_append, List.length_singleton, List.length_map, List.length_cons, List.length_nil] at *; omega)) (by first | omega | (simp; omega) | (simp only [List.length_append, List.length_singleton, List.length_map, List.length_cons, List.length_nil] at *; omega)) (fun _ => rfl) (fun _ => rfl) ?_; intro v30; refine WS.oc (j := 2) rfl (fun hv30 => ?_)
   refine Wz 1 ?_
   refine Wd (Qc (Ny 2 ?_))
   refine Wk 0 (Bc 1) ?_
   refine WS.buildC1 sl46 zv48 (c := (nth G.nts.l s.1).cl) (gv := (nth G.nts.l s.1).gv) rfl (fun _ => rfl) ?_; intro v34
   refine WS.appendCl (j := 4) (jz := 0) sl46 zv48 rfl rfl rfl (by simp [clsG, gvsG]) rfl rfl hg1 (by omega) (by omega) (fun _ => rfl) (fun _ => rfl) ?_; intro v35 hv35
   refine Wz 1 ?_
   refine Wd (Qb (Qc (Ny 0 ?_)))
   refine Wk 1 Za ?_
   refine Wd ?_
   refine QS.sel [3, 3, 3] rfl ?_
   exact QS.head ((s.1 + 1, v30, v35)) rfl (by first | simp only [← filI_yes (p := (fun i => decide ((nth G.nts.l i).lk = lk) && q i)) hs1 hpy, clsG, gvsG, List.map_append, List.map_cons, List.map_nil] | simp only [← filI_no (p := (fun i => decide ((nth G.nts.l i).lk = lk) && q i)) hs1 hpn]) ⟨⟨by simp; omega, by simp; omega⟩, by simp; omega⟩
  ·
   have hpn : (fun i => decide ((nth G.nts.l i).lk = lk) && q i) s.1 = false := by (simp only [Bool.and_eq_false_iff, decide_eq_false_iff_not]; exact hc2)
   refine Ck (Qb (Qc (Ny 0 ?_)))
   refine Wk 1 Za ?_
   refine Wd ?_
   refine QS.sel [1, 1, 1] rfl ?_
   exact QS.head ((s.1 + 1, s.2)) rfl (by first | simp only [← filI_yes (p := (fun i => decide ((nth G.nts.l i).lk = lk) && q i)) hs1 hpy, clsG, gvsG, List.map_append, List.map_cons, List.map_nil] | simp only [← filI_no (p := (fun i => decide ((nth G.nts.l i).lk = lk) && q i)) hs1 hpn]) ⟨⟨by simp; omega, by simp; omega⟩, by simp; omega⟩
 ·
  have hse : s.1 = G.nts.l.length := by omega
  refine Cv (Qe (Qe (Qx (Qc (Nz 4 ?_)))))
  refine Wd (Qc (Cr ?_))
  rw [hse, ← aboutN_p G lk q]
  refine QS.oc (j := 0) rfl (fun hv6 => ?_)
  refine QS.oc (j := 1) rfl (fun hv7 => ?_)
  exact out2 rfl rfl rfl (fun u hu => ⟨s.2, ⟨hv6, hv7⟩, retFs (hu.sel [0, 0] rfl) (List.Perm.refl _)⟩)
theorem every_c (i : Int) (w : World) :
  Calls Tryz.prog 65 #[.int .i64 i] w (RetB w (.bool true)) := by
 refine enter Tryz.func65 rfl rfl (Nat.le_of_ble_eq_true rfl) ?_
 refine Nz 1 ?_
 refine Wd (Qc (Nz 1 ?_))
 exact Wd (Qc (Cr (out1 rfl rfl retB)))
end Go.Proofs.YtaeagngfhceceaaGreatDoor
set_option maxHeartbeats 8000000
namespace Go.Proofs.YtaeagngfhceceaaGreatDoor
open Go.RowKit Go.Proofs
set_option maxRecDepth 100000
set_option linter.unusedVariables false
set_option linter.unusedSimpArgs false
structure TeamOk (w : World) (bt mb : Nat) (G : Game) (p : Pos) : Prop where
 blk : BlkAt w bt [G.rm.pls.v, G.rm.ths.v, G.rm.prs.v, G.rm.wys.v, G.rm.acs.v, G.rm.aus.v, .int .i64 G.rm.ply, G.rm.gl.v, G.lks.v, G.cds.v, G.nts.v, .int .i64 G.tr, p.st.ths.v, p.st.prs.v, p.st.pls.v, p.rd.v, .map (some mb)] 148
 gm : GameOk w G
 ps : PosOk w p
theorem TeamOk.ext {w u : World} {bt mb : Nat} {G : Game} {p : Pos} (h : TeamOk w bt mb G p) (hb : Below w.heap.size w u) : TeamOk u bt mb G p := ⟨h.blk.ext hb, h.gm.ext hb, h.ps.ext hb⟩
end Go.Proofs.YtaeagngfhceceaaGreatDoor
set_option maxHeartbeats 8000000
namespace Go.Proofs.YtaeagngfhceceaaGreatDoor
open Go.RowKit Go.Proofs
set_option maxRecDepth 100000
set_option linter.unusedVariables false
set_option linter.unusedSimpArgs false
def KeptO (G : GP) (rd : List Bool) (f : Int → Int) : Prop := ∀ k, f k = 0 ∨ f k = if openB G rd k = true then 1 else 2
theorem KeptO.zero {G : GP} {rd : List Bool} : KeptO G rd (fun _ => 0) := fun _ => .inl rfl
theorem KeptO.upd {G : GP} {rd : List Bool} {f : Int → Int} (h : KeptO G rd f) {k v : Int} (hv : v = if openB G rd k = true then 1 else 2) : KeptO G rd (updI f k v) := fun j => by
 unfold updI
 split
 ·
  rename_i e; rw [e]; exact .inr hv
 ·
  exact h j
structure HasZ (w : World) (Z : SA) (z : Stt) : Prop where
 get : ∀ {L : List SA} {u : World} {j : Nat}, L[j]? = some Z → St w.heap.size w L u → SttOk u z
theorem HasZ.ro {w : World} {z : Stt} : HasZ w (roS fun u => SttOk u z) z := ⟨fun hj hu => hu.ro hj⟩
theorem HasZ.old {w : World} {z : Stt} (hz : SttOk w z) (Z : SA) : HasZ w Z z := ⟨fun _ hu => hz.st hu⟩
end Go.Proofs.YtaeagngfhceceaaGreatDoor
