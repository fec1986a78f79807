/- Merged texts of this proof (walks and plain laws), printed by a program of the prover. -/
import Derived.Test.YtaeagngfhceceaaGreatDoorY0
import Derived.Test.YtaeagngfhceceaaGreatDoorZb
import Derived.Test.YtaeagngfhceceaaGreatDoorProg
import Derived.KernelRfl
import Derived.Test.YtaeagngfhceceaaGreatDoorZc
import Derived.Test.YtaeagngfhceceaaGreatDoorZp
import Derived.Test.YtaeagngfhceceaaGreatDoorZg
import Derived.Test.YtaeagngfhceceaaGreatDoorZs
namespace Go.Proofs.YtaeagngfhceceaaGreatDoor
set_option linter.unusedVariables false
set_option linter.unusedSimpArgs false
open Go.RowKit
def OpensV (G : GP) (x : PX) : Int × List Bool := if posG G x = 0 then (0, (iotaI G.lks.length).map (openB G x.2)) else (posG G x, [])
end Go.Proofs.YtaeagngfhceceaaGreatDoor
namespace Go.Proofs.YtaeagngfhceceaaGreatDoor
open Go.Proofs
theorem ent37 : Ent Tryz.prog 37 := ent_of Tryz.func37 (by kernel_rfl) rfl
end Go.Proofs.YtaeagngfhceceaaGreatDoor
set_option maxHeartbeats 8000000
namespace Go.Proofs.YtaeagngfhceceaaGreatDoor
open Go.RowKit Go.Proofs
set_option maxRecDepth 100000
set_option linter.unusedVariables false
set_option linter.unusedSimpArgs false
def RetBs (w : World) (x : List Bool) (f : Value → Value) : Ending → World → Prop := fun e w' => ∃ v : Value, (∃ u0, SlT cBool u0 ⟨v, x⟩) ∧ RetF w (f v) (roT cBool ⟨v, x⟩) e w'
theorem retBs {w0 u : World} {L : List SA} {e : TypeId} {j : Nat} {v : Value} {xs : List Bool} {f : Value → Value} (hj : L[j]? = some (oT cBool e v xs)) (hu : St w0.heap.size w0 L u) : RetBs w0 xs f (.returned (f v)) u :=
 ⟨v, ⟨u, oT_SlT hu hj fun _ _ => trivial⟩, retR (fun S u h => ⟨Star.osl hj h, fun _ _ => trivial⟩) u hu⟩
theorem retBs0 {w0 u : World} {L : List SA} {f : Value → Value} (hu : St w0.heap.size w0 L u) : RetBs w0 [] f (.returned (f (.slice none 0 0))) u :=
 ⟨_, ⟨u, SlT.nil cBool u⟩, retR (fun S u h => SlT.nil cBool u) u hu⟩
theorem iota_map {β : Type} {f : Int → β} {n : Int} (h0 : 0 ≤ n) : (iotaI n.toNat).map f ++ [f n] = (iotaI (n + 1).toNat).map f := by rw [iota_snoc h0, List.map_append]; rfl
theorem iota_len {n : Nat} : (iotaI n).length = n := by simp [iotaI]
section
variable {P : Program} {n0 : Nat} {w0 : World} {L : List SA} {l : List Value} {d : Option Tmp} {ty : TypeId} {ps : String} {af : Array Edge} {g : Option (Nat × Bool)}
theorem WS.buildB1 {ro : Option Nat} {ds : List Deferred} {ops : Array Oper} {Q : Exit → Act → World → Prop} {rest : List Oper} {T e : TypeId} {by_ i : Nat} {x : Operand} {b : Bool} {zc : List Value} (hT : sl P T = some (e, 1, by_)) (hz : zv P e = some zc) (hx : evo l x = some (.bool b))
  {l' : Value → List Value} (hl : ∀ v, lset l i v = some (l' v)) (kk : ∀ v, WS P ro n0 w0 ds ops Q (oT cBool e v [b] :: L) rest (l' v)) :
  WS P ro n0 w0 ds ops Q L (⟨some i, .buildSlice T 1 #[(0, x)], ty, ps, af, none⟩ :: rest) l :=
 WS.buildSlice1 (pl := [(0, x)]) (vs := [.bool b]) hT hz (by simp [ev_of hx]) rfl (by decide) (fun v hv => by simp at hv; subst hv; rfl) hl kk
end
end Go.Proofs.YtaeagngfhceceaaGreatDoor
set_option maxHeartbeats 8000000
namespace Go.Proofs.YtaeagngfhceceaaGreatDoor
open Go.RowKit Go.Proofs
set_option maxRecDepth 100000
set_option linter.unusedVariables false
set_option linter.unusedSimpArgs false
theorem opensP_c {w u : World} (A B : List SA) (G : Game) (hG : GameOk w G) (hV : GoodG G) (tb mb : Nat) (z : Stt) (Z : SA) (hZ : HasZ w Z z) (rv : Value) (rd : List Bool) (hl : rd.length = G.nts.l.length) (f : Int → Int) (hf : KeptO G.p rd f) (lk : Int) (h0 : 0 ≤ lk) (h1 : lk < G.lks.l.length) (hu : St w.heap.size w (A ++ [blk tb [G.rm.pls.v, G.rm.ths.v, G.rm.prs.v, G.rm.wys.v, G.rm.acs.v, G.rm.aus.v, .int .i64 G.rm.ply, G.rm.gl.v, G.lks.v, G.cds.v, G.nts.v, .int .i64 G.tr, z.ths.v, z.prs.v, z.pls.v, rv, .map (some mb)] 148, oT cBool 4 rv rd, mapI mb f, Z] ++ B) u) :
  Calls Tryz.prog 93 #[.pointer (some ⟨tb, 0, none⟩), .int .i64 lk] u (fun e u' => ∃ f' : Int → Int, KeptO G.p rd f' ∧ e = .returned (.bool (openB G.p rd lk)) ∧ St w.heap.size w (A ++ [blk tb [G.rm.pls.v, G.rm.ths.v, G.rm.prs.v, G.rm.wys.v, G.rm.acs.v, G.rm.aus.v, .int .i64 G.rm.ply, G.rm.gl.v, G.lks.v, G.cds.v, G.nts.v, .int .i64 G.tr, z.ths.v, z.prs.v, z.pls.v, rv, .map (some mb)] 148, oT cBool 4 rv rd, mapI mb f', Z] ++ B) u') := by
 have h := opensL_c A B G hG hV tb mb z Z hZ rv rd hl f hf lk h1 hu
 rw [decide_eq_false (by omega : ¬ lk < 0), Bool.false_or] at h
 exact h
theorem OpensI1_c (G : Game) (w : World) (hG : GameOk w G) (g : Sl ByteArray) (hW : GOk w g) (hn : NearG G) (p : Pos) (hp : PosOk w p) (hq : posG G.p p.x = 0) :
  Calls Tryz.prog 37 #[.agg #[G.rm.pls.v, G.rm.ths.v, G.rm.prs.v, G.rm.wys.v, G.rm.acs.v, G.rm.aus.v, .int .i64 G.rm.ply, G.rm.gl.v, G.lks.v, G.cds.v, G.nts.v, .int .i64 G.tr], .agg #[p.st.ths.v, p.st.prs.v, p.st.pls.v, p.rd.v]] w (RetBs w (OpensV G.p p.x).2 fun v => .tuple #[v, .int .i64 (OpensV G.p p.x).1]) := by
 have klk := hG.lks
 have llk := hG.lks.le
 have hP := goodp_of hq
 have hV := hP.toGoodG
 have hI := hP.inn
 have hpl := hP.ln
 have hnl := hV.nl
 refine enter Tryz.func37 rfl rfl (Nat.le_of_ble_eq_true rfl) ?_
 refine Nz 0 ?_
 refine Wb 0 rfl rfl (fun _ => rfl) (fun _ => rfl) fun b2 hb2 => ?_
 refine Wb 2 rfl rfl (fun _ => rfl) (fun _ => rfl) fun b3 hb3 => ?_
 refine Wd (Qc (Nz 0 ?_))
 refine Wk 0 (Bb 1) ?_
 refine Wk 0 (Bb 0) ?_
 refine Wc rfl rfl ent82 (fun u hu => newTeam_c G u (hG.st hu) g (hW.st hu) hn p (hp.toSt hu) hq) (fun _ => rfl) ?_; rintro ⟨bt, mb, rv⟩ hrv
 refine WS.unpack ?_
 refine WS.weak (fun u hu => hu.osl0 (e := 0) (size := 1)) ?_
 refine WS.sel [1, 1, 1, 0, 0, 0] rfl ?_
 refine Wz 5 ?_
 refine Wd (Qc (Cs (Nz 2 ?_)))
 refine Wd (Qc (CS.cond rfl ?_ ?_))<;>intro hc1<;>try simp only [bq] at hc1
 ·
  exact absurd hc1 (by simp)
 ·
  refine Ck (Qc (Cs (Nz 1 ?_)))
  refine Wk 0 (Ba 5) ?_
  refine Wk 1 Nc ?_
  refine Wd (Qc (Ce ?_))
  refine CS.weak (fun _ hu => hu.osl0 (e := 4) (size := 1)) ?_
  refine CS.loopM (σ := Int × Value × (Int → Int)) [7, 21, 22, 23, 24, 25, 26, 27, 28, 29] (fun s => [(20, .int .i64 s.1), (4, s.2.1)]) (fun s => [oT cBool 4 s.2.1 ((iotaI s.1.toNat).map (openB G.p p.rd.l)), blk bt [G.rm.pls.v, G.rm.ths.v, G.rm.prs.v, G.rm.wys.v, G.rm.acs.v, G.rm.aus.v, .int .i64 G.rm.ply, G.rm.gl.v, G.lks.v, G.cds.v, G.nts.v, .int .i64 G.tr, p.st.ths.v, p.st.prs.v, p.st.pls.v, rv, .map (some mb)] 148, oT cBool 4 rv p.rd.l, mapI mb s.2.2, Go.Proofs.YtaeagngfhceceaaGreatDoor.osl 0 1 (.slice none 0 0) 0 [], blk b3 [p.st.ths.v, p.st.prs.v, p.st.pls.v, p.rd.v] 68, blk b2 [G.rm.pls.v, G.rm.ths.v, G.rm.prs.v, G.rm.wys.v, G.rm.acs.v, G.rm.aus.v, .int .i64 G.rm.ply, G.rm.gl.v, G.lks.v, G.cds.v, G.nts.v, .int .i64 G.tr] 36]) (fun s => 0 ≤ s.1 ∧ s.1 ≤ G.lks.l.length ∧ KeptO G.p p.rd.l s.2.2) (fun s => (G.lks.l.length - s.1).toNat) (0, .slice none 0 0, fun _ => 0) (fun _ _ => rfl) rfl rfl ⟨by simp, by simp, KeptO.zero⟩ ?_
  intro a t hs
  obtain ⟨ha1, ha2, ha3⟩ := hs
  refine Nz 1 ?_
  refine Wd (Qc (Cs (CS.cond rfl ?_ ?_)))<;>intro hc2<;>try simp only [bq] at hc2
  ·
   have hil := iota_len (n := a.1.toNat)
   refine Ck (Qc (Cs (Ce (Nz 2 ?_))))
   refine Wd (Qc (Ny 3 ?_))
   refine WS.callS rfl rfl ent93 (fun u hu => opensP_c [_] _ G hG hV bt mb p.st _ (HasZ.old hp.st _) rv p.rd.l hpl _ ha3 a.1 ha1 (by omega) hu) (fun _ => rfl) ?_; rintro f1 hf1
   refine WS.buildB1 (b := openB G.p p.rd.l a.1) sl66 zv4 rfl (fun _ => rfl) ?_; intro v27
   refine WS.appendT1 (j := 1) (jz := 0) sl66 zv4 rfl (by decide) rfl rfl rfl rfl (w := w) trivial (by simp; omega) (by simp; omega) (fun _ => rfl) (fun _ => rfl) ?_; intro v28 hv28
   refine Wz 1 ?_
   refine Wd (Qb (Qc (Ny 0 ?_)))
   refine Wk 1 Za ?_
   refine Wd ?_
   refine QS.sel [1, 1, 1, 1, 1, 1, 1] rfl ?_
   exact QS.head ((a.1 + 1, v28, f1)) rfl (by simp only [iota_map ha1]) ⟨⟨by simp; omega, by simp; omega, hf1⟩, by simp; omega⟩
  ·
   have hae : a.1.toNat = G.lks.l.length := by omega
   refine Cv (Qe (Qe (Qx (Qc (Nz 3 ?_)))))
   refine Wd (Qc (Cr ?_))
   exact out2 rfl rfl rfl (by
     have hv : OpensV G.p p.x = (0, (iotaI a.1.toNat).map (openB G.p p.rd.l)) := by rw [hae]; exact if_pos hq
     rw [hv]
     exact fun u hu => retBs (f := fun v => .tuple #[v, .int .i64 0]) (j := 0) rfl hu)
theorem OpensI0_c (G : Game) (w : World) (hG : GameOk w G) (g : Sl ByteArray) (hW : GOk w g) (hn : NearG G) (p : Pos) (hp : PosOk w p) (hq : ¬ posG G.p p.x = 0) :
  Calls Tryz.prog 37 #[.agg #[G.rm.pls.v, G.rm.ths.v, G.rm.prs.v, G.rm.wys.v, G.rm.acs.v, G.rm.aus.v, .int .i64 G.rm.ply, G.rm.gl.v, G.lks.v, G.cds.v, G.nts.v, .int .i64 G.tr], .agg #[p.st.ths.v, p.st.prs.v, p.st.pls.v, p.rd.v]] w (RetBs w (OpensV G.p p.x).2 fun v => .tuple #[v, .int .i64 (OpensV G.p p.x).1]) := by
 refine enter Tryz.func37 rfl rfl (Nat.le_of_ble_eq_true rfl) ?_
 refine Nz 0 ?_
 refine Wb 0 rfl rfl (fun _ => rfl) (fun _ => rfl) fun b2 hb2 => ?_
 refine Wb 2 rfl rfl (fun _ => rfl) (fun _ => rfl) fun b3 hb3 => ?_
 refine Wd (Qc (Nz 0 ?_))
 refine Wk 0 (Bb 1) ?_
 refine Wk 0 (Bb 0) ?_
 refine Wk 5 (Cb rfl rfl ent82 (fun u hu => newTeamN_c G u (hG.st hu) g (hW.st hu) hn p (hp.toSt hu) hq)) ?_
 refine Wd (Qc (Cs (Nz 2 ?_)))
 refine Wd (Qc (CS.cond rfl ?_ ?_))<;>intro hc1<;>try simp only [bq] at hc1
 ·
  refine Nz 3 ?_
  refine Wd (Qc (Cr (Qr ?_)))
  exact out2 rfl rfl rfl (by
    have hv : OpensV G.p p.x = (posG G.p p.x, []) := if_neg hq
    rw [hv]
    exact fun u hu => retBs0 (f := fun v => .tuple #[v, .int .i64 (posG G.p p.x)]) hu)
 ·
  exact absurd hc1 hq
theorem OpensI_c (G : Game) (w : World) (hG : GameOk w G) (g : Sl ByteArray) (hW : GOk w g) (hn : NearG G) (p : Pos) (hp : PosOk w p) :
  Calls Tryz.prog 37 #[.agg #[G.rm.pls.v, G.rm.ths.v, G.rm.prs.v, G.rm.wys.v, G.rm.acs.v, G.rm.aus.v, .int .i64 G.rm.ply, G.rm.gl.v, G.lks.v, G.cds.v, G.nts.v, .int .i64 G.tr], .agg #[p.st.ths.v, p.st.prs.v, p.st.pls.v, p.rd.v]] w (RetBs w (OpensV G.p p.x).2 fun v => .tuple #[v, .int .i64 (OpensV G.p p.x).1]) := by
 by_cases hq : posG G.p p.x = 0
 ·
  exact OpensI1_c G w hG g hW hn p hp hq
 ·
  exact OpensI0_c G w hG g hW hn p hp hq
end Go.Proofs.YtaeagngfhceceaaGreatDoor
