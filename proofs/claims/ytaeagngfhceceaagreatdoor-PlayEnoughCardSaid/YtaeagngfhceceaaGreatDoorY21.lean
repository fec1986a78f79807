/- Merged texts of this proof (walks and plain laws), printed by a program of the prover. -/
import Derived.Test.YtaeagngfhceceaaGreatDoorY3
import Derived.Test.YtaeagngfhceceaaGreatDoorY6
import Derived.Test.YtaeagngfhceceaaGreatDoorY14
import Derived.Test.YtaeagngfhceceaaGreatDoorZb
import Derived.Test.YtaeagngfhceceaaGreatDoorProg
import Derived.KernelRfl
import Derived.Test.YtaeagngfhceceaaGreatDoorZc
import Derived.Test.YtaeagngfhceceaaGreatDoorZg
import Derived.Test.YtaeagngfhceceaaGreatDoorZs
namespace Go.Proofs.YtaeagngfhceceaaGreatDoor
set_option linter.unusedVariables false
set_option linter.unusedSimpArgs false
open Go.RowKit
theorem ansS_some {r : Room} {o : Option P3} (h : o.isSome = true) : ansS r o = (0, o.getD no3) := by cases o; cases h; rfl
theorem ansS_none {r : Room} {o : Option P3} (h : o.isSome = false) : ansS r o = (27, no3) := by cases o; rfl; cases h
end Go.Proofs.YtaeagngfhceceaaGreatDoor
namespace Go.Proofs.YtaeagngfhceceaaGreatDoor
set_option linter.unusedVariables false
set_option linter.unusedSimpArgs false
open Go.RowKit
def TwinsV (G : GP) : Int × List Int := if checkG G = 0 then (0, filI G.lks.length fun lk => decide (1 < readN G lk (allN G lk))) else (checkG G, [])
end Go.Proofs.YtaeagngfhceceaaGreatDoor
namespace Go.Proofs.YtaeagngfhceceaaGreatDoor
open Go.Proofs
theorem ent18 : Ent Tryz.prog 18 := ent_of Tryz.func18 (by kernel_rfl) rfl
theorem ent54 : Ent Tryz.prog 54 := ent_of Tryz.func54 (by kernel_rfl) rfl
theorem ent110 : Ent Tryz.prog 110 := ent_of Tryz.func110 (by kernel_rfl) rfl
end Go.Proofs.YtaeagngfhceceaaGreatDoor
set_option maxHeartbeats 8000000
namespace Go.Proofs.YtaeagngfhceceaaGreatDoor
open Go.RowKit Go.Proofs
set_option maxRecDepth 100000
set_option linter.unusedVariables false
set_option linter.unusedSimpArgs false
theorem RSettle_c (r : Room) (w : World) (hr : RoomOk w r) (hn : Near r) (z : Stt) (hz : SttOk w z) :
  Calls Tryz.prog 110 #[.agg #[r.pls.v, r.ths.v, r.prs.v, r.wys.v, r.acs.v, r.aus.v, .int .i64 r.ply, r.gl.v], .agg #[z.ths.v, z.prs.v, z.pls.v]] w (RetS w (SettleV r z.x).2 fun v => .tuple #[v, .int .i64 (SettleV r z.x).1]) := by
 refine enter Tryz.func110 rfl rfl (Nat.le_of_ble_eq_true rfl) ?_
 refine Nz 0 ?_
 refine Wb 0 rfl rfl (fun _ => rfl) (fun _ => rfl) fun b2 hb2 => ?_
 refine Wb 0 rfl rfl (fun _ => rfl) (fun _ => rfl) fun b3 hb3 => ?_
 refine Wl 1 zv65 (fun _ => rfl) (fun _ => rfl) fun b4 hb4 => ?_
 refine Wd (Qc (Nz 0 ?_))
 refine Wk 0 (Bb 2) ?_
 refine Wk 0 (Bb 1) ?_
 refine Wk 1 (Cb rfl rfl ent109 (fun u hu => RCheckState_c r u (hr.st hu) hn z (hz.st hu))) ?_
 refine Wd (Qc (Cs (Nz 2 ?_)))
 refine Wd (Qc (CS.cond rfl ?_ ?_))<;>intro hc1<;>try simp only [bq] at hc1
 ·
  have hS : ¬ stL r z.x = 0 := hc1
  refine Nz 0 ?_
  refine Wk 1 (Db plc65 zv65) ?_
  refine Wv 1 0 ?_
  refine Wd (Qc (Cr (Qr ?_)))
  exact outR (resct rfl (cell_rvN (j := 0) rfl rfl tk65) rfl) (by
    have hv : SettleV r z.x = (stL r z.x, no3) := if_neg hS
    rw [hv]
    exact fun u hu => retNo (f := fun v => .tuple #[v, .int .i64 (stL r z.x)]) hu)
 ·
  have hc1 : stateE r z = 0 := hc1
  have hc1 : stL r z.x = 0 := hc1
  have hS : stL r z.x = 0 := by omega
  obtain ⟨hC, hI⟩ := stL_in.1 hS
  have hR := ready_of hC
  have hlen := hR.lens
  have hply := hR.ply
  have hlt : z.ths.l.length = r.ths.l.length := hI.lt
  have hlp : z.prs.l.length = r.prs.l.length := hI.lp
  have hll : (z.pls.l.length : Int) = r.ply := hI.ll
  refine Ck (Qc (Nz 0 ?_))
  refine Wk 0 (Bb 2) ?_
  refine Wk 0 (Bb 1) ?_
  refine Wc rfl rfl ent175 (fun u hu => Rsettle_c r u (hr.st hu) z (hz.st hu) (hI.small hR) (hI.autos hR)) (fun _ => rfl) ?_; rintro y ⟨hyx, uy, hyok⟩
  obtain ⟨hya, hyb, hyc⟩ := hyok.ones
  refine Wz 3 ?_
  refine Wl 0 zv65 (fun _ => rfl) (fun _ => rfl) fun b7 hb7 => ?_
  refine Wv 1 0 ?_
  refine Wd (Qc (Cs (Nz 2 ?_)))
  refine Wd (Qc (CS.cond rfl ?_ ?_))<;>intro hc2<;>try simp only [bq] at hc2
  ·
   refine Nz 0 ?_
   refine Wk 0 (Db plc65 zv65) ?_
   refine Wv 1 2 ?_
   refine Wd (Qc (Cr (Qr ?_)))
   exact outR (resct rfl (cell_rvN (j := 2) rfl rfl tk65) rfl) (by
     have hv : SettleV r z.x = (27, no3) := (if_pos hS).trans (ansS_none hc2)
     rw [hv]
     exact fun u hu => retNo (f := fun v => .tuple #[v, .int .i64 (27)]) hu)
  ·
   refine Ck (Qc (Nz 0 ?_))
   refine Wk 0 (Bb 0) ?_
   refine Wv 1 2 ?_
   refine Wd (Qc (Cr ?_))
   exact outR (resct rfl (cell_rvN (j := 2) rfl rfl tk65) rfl) (by
     have hv : SettleV r z.x = _ := (if_pos hS).trans (ansS_some hc2)
     rw [hv]
     exact fun u hu => retSr (f := fun v => .tuple #[v, .int .i64 0]) (j := 1) rfl hyx hu)
end Go.Proofs.YtaeagngfhceceaaGreatDoor
set_option maxHeartbeats 8000000
namespace Go.Proofs.YtaeagngfhceceaaGreatDoor
open Go.RowKit Go.Proofs
set_option maxRecDepth 100000
set_option linter.unusedVariables false
set_option linter.unusedSimpArgs false
theorem RBegin_c (r : Room) (w : World) (hr : RoomOk w r) (hn : Near r) :
  Calls Tryz.prog 54 #[.agg #[r.pls.v, r.ths.v, r.prs.v, r.wys.v, r.acs.v, r.aus.v, .int .i64 r.ply, r.gl.v]] w (RetS w (BeginV r).2 fun v => .tuple #[v, .int .i64 (BeginV r).1]) := by
 have kpl := hr.pls
 have lpl := hr.pls.le
 have kth := hr.ths
 have lth := hr.ths.le
 have kpr := hr.prs
 have lpr := hr.prs.le
 have kwy := hr.wys
 have lwy := hr.wys.le
 have kac := hr.acs
 have lac := hr.acs.le
 have kau := hr.aus
 have lau := hr.aus.le
 have kgl := hr.gl
 have lgl := hr.gl.le
 refine enter Tryz.func54 rfl rfl (Nat.le_of_ble_eq_true rfl) ?_
 refine Nz 0 ?_
 refine Wb 0 rfl rfl (fun _ => rfl) (fun _ => rfl) fun b1 hb1 => ?_
 refine Wl 1 zv65 (fun _ => rfl) (fun _ => rfl) fun b2 hb2 => ?_
 refine Wd (Qc (Nz 0 ?_))
 refine Wk 0 (Bb 1) ?_
 refine Wk 1 (Cb rfl rfl ent56 (fun u hu => RCheck_c r u (hr.st hu) hn)) ?_
 refine Wd (Qc (Cs (Nz 2 ?_)))
 refine Wd (Qc (CS.cond rfl ?_ ?_))<;>intro hc1<;>try simp only [bq] at hc1
 ·
  refine Nz 0 ?_
  refine Wk 1 (Db plc65 zv65) ?_
  refine Wv 1 0 ?_
  refine Wd (Qc (Cr (Qr ?_)))
  exact outR (resct rfl (cell_rvN (j := 0) rfl rfl tk65) rfl) (by
    have hv : BeginV r = (checkE r, no3) := if_neg hc1
    rw [hv]
    exact fun u hu => retNo (f := fun v => .tuple #[v, .int .i64 (checkE r)]) hu)
 ·
  have hc1 : checkE r = 0 := hc1
  have hR := ready_of hc1
  have hlen := hR.lens
  have hply := hR.ply
  refine Ck (Qc (Nz 1 ?_))
  refine Wk 0 (Ba 1) ?_
  refine WS.makeInts sl42 rfl rfl zv3 (by omega) (by omega) (by omega) (fun _ => rfl) ?_; intro v16; refine WS.oc (j := 0) rfl (fun hv16 => ?_)
  refine Wk 0 (Db plc65 zv65) ?_
  refine Wl 0 zv65 (fun _ => rfl) (fun _ => rfl) fun b5 hb5 => ?_
  refine Wv 0 0 ?_
  refine Wd (Qc (Cs (Nz 1 ?_)))
  refine Wd (Qc (Ce ?_))
  refine CS.weak (fun _ hu => hu.osl0 (e := 3) (size := 1)) ?_
  refine CS.loopM (σ := Int × Value) [18, 19, 20, 21, 22, 23, 24, 25, 26, 27, 28, 29, 30, 31, 32, 33, 34, 35] (fun s => [(6, .int .i64 s.1)]) (fun s => [oints 3 s.2 ((r.ths.l.take s.1.toNat).map Thing.sr), blk b5 [s.2, .slice none 0 0, v16] 65, oints 3 v16 (List.replicate r.ply.toNat 0), blk b2 [.slice none 0 0, .slice none 0 0, .slice none 0 0] 65, blk b1 [r.pls.v, r.ths.v, r.prs.v, r.wys.v, r.acs.v, r.aus.v, .int .i64 r.ply, r.gl.v] 31]) (fun s => 0 ≤ s.1 ∧ s.1 ≤ r.ths.l.length) (fun s => (r.ths.l.length - s.1).toNat) (0, .slice none 0 0) (fun _ _ => rfl) rfl rfl ⟨by simp, by simp⟩ ?_
  intro a t hs
  obtain ⟨ha1, ha2⟩ := hs
  have htl := List.length_take_le a.1.toNat r.ths.l
  refine Cs (Nz 2 ?_)
  refine Wk 0 (Ba 4) ?_
  refine Wk 1 Nc ?_
  refine Wd (Qc (CS.cond rfl ?_ ?_))<;>intro hc2<;>try simp only [bq] at hc2
  ·
   refine Ck (Qc (Cs (Ce ?_)))
   refine CS.drawnTill 9 (k := 12) mixed rfl rfl ?_
   refine Tr 12 [0] ?_
   refine Tk 12 1 [2] rfl (Ba 1) ?_
   refine Tk 12 3 [4] rfl (Ba 4) ?_
   refine Tk 12 5 [6] rfl Xc ?_
   refine Tk 12 7 [] rfl (Uc 4 3) ?_
   refine To 8 rfl ?_
   refine WS.buildI1 sl42 zv3 rfl (fun _ => rfl) ?_; intro v33
   refine Wd (Qt ?_)
   refine To 9 rfl ?_
   refine WS.appendI (j := 1) sl42 zv3 rfl rfl rfl (fun u hu => oints_SlI hu (j := 0) rfl) (by first | omega | (simp; omega) | (simp only [List.length_append, List.length_singleton, List.length_map, List.length_cons, List.length_nil] at *; omega)) (by first | omega | (simp; omega) | (simp only [List.length_append, List.length_singleton, List.length_map, List.length_cons, List.length_nil] at *; omega)) (fun _ => rfl) (fun _ => rfl) ?_; intro v34; refine WS.oc (j := 1) rfl (fun hv34 => ?_)
   refine Wd (Qt ?_)
   refine To 10 rfl ?_
   refine Wz 1 ?_
   refine Wd (Qt ?_)
   refine To 11 rfl ?_
   refine Ws 0 2 ?_
   refine Wd (Qt ?_)
   refine Te ?_
   refine Qb (Qc (Ny 1 ?_))
   refine Wk 1 Za ?_
   refine Wd ?_
   refine QS.sel [1, 1, 1, 1, 1] rfl ?_
   exact QS.head ((a.1 + 1, v34)) rfl (by simp only [← map_snoc Thing.sr ha1 (by omega : a.1 < r.ths.l.length)]) ⟨⟨by simp; omega, by simp; omega⟩, by simp; omega⟩
  ·
   have hta : r.ths.l.take a.1.toNat = r.ths.l := List.take_of_length_le (by omega)
   rw [hta]
   refine Cv (Qe (Qe (Qx (Qc (Cs (Nz 1 ?_))))))
   refine Wd (Qc (Ce ?_))
   refine CS.weak (fun _ hu => hu.osl0 (e := 3) (size := 1)) ?_
   refine CS.loopM (σ := Int × Value) [36, 37, 38, 39, 40, 41, 42, 43, 44, 45, 46, 47, 48, 49, 50, 51, 52, 53] (fun s => [(7, .int .i64 s.1)]) (fun s => [oints 3 s.2 ((r.prs.l.take s.1.toNat).map Pro.pl), oints 3 a.2 (r.ths.l.map Thing.sr), blk b5 [a.2, s.2, v16] 65, oints 3 v16 (List.replicate r.ply.toNat 0), blk b2 [.slice none 0 0, .slice none 0 0, .slice none 0 0] 65, blk b1 [r.pls.v, r.ths.v, r.prs.v, r.wys.v, r.acs.v, r.aus.v, .int .i64 r.ply, r.gl.v] 31]) (fun s => 0 ≤ s.1 ∧ s.1 ≤ r.prs.l.length) (fun s => (r.prs.l.length - s.1).toNat) (0, .slice none 0 0) (fun _ _ => rfl) rfl rfl ⟨by simp, by simp⟩ ?_
   intro d t hs
   obtain ⟨hd1, hd2⟩ := hs
   have htl := List.length_take_le d.1.toNat r.prs.l
   refine Cs (Nz 2 ?_)
   refine Wk 0 (Ba 5) ?_
   refine Wk 1 Nc ?_
   refine Wd (Qc (CS.cond rfl ?_ ?_))<;>intro hc3<;>try simp only [bq] at hc3
   ·
    refine Ck (Qc (Cs (Ce ?_)))
    refine CS.drawnTill 9 (k := 12) mixed rfl rfl ?_
    refine Tr 12 [0] ?_
    refine Tk 12 1 [2] rfl (Ba 2) ?_
    refine Tk 12 3 [4] rfl (Ba 5) ?_
    refine Tk 12 5 [6] rfl Xc ?_
    refine Tk 12 7 [] rfl (Uc 3 1) ?_
    refine To 8 rfl ?_
    refine WS.buildI1 sl42 zv3 rfl (fun _ => rfl) ?_; intro v51
    refine Wd (Qt ?_)
    refine To 9 rfl ?_
    refine WS.appendI (j := 1) sl42 zv3 rfl rfl rfl (fun u hu => oints_SlI hu (j := 0) rfl) (by first | omega | (simp; omega) | (simp only [List.length_append, List.length_singleton, List.length_map, List.length_cons, List.length_nil] at *; omega)) (by first | omega | (simp; omega) | (simp only [List.length_append, List.length_singleton, List.length_map, List.length_cons, List.length_nil] at *; omega)) (fun _ => rfl) (fun _ => rfl) ?_; intro v52; refine WS.oc (j := 1) rfl (fun hv52 => ?_)
    refine Wd (Qt ?_)
    refine To 10 rfl ?_
    refine Wz 1 ?_
    refine Wd (Qt ?_)
    refine To 11 rfl ?_
    refine Ws 0 3 ?_
    refine Wd (Qt ?_)
    refine Te ?_
    refine Qb (Qc (Ny 1 ?_))
    refine Wk 1 Za ?_
    refine Wd ?_
    refine QS.sel [1, 1, 1, 1, 1, 1] rfl ?_
    exact QS.head ((d.1 + 1, v52)) rfl (by simp only [← map_snoc Pro.pl hd1 (by omega : d.1 < r.prs.l.length)]) ⟨⟨by simp; omega, by simp; omega⟩, by simp; omega⟩
   ·
    have hta : r.prs.l.take d.1.toNat = r.prs.l := List.take_of_length_le (by omega)
    rw [hta]
    refine Cv (Qe (Qe (Qx (Qc (Nz 0 ?_)))))
    refine Wk 0 (Bb 5) ?_
    refine Wk 0 (Bb 2) ?_
    refine Wc rfl rfl ent110 (fun u hu => RSettle_c r u (hr.st hu) hn ⟨⟨a.2, _⟩, ⟨d.2, _⟩, ⟨v16, _⟩⟩ ⟨(oints_SlI hu (j := 1) rfl).tree, (oints_SlI hu (j := 0) rfl).tree, (oints_SlI hu (j := 3) rfl).tree⟩) (fun _ => rfl) ?_; rintro y ⟨hyx, uy, hyok⟩
    obtain ⟨hya, hyb, hyc⟩ := hyok.ones
    refine Wz 2 ?_
    refine Wv 1 5 ?_
    refine Wd (Qc (Cr ?_))
    exact outR (resct rfl (cell_rvN (j := 5) rfl rfl tk65) rfl) (by
      have hv : BeginV r = SettleV r (beginX r) := if_pos hc1
      rw [hv]
      exact fun u hu => retSr (f := fun v => .tuple #[v, .int .i64 (SettleV r (beginX r)).1]) (j := 0) rfl hyx hu)
end Go.Proofs.YtaeagngfhceceaaGreatDoor
set_option maxHeartbeats 8000000
namespace Go.Proofs.YtaeagngfhceceaaGreatDoor
open Go.RowKit Go.Proofs
set_option maxRecDepth 100000
set_option linter.unusedVariables false
set_option linter.unusedSimpArgs false
theorem TwinsI_c (G : Game) (w : World) (hG : GameOk w G) (g : Sl ByteArray) (hW : GOk w g) (hn : NearG G) :
  Calls Tryz.prog 18 #[.agg #[G.rm.pls.v, G.rm.ths.v, G.rm.prs.v, G.rm.wys.v, G.rm.acs.v, G.rm.aus.v, .int .i64 G.rm.ply, G.rm.gl.v, G.lks.v, G.cds.v, G.nts.v, .int .i64 G.tr]] w (fun e w' => ∃ x : Value, (∃ u0, SlI u0 x (TwinsV G.p).2) ∧ RetF w (.tuple #[x, .int .i64 (TwinsV G.p).1]) (roI x (TwinsV G.p).2) e w') := by
 have klk := hG.lks
 have llk := hG.lks.le
 refine enter Tryz.func18 rfl rfl (Nat.le_of_ble_eq_true rfl) ?_
 refine Nz 0 ?_
 refine Wb 2 rfl rfl (fun _ => rfl) (fun _ => rfl) fun b1 hb1 => ?_
 refine Wd (Qc (Cs (Nz 0 ?_)))
 refine Wk 0 (Bb 0) ?_
 refine Wk 1 (Cb rfl rfl ent46 (fun u hu => GICheck_c G u (hG.st hu) g (hW.st hu) hn)) ?_
 refine Wd (Qc (Nz 2 ?_))
 refine Wd (Qc (CS.cond rfl ?_ ?_))<;>intro hc1<;>try simp only [bq] at hc1
 ·
  refine Nz 3 ?_
  refine Wd (Qc (Cr (Qr ?_)))
  exact out2 rfl rfl rfl (by
    have hv : TwinsV G.p = (checkG G.p, []) := if_neg hc1
    rw [hv]
    exact retIn (f := fun v => .tuple #[v, .int .i64 (checkG G.p)]) rfl rfl)
 ·
  have hV := good_of hc1
  have hnl := hV.nl
  have hnn := hV.nn
  refine Ck (Qc (Cs (Nz 1 ?_)))
  refine Wk 0 (Ba 0) ?_
  refine Wk 1 Nc ?_
  refine Wd (Qc (Ce ?_))
  refine CS.weak (fun _ hu => hu.osl0 (e := 3) (size := 1)) ?_
  refine CS.loopM (σ := Int × Value) [3, 5, 6, 7, 8, 9, 10, 20, 21, 22, 23, 24, 25, 26, 27, 28, 29, 30, 31, 32, 33, 34, 35, 36, 37, 38, 39, 40, 41, 42, 43, 44, 45] (fun s => [(19, .int .i64 s.1), (2, s.2)]) (fun s => [oints 3 s.2 (filI s.1 (fun lk => decide (1 < readN G.p lk (allN G.p lk)))), blk b1 [G.rm.pls.v, G.rm.ths.v, G.rm.prs.v, G.rm.wys.v, G.rm.acs.v, G.rm.aus.v, .int .i64 G.rm.ply, G.rm.gl.v, G.lks.v, G.cds.v, G.nts.v, .int .i64 G.tr] 36]) (fun s => 0 ≤ s.1 ∧ s.1 ≤ G.lks.l.length) (fun s => (G.lks.l.length - s.1).toNat) (0, .slice none 0 0) (fun _ _ => rfl) rfl rfl ⟨by simp, by first | (simp; done) | (simp; omega)⟩ ?_
  intro a t hs
  obtain ⟨ha1, ha2⟩ := hs
  have hfl := fun p => filI_len (n := a.1) (p := p) ha1
  refine Nz 1 ?_
  refine Wd (Qc (Cs (CS.cond rfl ?_ ?_)))<;>intro hc2<;>try simp only [bq] at hc2
  ·
   have hfa := hfl (fun lk => decide (1 < readN G.p lk (allN G.p lk)))
   have hE := cluesE_ok hV ha1 (show a.1 < G.lks.l.length by omega) (about_of (p := fun _ => true)) (Nat.le_trans (about_len hV _ _) (by decide))
   have hrn : (if cluesE (nth G.lks.l a.1).w (nth G.lks.l a.1).s (clsG G (aboutN G.p a.1 fun _ => true)) = 0 then ((readL (nth G.lks.l a.1).w (nth G.lks.l a.1).s (clsG G (aboutN G.p a.1 fun _ => true))).length : Int) else 0) = readN G.p a.1 (allN G.p a.1) := by rw [hE, if_pos rfl, ← about_all, readN_p]
   refine Ck (Qc (Cs (Ce (Nz 1 ?_))))
   refine Wk 0 Xc ?_
   refine Wk 0 Ua ?_
   refine Wl 1 zv54 (fun _ => rfl) (fun _ => rfl) fun b6 hb6 => ?_
   refine Wv 0 0 ?_
   refine Wd (Qc (Nz 0 ?_))
   refine Wk 1 (Bb 2) ?_
   refine Wc rfl rfl ent64 (fun u hu => about_c G u (hG.st hu) (by omega) a.1 _ [] (fun _ ↦ true) ent65 (fun u2 _ i _ _ ↦ every_c i u2)) (fun _ => rfl) ?_; rintro ⟨v27, v28⟩ ⟨hv27, hv28⟩
   refine WS.unpack ?_
   refine Wz 5 ?_
   refine Wd (Qc (Nz 0 ?_))
   refine Wk 1 (Bb 2) ?_
   refine Wk 5 (Cb rfl rfl ent21 (fun u hu => Count_k _ _ _ _ _ u (clS_of (hG.st hu) about_of (osl_SlC hu (j := 1) rfl)))) ?_
   refine Wd (Qc (Cs (Nz 2 ?_)))
   refine Wd (Qc (CS.cond rfl ?_ ?_))<;>intro hc3<;>try simp only [bq] at hc3
   ·
    exact absurd hE hc3
   ·
    refine Ck (Qc (Nz 2 ?_))
    refine Wd (Qc (CS.cond rfl ?_ ?_))<;>intro hc4<;>try simp only [bq] at hc4
    ·
     have hpd : decide (1 < readN G.p a.1 (allN G.p a.1)) = true := decide_eq_true (by rw [← hrn]; exact hc4)
     refine Ny 2 ?_
     refine WS.buildI1 sl42 zv3 rfl (fun _ => rfl) ?_; intro v43
     refine WS.appendI (j := 4) sl42 zv3 rfl rfl rfl (fun u hu => oints_SlI hu (j := 0) rfl) (by first | omega | (simp; omega) | (simp only [List.length_append, List.length_singleton, List.length_map, List.length_cons, List.length_nil] at *; omega)) (by first | omega | (simp; omega) | (simp only [List.length_append, List.length_singleton, List.length_map, List.length_cons, List.length_nil] at *; omega)) (fun _ => rfl) (fun _ => rfl) ?_; intro v44; refine WS.oc (j := 4) rfl (fun hv44 => ?_)
     refine Wz 1 ?_
     refine Wd (Qb (Qc (Ny 0 ?_)))
     refine Wk 1 Za ?_
     refine Wd ?_
     refine QS.sel [4, 4] rfl ?_
     exact QS.head ((a.1 + 1, v44)) rfl (by first | simp only [filI_yes (p := (fun lk => decide (1 < readN G.p lk (allN G.p lk)))) ha1 (by exact hpd)] | simp only [← filI_no (p := (fun lk => decide (1 < readN G.p lk (allN G.p lk)))) ha1 (by exact hpd)]) ⟨⟨by simp; omega, by simp; omega⟩, by simp; omega⟩
    ·
     have hpd : decide (1 < readN G.p a.1 (allN G.p a.1)) = false := decide_eq_false (by rw [← hrn]; exact hc4)
     refine Ck (Qb (Qc (Ny 0 ?_)))
     refine Wk 1 Za ?_
     refine Wd ?_
     refine QS.sel [3, 3] rfl ?_
     exact QS.head ((a.1 + 1, a.2)) rfl (by first | simp only [filI_yes (p := (fun lk => decide (1 < readN G.p lk (allN G.p lk)))) ha1 (by exact hpd)] | simp only [← filI_no (p := (fun lk => decide (1 < readN G.p lk (allN G.p lk)))) ha1 (by exact hpd)]) ⟨⟨by simp; omega, by simp; omega⟩, by simp; omega⟩
  ·
   have hae : a.1 = G.lks.l.length := by omega
   refine Cv (Qe (Qe (Qx (Qc (Nz 3 ?_)))))
   refine Wd (Qc (Cr ?_))
   exact out2 rfl rfl rfl (by
     have hv : TwinsV G.p = (0, filI a.1 (fun lk => decide (1 < readN G.p lk (allN G.p lk)))) := by rw [hae]; exact if_pos hc1
     rw [hv]
     exact retIe (f := fun v => .tuple #[v, .int .i64 0]) (j := 0) rfl rfl rfl)
end Go.Proofs.YtaeagngfhceceaaGreatDoor
