/- Contracts of functions, printed by a program of the prover (gen.py). -/
import Derived.Test.YtaeagngfhceceaaGreatDoorZz
import Derived.Test.YtaeagngfhceceaaGreatDoorZe
set_option maxHeartbeats 8000000
namespace Go.Proofs.YtaeagngfhceceaaGreatDoor
open Go.RowKit Go.Proofs
set_option maxRecDepth 100000
set_option linter.unusedVariables false
set_option linter.unusedSimpArgs false
theorem TopClues_c (G : Game) (w : World) (hG : GameOk w G) (g : Sl ByteArray) (hW : GOk w g) (lk : Int) :
  Calls Tryz.prog 3 #[.agg #[G.rm.pls.v, G.rm.ths.v, G.rm.prs.v, G.rm.wys.v, G.rm.acs.v, G.rm.aus.v, .int .i64 G.rm.ply, G.rm.gl.v, G.lks.v, G.cds.v, G.nts.v, .int .i64 G.tr], .int .i64 lk] w (RetB w (.bool true)) := by
 have klk := hG.lks
 have llk := hG.lks.le
 have kcd := hG.cds
 have lcd := hG.cds.le
 refine enter Tryz.func3 rfl rfl (Nat.le_of_ble_eq_true rfl) ?_
 refine Nz 0 ?_
 refine Wb 1 rfl rfl (fun _ => rfl) (fun _ => rfl) fun b2 hb2 => ?_
 refine Wd (Qc (Cs (Nz 0 ?_)))
 refine Wk 0 (by first | exact det_loadb0 (j := 0) rfl rfl tk36 | exact det_loadbN (j := 0) rfl rfl (by rfl) tk36 | exact det_loadwN rfl (by assumption) (by rfl) tk36 | exact det_loadbK (n := 12) (j := 0) rfl rfl rfl rfl tk36) ?_
 refine Wk 1 (Cb rfl rfl ent14 (fun u hu => FarG_c G u (hG.st hu))) ?_
 refine Wf 0 rfl rfl (fun hg => by first | exact det_loadb0 (j := 0) rfl rfl tk36 | exact det_loadbN (j := 0) rfl rfl (by rfl) tk36 | exact det_loadwN rfl (by assumption) (by rfl) tk36 | exact det_loadbK (n := 12) (j := 0) rfl rfl rfl rfl tk36) ?_
 refine Wf 0 rfl rfl (fun hg => Cb rfl (ec_ (eg_ hg rfl) en_) ent15 (fun u hu => GRCheck_c G u (hG.st hu) (clB_iff.1 (by cases hq : clB (NearG G) <;> simp_all)))) ?_
 refine Wf 0 rfl rfl (fun hg => Fr) ?_
 refine Wk 1 Po ?_
 refine Wf 0 rfl rfl (fun hg => Fm) ?_
 refine Wf 0 rfl rfl (fun hg => Fl) ?_
 refine Wk 1 Po ?_
 refine Wf 0 rfl rfl (fun hg => Fm) ?_
 refine Wf 0 rfl rfl (fun hg => Ff) ?_
 refine Wf 0 rfl rfl (fun hg => by first | exact det_loadb (j := 0) (eg_ hg rfl) rfl rfl tk32 | exact det_loadw (eg_ hg rfl) (by assumption) rfl tk32) ?_
 refine Wf 0 rfl rfl (fun hg => Nc (eg_ hg rfl)) ?_
 refine Wf 0 rfl rfl (fun hg => Fh) ?_
 refine Wk 0 Po ?_
 refine Wd (Qc (CS.cond rfl ?_ ?_))<;>intro hc1<;>try simp only [bq] at hc1
 ·
  refine Nz 0 ?_
  refine Wk 1 (Cb rfl rfl ent16 (fun u hu => counts_c u)) ?_
  exact Wd (Qc (Cr (Qr (out1 rfl rfl retB))))
 ·
  have hn : NearG G := clB_iff.1 hc1.1.1.1
  have hck : checkG G.p = 0 := hc1.1.1.2
  have hl0 : 0 ≤ lk := by omega
  have hl1 : lk < G.lks.l.length := by omega
  have hcll := (good_of hck).cl
  have hcdw : SlT cInt w (nth G.cds.l lk) := kcd.at hl0 (by omega)
  have hcdl := hn.cd _ (nth_mem (i := lk) (xs := G.cds.l) hl0 (by omega))
  refine Ck (Qc (Nz 0 ?_))
  refine Wk 0 (by first | exact det_loadb0 (j := 0) rfl rfl tk36 | exact det_loadbN (j := 0) rfl rfl (by rfl) tk36 | exact det_loadwN rfl (by assumption) (by rfl) tk36 | exact det_loadbK (n := 12) (j := 0) rfl rfl rfl rfl tk36) ?_
  refine Wc rfl rfl ent17 (fun u hu => CopyG_c G u (hG.st hu) hn) (fun _ => rfl) ?_; rintro c ⟨hcp, uc, hcok⟩
  have hnc := near_p hcp hn
  have o1 := Sl.one hcok.rm.pls
  have o2 := Sl.one hcok.rm.ths
  have o3 := Sl.one hcok.rm.prs
  have o4 := Sl.one hcok.rm.wys
  have o5 := Sl.one hcok.rm.acs
  have o6 := Sl.one hcok.rm.aus
  have o7 := Sl.one hcok.rm.gl
  have o8 := Sl.one hcok.lks
  have o9 := Sl.one hcok.cds
  have o10 := Sl.one hcok.nts
  have hckc : checkG c.p = 0 := by rw [hcp]; exact hck
  have hVc := good_of hckc
  have hcl : c.lks.l = G.lks.l := congrArg GP.lks hcp
  have hl1c : lk < c.lks.l.length := by rw [hcl]; exact hl1
  have hcdc : (nth c.cds.l lk).l = (nth G.cds.l lk).l := map_at (alikeG hcp).2.2.1 lk
  have hnn := hVc.nn
  have hnl := hVc.nl
  have hnv : NeedV c.p lk = (0, (needX c.p lk (allN c.p lk).length)) := (if_pos hckc).trans (if_pos (by simp only [Bool.and_eq_true, decide_eq_true_eq]; exact ⟨hl0, by show lk ≤ (c.lks.l.length : Int) - 1; omega⟩))
  have htv : TwinsV c.p = (0, (filI c.lks.l.length fun lk => decide (1 < readN c.p lk (allN c.p lk)))) := if_pos hckc
  have hnxl : (needX c.p lk (allN c.p lk).length).length ≤ 16 := needX_len hVc _
  have htwl : ((filI c.lks.l.length fun lk => decide (1 < readN c.p lk (allN c.p lk))).length : Int) ≤ c.lks.l.length := filI_len (by omega)
  have hcnt := hcok.nts
  have hclk := hcok.lks
  have hce := cluesE_ok hVc hl0 hl1c (all_of (lk := lk)) (Nat.le_trans (all_len hVc lk) (by decide))
  have hLk := hVc.lk lk hl0 hl1c
  have hcd := hVc.cd lk hl0 hl1c
  have hxx := codeE_code hcd
  have hfb := code_in hVc hl0 hl1c (all_of (lk := lk))
  rw [hcdc] at hcd hxx hfb
  obtain ⟨hin, hft⟩ := fit_mem hLk hxx hfb
  have hfe : fitsE (nth c.lks.l lk).w (nth c.lks.l lk).s (clsG c (allN c.p lk)) (nth G.cds.l lk).l = 0 := (if_pos hce).trans hcd
  have hn1 := List.length_pos_of_mem hin
  have hal := all_len hVc lk
  have hcsl : (clsG c (allN c.p lk)).length = (allN c.p lk).length := by simp [clsG]
  have hgsl : (gvsG c (allN c.p lk)).length = (clsG c (allN c.p lk)).length := by simp [clsG, gvsG]
  have hrb := readL_le hLk (clsG c (allN c.p lk))
  refine Wl 0 zv36 (fun _ => rfl) (fun _ => rfl) fun b5 hb5 => ?_
  refine Wv 0 0 ?_
  refine Wd (Qc (Nz 0 ?_))
  refine Wk 0 (by first | exact det_loadb0 (j := 0) rfl rfl tk36 | exact det_loadbN (j := 0) rfl rfl (by rfl) tk36 | exact det_loadwN rfl (by assumption) (by rfl) tk36 | exact det_loadbK (n := 12) (j := 0) rfl rfl rfl rfl tk36) ?_
  refine Wc rfl rfl ent18 (fun u hu => (by have q := TwinsI_c c u (hu.ro (j := 1) rfl) g (hW.st hu) hnc; rw [htv] at q; exact q)) (fun _ => rfl) ?_; rintro tw ⟨utw, htw⟩
  refine Wz 5 ?_
  refine Wd (Qc (Nz 0 ?_))
  refine Wk 1 (by first | exact det_loadb0 (j := 1) rfl rfl tk36 | exact det_loadbN (j := 1) rfl rfl (by rfl) tk36 | exact det_loadwN rfl (by assumption) (by rfl) tk36 | exact det_loadbK (n := 12) (j := 1) rfl rfl rfl rfl tk36) ?_
  refine Wc rfl rfl ent19 (fun u hu => (by have q := NeededI_c c u (hu.ro (j := 2) rfl) g (hW.st hu) hnc lk; rw [hnv] at q; exact q)) (fun _ => rfl) ?_; rintro l ⟨ul, hl⟩
  refine Wz 5 ?_
  refine Wd (Qc (Cs (Nz 3 ?_)))
  refine Wf 0 rfl rfl (fun hg => Fm) ?_
  refine Wf 0 rfl rfl (fun hg => Fr) ?_
  refine Wk 0 Po ?_
  refine Wd (Qc (CS.cond rfl ?_ ?_))<;>intro hc2<;>try simp only [bq] at hc2
  ·
   exact absurd hc2 (by simp)
  ·
   refine Ck (Qc (Nz 1 ?_))
   refine Wd (Qc (Cs (Nz 1 ?_)))
   refine Wd (Qc (Ce ?_))
   refine CS.weak (fun _ hu => hu.osl0 (e := 48) (size := 7)) ?_
   refine CS.sel [0, 1, 0, 0, 0, 0] rfl ?_
   refine CS.loopM (σ := Int × Value) [67, 68, 69, 70, 71, 72, 73, 74, 75, 76, 77, 78, 79, 80, 81, 82, 83, 84, 85, 86, 87, 88, 89, 90] (fun s => [(11, .int .i64 s.1), (10, s.2)]) (fun s => [osl 48 7 s.2 (clsG c (filI s.1 (fun i => decide ((nth c.nts.l i).lk = lk)))).length (clFlat (clsG c (filI s.1 (fun i => decide ((nth c.nts.l i).lk = lk)))) (gvsG c (filI s.1 (fun i => decide ((nth c.nts.l i).lk = lk))))), roI tw (filI c.lks.l.length fun lk => decide (1 < readN c.p lk (allN c.p lk))), roI l (needX c.p lk (allN c.p lk).length), blk b5 [c.rm.pls.v, c.rm.ths.v, c.rm.prs.v, c.rm.wys.v, c.rm.acs.v, c.rm.aus.v, .int .i64 c.rm.ply, c.rm.gl.v, c.lks.v, c.cds.v, c.nts.v, .int .i64 c.tr] 36, roS fun u => GameOk u c, blk b2 [G.rm.pls.v, G.rm.ths.v, G.rm.prs.v, G.rm.wys.v, G.rm.acs.v, G.rm.aus.v, .int .i64 G.rm.ply, G.rm.gl.v, G.lks.v, G.cds.v, G.nts.v, .int .i64 G.tr] 36]) (fun s => 0 ≤ s.1 ∧ s.1 ≤ c.nts.l.length) (fun s => (c.nts.l.length - s.1).toNat) (0, .slice none 0 0) (fun _ _ => rfl) rfl rfl ⟨by simp, by simp⟩ ?_
   intro o t hs
   obtain ⟨hs1, hs2⟩ := hs
   have hfl := filI_len (n := o.1) (p := (fun i => decide ((nth c.nts.l i).lk = lk))) hs1
   have hcl2 : (clsG c (filI o.1 (fun i => decide ((nth c.nts.l i).lk = lk)))).length = (filI o.1 (fun i => decide ((nth c.nts.l i).lk = lk))).length := by simp [clsG]
   refine Cs (Nz 2 ?_)
   refine Wk 0 (by first | exact det_loadb (j := 3) rfl rfl rfl tk34 | exact det_loadw rfl (by assumption) rfl tk34) ?_
   refine Wk 1 (Nc (s := c.nts)) ?_
   refine Wd (Qc (CS.cond rfl ?_ ?_))<;>intro hc3<;>try simp only [bq] at hc3
   ·
    have hs3 : o.1 < c.nts.l.length := by omega
    have hg1 : (nth c.nts.l o.1).gv.oneCell' = true := ((hcnt.at hs1 hs3 : cNote.ok uc _).2).one1
    refine Ck (Qc (Cs (Ce (Nz 1 ?_))))
    refine Wk 1 (by first | exact det_loadb (j := 3) rfl rfl rfl tk34 | exact det_loadw rfl (by assumption) rfl tk34) ?_
    refine Wk 1 (Xc (s := c.nts)) ?_
    refine Wk 2 (det_ldPc 11 2 (s := c.nts) (jj := 4) rfl (fun u (h : GameOk u c) => h.nts) rfl rfl ⟨by omega, by omega⟩ (by decide) rfl tk3) ?_
    refine Wd (Qc (CS.cond rfl ?_ ?_))<;>intro hc4<;>try simp only [bq] at hc4
    ·
     have hpy : (fun i => decide ((nth c.nts.l i).lk = lk)) o.1 = true := decide_eq_true hc4
     refine Ny 2 ?_
     refine Wk 1 (by first | exact det_loadb (j := 3) rfl rfl rfl tk34 | exact det_loadw rfl (by assumption) rfl tk34) ?_
     refine Wk 1 (Xc (s := c.nts)) ?_
     refine Wk 0 (det_ldPn (C := cNote) (k := 11) 4 (s := c.nts) [.int .i64 (nth c.nts.l o.1).cl.k, .int .i64 (nth c.nts.l o.1).cl.a, .int .i64 (nth c.nts.l o.1).cl.b, .int .i64 (nth c.nts.l o.1).cl.n, .int .i64 (nth c.nts.l o.1).cl.m, (nth c.nts.l o.1).gv, .bool (nth c.nts.l o.1).cl.nt] (jj := 4) rfl (fun u (h : GameOk u c) => h.nts) rfl rfl ⟨by omega, by omega⟩ (Nat.le_refl 11) rfl tk48) ?_
     refine WS.buildC1 sl46 zv48 (c := (nth c.nts.l o.1).cl) (gv := (nth c.nts.l o.1).gv) rfl (fun _ => rfl) ?_; intro v89
     refine WS.appendCl (j := 1) (jz := 0) sl46 zv48 rfl rfl rfl (by simp [clsG, gvsG]) rfl rfl hg1 (by omega) (by omega) (fun _ => rfl) (fun _ => rfl) ?_; intro v90 hv90
     refine Wz 1 ?_
     refine Wd (Qb (Qc (Ny 1 ?_)))
     refine Wk 1 Za ?_
     refine Wd ?_
     refine QS.sel [1, 1, 1, 1, 1, 1] rfl ?_
     exact QS.head ((o.1 + 1, v90)) rfl (by first | simp only [← filI_yes (p := (fun i => decide ((nth c.nts.l i).lk = lk))) hs1 hpy, clsG, gvsG, List.map_append, List.map_cons, List.map_nil] | simp only [← filI_no (p := (fun i => decide ((nth c.nts.l i).lk = lk))) hs1 hpn]) ⟨⟨by simp; omega, by simp; omega⟩, by simp; omega⟩
    ·
     have hpn : (fun i => decide ((nth c.nts.l i).lk = lk)) o.1 = false := decide_eq_false hc4
     refine Ck (Qb (Qc (Ny 1 ?_)))
     refine Wk 1 Za ?_
     exact Wd (QS.head ((o.1 + 1, o.2)) rfl (by first | simp only [← filI_yes (p := (fun i => decide ((nth c.nts.l i).lk = lk))) hs1 hpy, clsG, gvsG, List.map_append, List.map_cons, List.map_nil] | simp only [← filI_no (p := (fun i => decide ((nth c.nts.l i).lk = lk))) hs1 hpn]) ⟨⟨by simp; omega, by simp; omega⟩, by simp; omega⟩)
   ·
    have hse : o.1 = c.nts.l.length := by omega
    have hfi : filI o.1 (fun i => decide ((nth c.nts.l i).lk = lk)) = (allN c.p lk) := by rw [hse]; exact (allN_p c lk).symm
    refine Cv (Qe (Qe (Qx (Qc (Nz 0 ?_)))))
    refine WS.sel [0, 3, 0, 0, 0, 0] rfl ?_; refine WS.weak (L' := roS (fun u => GameOk u c ∧ ClS u o.2 (clsG c (allN c.p lk)) (gvsG c (allN c.p lk))) :: _) (fun u hu => St.ro2 (A := osl 48 7 o.2 (clsG c (allN c.p lk)).length (clFlat (clsG c (allN c.p lk)) (gvsG c (allN c.p lk)))) (p := fun u => SlC u o.2 (clsG c (allN c.p lk)).length 7 (clFlat (clsG c (allN c.p lk)) (gvsG c (allN c.p lk)))) (q := fun u => GameOk u c) (fun S u h => ownsRow_SlC h.2) (fun S u h => roS.now h) (fun u hp hq => ⟨hq, clS_of hq (all_of (lk := lk)) hp⟩) (by rw [hfi] at hu; exact hu)) ?_; refine WS.build0 sl42 zv3 (fun _ => rfl) ?_; intro v91
    refine Wz 1 ?_
    refine Wk 1 (by first | exact det_loadb (j := 5) rfl rfl rfl tk33 | exact det_loadw rfl (by assumption) rfl tk33) ?_
    refine Wk 0 Xc ?_
    refine Wk 0 (by first | exact det_ldU1 rfl (by assumption) rfl ⟨(by omega), (by omega)⟩ rfl tk42 | exact det_ldR1 (jj := 1) rfl rfl rfl rfl ⟨(by omega), (by omega)⟩ rfl tk42 | exact det_ldR1 (jj := 2) rfl rfl rfl rfl ⟨(by omega), (by omega)⟩ rfl tk42 | exact det_ldR1 (jj := 3) rfl rfl rfl rfl ⟨(by omega), (by omega)⟩ rfl tk42) ?_
    refine WS.append0 (j := 0) (news := flatC cInt (nth G.cds.l lk).l) (m := (nth G.cds.l lk).l.length) sl42 zv3 rfl (by decide) rfl rfl rfl (fun u hu => (hcdw.st hu).sp) hcdw.one (by omega) (by omega) (fun _ => rfl) (fun _ => rfl) ?_; intro v97; refine WS.oc (j := 0) rfl (fun hv97 => ?_)
    refine Wz 1 ?_
    refine Wd (Qc (Nz 1 ?_))
    refine Wk 1 (by first | exact det_loadb (j := 4) rfl rfl rfl tk32 | exact det_loadw rfl (by assumption) rfl tk32) ?_
    refine Wk 0 (Xc (s := c.lks)) ?_
    refine Wk 2 (det_ldPn (C := cLock) (k := 2) 0 (s := c.lks) [.int .i64 (nth c.lks.l lk).w, .int .i64 (nth c.lks.l lk).s] (jj := 1) rfl (fun u (h : GameOk u c ∧ ClS u o.2 (clsG c (allN c.p lk)) (gvsG c (allN c.p lk))) => h.1.lks) rfl rfl ⟨by omega, by omega⟩ (Nat.le_refl 2) rfl tk54) ?_
    refine Wk 7 (Cb rfl rfl ent20 (fun u hu => (by have q := Fits_k (nth c.lks.l lk).w (nth c.lks.l lk).s _ _ _ _ _ u (hu.ro (j := 1) rfl).2 (oT_SlT (C := cInt) (xs := (nth G.cds.l lk).l) hu (j := 0) rfl fun _ _ ↦ trivial).ints; rw [hfe, if_pos rfl, if_pos rfl] at q; exact q))) ?_
    refine Wd (Qc (Nz 1 ?_))
    refine Wk 1 (by first | exact det_loadb (j := 4) rfl rfl rfl tk32 | exact det_loadw rfl (by assumption) rfl tk32) ?_
    refine Wk 0 (Xc (s := c.lks)) ?_
    refine Wk 1 (det_ldPn (C := cLock) (k := 2) 0 (s := c.lks) [.int .i64 (nth c.lks.l lk).w, .int .i64 (nth c.lks.l lk).s] (jj := 1) rfl (fun u (h : GameOk u c ∧ ClS u o.2 (clsG c (allN c.p lk)) (gvsG c (allN c.p lk))) => h.1.lks) rfl rfl ⟨by omega, by omega⟩ (Nat.le_refl 2) rfl tk54) ?_
    refine Wk 5 (Cb rfl rfl ent21 (fun u hu => (by have q := Count_k (nth c.lks.l lk).w (nth c.lks.l lk).s _ _ _ u (hu.ro (j := 1) rfl).2; rw [hce, if_pos rfl] at q; exact q))) ?_
    refine Wd (Qc (Cs (Nz 3 ?_)))
    refine Wf 0 rfl rfl (fun hg => Fm) ?_
    refine Wf 0 rfl rfl (fun hg => Fr) ?_
    refine Wk 1 Po ?_
    refine Wf 0 rfl rfl (fun hg => Fm) ?_
    refine Wf 0 rfl rfl (fun hg => Fn) ?_
    refine Wk 1 Po ?_
    refine Wf 0 rfl rfl (fun hg => Fm) ?_
    refine Wf 0 rfl rfl (fun hg => Fl) ?_
    refine Wk 0 Po ?_
    refine Wd (Qc (CS.cond rfl ?_ ?_))<;>intro hc5<;>try simp only [bq] at hc5
    ·
     exfalso
     simp [hfe, hft] at hc5
     omega
    ·
     refine Ck (Qc (Nz 1 ?_))
     refine Wd (Qc (Cs (Nz 1 ?_)))
     refine Wd (Qc (Ce ?_))
     refine CS.exr (j := 1) rfl (fun hJ => ?_)
     obtain ⟨uJ, hJ1, hJ2⟩ := hJ
     refine CS.loopM (σ := Int × Bool) [134, 135, 136, 137, 138, 139, 140, 141, 142, 143, 144, 145, 146, 147, 148] (fun s => [(19, .int .i64 s.1), (18, .bool s.2)]) (fun _ => _) (fun s => 0 ≤ s.1 ∧ s.1 ≤ (filI c.lks.l.length fun lk => decide (1 < readN c.p lk (allN c.p lk))).length ∧ s.2 = ((filI c.lks.l.length fun lk => decide (1 < readN c.p lk (allN c.p lk))).take s.1.toNat).any fun y => decide (y = lk)) (fun s => ((filI c.lks.l.length fun lk => decide (1 < readN c.p lk (allN c.p lk))).length - s.1).toNat) (0, false) (fun _ _ => rfl) rfl rfl ⟨by simp, by simp, by simp⟩ ?_
     intro e t hs
     obtain ⟨he1, he2, he3⟩ := hs
     refine Cs (Nz 2 ?_)
     refine Wk 1 (det_lenS sl42 rfl htw) ?_
     refine Wd (Qc (CS.cond rfl ?_ ?_))<;>intro hc6<;>try simp only [bq] at hc6
     ·
      refine Ck (Qc (Cs (Ce (Ny 2 ?_))))
      refine Wf 0 rfl rfl (fun hg => Fm) ?_
      refine Wf 0 rfl rfl (fun hg => Fm) ?_
      refine Wf 0 rfl rfl (fun hg => det_idxI sl42 (eg_ hg rfl) (eg_ hg rfl) htw (by omega) (by omega)) ?_
      refine Wf 0 rfl rfl (fun hg => det_ldIR (eg_ hg rfl) (j := 2) rfl ⟨by omega, by omega⟩ tk3) ?_
      refine Wf 0 rfl rfl (fun hg => Fm) ?_
      refine Wf 0 rfl rfl (fun hg => Fq) ?_
      refine Wk 1 Po ?_
      refine Wd (Qb (Qc (Ny 1 ?_)))
      refine Wk 1 Za ?_
      exact Wd (QS.head ((e.1 + 1, e.2 || decide (nth (filI c.lks.l.length fun lk => decide (1 < readN c.p lk (allN c.p lk))) e.1 = lk))) rfl rfl ⟨⟨by simp; omega, by simp; omega, by simp only; rw [he3, any_snocI he1 (by omega)]⟩, by simp; omega⟩)
     ·
      have htt : e.2 = decide (1 < readN c.p lk (allN c.p lk)) := by rw [he3, List.take_of_length_le (by omega), any_filI ⟨hl0, hl1c⟩]
      have hrn : readN c.p lk (allN c.p lk) = (readL (nth c.lks.l lk).w (nth c.lks.l lk).s (clsG c (allN c.p lk))).length := readN_p c lk (allN c.p lk)
      have hpr := prE_of hce
      refine Cv (Qe (Qe (Qx (Qc (Nz 1 ?_)))))
      refine Wk 1 (by first | exact det_loadb (j := 4) rfl rfl rfl tk32 | exact det_loadw rfl (by assumption) rfl tk32) ?_
      refine Wk 0 (Xc (s := c.lks)) ?_
      refine Wk 1 (det_ldPn (C := cLock) (k := 2) 0 (s := c.lks) [.int .i64 (nth c.lks.l lk).w, .int .i64 (nth c.lks.l lk).s] (jj := 1) rfl (fun u (h : GameOk u c ∧ ClS u o.2 (clsG c (allN c.p lk)) (gvsG c (allN c.p lk))) => h.1.lks) rfl rfl ⟨by omega, by omega⟩ (Nat.le_refl 2) rfl tk54) ?_
      refine Wc rfl rfl ent22 (fun u hu => Pair_k (nth c.lks.l lk).w (nth c.lks.l lk).s _ _ _ u (hu.ro (j := 1) rfl).2) (fun _ => rfl) ?_; rintro ⟨vp, vq⟩ ⟨up, hvp⟩
      refine Wz 7 ?_
      refine Wd (Qc (Cs (Nz 3 ?_)))
      refine Wk 1 (det_neb rfl rfl Tryz.underlying4) ?_
      refine Wf 0 rfl rfl (fun hg => Fm) ?_
      refine Wf 0 rfl rfl (fun hg => Fm) ?_
      refine Wf 0 rfl rfl (fun hg => Fq) ?_
      refine Wf 0 rfl rfl (fun hg => det_neb (eg_ hg rfl) (eg_ hg rfl) Tryz.underlying4) ?_
      refine Wk 0 Po ?_
      refine Wd (Qc (CS.cond rfl ?_ ?_))<;>intro hc7<;>try simp only [bq] at hc7
      ·
       exfalso
       rw [htt, hrn] at hc7
       have h8 := hpr.1
       by_cases h9 : 1 < (readL (nth c.lks.l lk).w (nth c.lks.l lk).s (clsG c (allN c.p lk))).length
       ·
        have h7 := h8.2 h9
        simp [h9, h7] at hc7
        omega
       ·
        have h7 : ¬ prE (nth c.lks.l lk).w (nth c.lks.l lk).s (clsG c (allN c.p lk)) = 0 := fun q => h9 (h8.1 q)
        simp [h9, h7] at hc7
        omega
      ·
       refine Ck (Qc (Cs (Nz 1 ?_)))
       refine Wd (Qc (CS.cond rfl ?_ ?_))<;>intro hc8<;>try simp only [bq] at hc8
       ·
        have h9 : 1 < (readL (nth c.lks.l lk).w (nth c.lks.l lk).s (clsG c (allN c.p lk))).length := by
           rw [htt, hrn] at hc8
           simp at hc8
           omega
        have hp0 := hpr.1.2 h9
        have hne := pair_ne hLk h9
        refine Nz 2 ?_
        refine Wk 2 (Cb rfl rfl ent23 (fun u hu => (by have q := sameIntsT_c _ _ _ _ u (hu.ro (j := 0) rfl).1 (hu.ro (j := 0) rfl).2; rw [if_pos hp0, if_pos hp0, decide_eq_false hne] at q; exact q))) ?_
        refine Wt 0 rfl rfl (fun hg => Cb rfl rfl ent16 (fun u hu => counts_c u)) ?_
        refine Wk 1 Pa ?_
        exact Wd (Qc (Cr (Qr (out1 rfl rfl retB))))
       ·
        have hR1 : (readL (nth c.lks.l lk).w (nth c.lks.l lk).s (clsG c (allN c.p lk))).length = 1 := by
           rw [htt, hrn] at hc8
           simp at hc8
           omega
        refine Ck (Qc (Cs (Nz 1 ?_)))
        refine Wk 1 (det_lenS sl46 rfl hJ2.sp) ?_
        refine Wd (Qc (CS.cond rfl ?_ ?_))<;>intro hc9<;>try simp only [bq] at hc9
        ·
         refine Nz 0 ?_
         refine Wk 1 (Cb rfl rfl ent16 (fun u hu => counts_c u)) ?_
         exact Wd (Qc (Cr (Qr (out1 rfl rfl retB))))
        ·
         have h12 : (clsG c (allN c.p lk)).length ≤ 12 := by omega
         obtain ⟨r, hr1, hr2, hr3, hr4, hr5, hr6, hr7, hr8⟩ := top_choose hVc hl0 hl1c h12 hR1
         rw [hcdc] at hr1 hr2 hr6
         have hzl : (r.map Int.ofNat).length = r.length := by simp
         have hrin : ∀ j : Int, 0 ≤ j → j < (r.map Int.ofNat).length → 0 ≤ nth (r.map Int.ofNat) j ∧ nth (r.map Int.ofNat) j < (clsG c (allN c.p lk)).length := fun j a b => by
            obtain ⟨k, hk, he⟩ := List.mem_map.1 (nth_mem (xs := (r.map Int.ofNat)) a b)
            have := hr4 k hk
            rw [← he]
            show 0 ≤ (k : Int) ∧ (k : Int) < _
            omega
         refine Ck (Qc (Nz 1 ?_))
         refine Wk 1 (by first | exact det_loadb (j := 5) rfl rfl rfl tk32 | exact det_loadw rfl (by assumption) rfl tk32) ?_
         refine Wk 0 (Xc (s := c.lks)) ?_
         refine Wk 2 (det_ldPn (C := cLock) (k := 2) 0 (s := c.lks) [.int .i64 (nth c.lks.l lk).w, .int .i64 (nth c.lks.l lk).s] (jj := 2) rfl (fun u (h : GameOk u c ∧ ClS u o.2 (clsG c (allN c.p lk)) (gvsG c (allN c.p lk))) => h.1.lks) rfl rfl ⟨by omega, by omega⟩ (Nat.le_refl 2) rfl tk54) ?_
         refine Wc rfl rfl ent24 (fun u hu => (by have q := Choose_k (nth c.lks.l lk).w (nth c.lks.l lk).s _ _ _ _ _ u (hu.ro (j := 2) rfl).2 (oT_SlT (C := cInt) (xs := (nth G.cds.l lk).l) hu (j := 1) rfl fun _ _ ↦ trivial).ints; rw [hr2, if_pos rfl, hr1, Option.getD_some] at q; exact q)) (fun _ => rfl) ?_; rintro vo ⟨uo, hvo⟩
         refine Wz 5 ?_
         refine Wd (Qc (Cs (Nz 3 ?_)))
         refine Wf 0 rfl rfl (fun hg => Fm) ?_
         refine Wf 0 rfl rfl (fun hg => det_lenS sl42 (eg_ hg rfl) hvo) ?_
         refine Wf 0 rfl rfl (fun hg => Fm) ?_
         refine Wf 0 rfl rfl (fun hg => det_lenS sl42 (eg_ hg rfl) hl) ?_
         refine Wf 0 rfl rfl (fun hg => Fg) ?_
         refine Wk 0 Po ?_
         refine Wd (Qc (CS.cond rfl ?_ ?_))<;>intro hc10<;>try simp only [bq] at hc10
         ·
          exfalso
          simp at hc10
          omega
         ·
          refine Ck (Qc (Nz 1 ?_))
          refine Wd (Qc (Cs (Nz 1 ?_)))
          refine Wd (Qc (Ce ?_))
          refine CS.weak (fun _ hu => hu.osl0 (e := 48) (size := 7)) ?_
          refine CS.sel [0, 2, 0, 1, 1, 1, 1, 1] rfl ?_
          refine CS.loopM (σ := Int × Value) [4, 202, 203, 204, 205, 206, 207, 208, 209, 210, 211, 212, 213, 214, 215, 216, 217, 218, 219, 220, 221, 222, 223, 224, 225, 226, 227, 228, 229, 230, 231] (fun s => [(26, .int .i64 s.1), (25, s.2)]) (fun s => [osl 48 7 s.2 (pickI (clsG c (allN c.p lk)) ((r.map Int.ofNat).take s.1.toNat)).length (clFlat (pickI (clsG c (allN c.p lk)) ((r.map Int.ofNat).take s.1.toNat)) (pickG (gvsG c (allN c.p lk)) ((r.map Int.ofNat).take s.1.toNat))), oT cInt 3 v97 (nth G.cds.l lk).l, roI vo (r.map Int.ofNat), roS (fun u => GameOk u c ∧ ClS u o.2 (clsG c (allN c.p lk)) (gvsG c (allN c.p lk))), roI tw (filI c.lks.l.length fun lk => decide (1 < readN c.p lk (allN c.p lk))), roI l (needX c.p lk (allN c.p lk).length), blk b5 [c.rm.pls.v, c.rm.ths.v, c.rm.prs.v, c.rm.wys.v, c.rm.acs.v, c.rm.aus.v, .int .i64 c.rm.ply, c.rm.gl.v, c.lks.v, c.cds.v, c.nts.v, .int .i64 c.tr] 36, blk b2 [G.rm.pls.v, G.rm.ths.v, G.rm.prs.v, G.rm.wys.v, G.rm.acs.v, G.rm.aus.v, .int .i64 G.rm.ply, G.rm.gl.v, G.lks.v, G.cds.v, G.nts.v, .int .i64 G.tr] 36]) (fun s => 0 ≤ s.1 ∧ s.1 ≤ (r.map Int.ofNat).length) (fun s => ((r.map Int.ofNat).length - s.1).toNat) (0, .slice none 0 0) (fun _ _ => rfl) rfl rfl ⟨by simp, by simp⟩ ?_
          intro m t hs
          obtain ⟨hm1, hm2⟩ := hs
          have htl := List.length_take_le m.1.toNat (r.map Int.ofNat)
          refine Cs (Nz 2 ?_)
          refine Wk 1 (det_lenS sl42 rfl hvo) ?_
          refine Wd (Qc (CS.cond rfl ?_ ?_))<;>intro hc11<;>try simp only [bq] at hc11
          ·
           have hni := hrin m.1 hm1 (by omega)
           have hgi : (nth (gvsG c (allN c.p lk)) (nth (r.map Int.ofNat) m.1)).oneCell' = true := hJ2.one _ (nth_mem (xs := (gvsG c (allN c.p lk))) hni.1 (by omega))
           refine Ck (Qc (Cs (Ce (Cs (Nz 2 ?_)))))
           refine Wk 0 (det_idxI sl42 rfl rfl hvo (by omega) (by omega)) ?_
           refine Wk 2 (det_ldIR rfl (j := 2) rfl ⟨by omega, by omega⟩ tk3) ?_
           refine Wf 0 rfl rfl (fun hg => Fm) ?_
           refine Wf 0 rfl rfl (fun hg => Fm) ?_
           refine Wf 0 rfl rfl (fun hg => det_idxI sl42 (eg_ hg rfl) (eg_ hg rfl) hvo (by omega) (by omega)) ?_
           refine Wf 0 rfl rfl (fun hg => det_ldIR (eg_ hg rfl) (j := 2) rfl ⟨by omega, by omega⟩ tk3) ?_
           refine Wf 0 rfl rfl (fun hg => Fm) ?_
           refine Wf 0 rfl rfl (fun hg => det_lenS sl46 (eg_ hg rfl) hJ2.sp) ?_
           refine Wf 0 rfl rfl (fun hg => Fh) ?_
           refine Wk 0 Po ?_
           refine Wd (Qc (CS.cond rfl ?_ ?_))<;>intro hc12<;>try simp only [bq] at hc12
           ·
            exfalso
            omega
           ·
            refine Ck (Qc (Ny 4 ?_))
            refine Wk 0 (det_idxI sl42 rfl rfl hvo (by omega) (by omega)) ?_
            refine Wk 0 (det_ldIR rfl (j := 2) rfl ⟨by omega, by omega⟩ tk3) ?_
            refine Wk 0 (det_idxCl sl46 rfl rfl hJ2 (by omega) (by omega)) ?_
            refine Wk 0 (det_ldClJ (jj := 3) rfl (fun u (h : GameOk u c ∧ ClS u o.2 (clsG c (allN c.p lk)) (gvsG c (allN c.p lk))) => h.2) rfl (by omega) ⟨by omega, by omega⟩ tk48) ?_
            refine WS.buildC1 sl46 zv48 (c := nth (clsG c (allN c.p lk)) (nth (r.map Int.ofNat) m.1)) (gv := nth (gvsG c (allN c.p lk)) (nth (r.map Int.ofNat) m.1)) rfl (fun _ => rfl) ?_; intro v230
            refine WS.appendCl (j := 1) (jz := 0) sl46 zv48 rfl rfl rfl (by rw [pickI_len, pickG_len]) rfl rfl hgi (by rw [pickI_len]; omega) (by rw [pickI_len]; omega) (fun _ => rfl) (fun _ => rfl) ?_; intro v231 hv231
            refine Wz 1 ?_
            refine Wd (Qb (Qc (Ny 1 ?_)))
            refine Wk 1 Za ?_
            refine Wd ?_
            refine QS.sel [1, 1, 1, 1, 1, 1, 1, 1] rfl ?_
            exact QS.head ((m.1 + 1, v231)) rfl (by simp only [pickI_snoc (clsG c (allN c.p lk)) (r.map Int.ofNat) hm1 (by omega), pickG_snoc (gvsG c (allN c.p lk)) (r.map Int.ofNat) hm1 (by omega)]) ⟨⟨by simp; omega, by simp; omega⟩, by simp; omega⟩
          ·
           have hta : (r.map Int.ofNat).take m.1.toNat = (r.map Int.ofNat) := List.take_of_length_le (by omega)
           have hpk : pickI (clsG c (allN c.p lk)) (r.map Int.ofNat) = pickN (clsG c (allN c.p lk)) r := by unfold pickI; rw [ofNat_toNat]
           have hpg : pickG (gvsG c (allN c.p lk)) (r.map Int.ofNat) = pickN (gvsG c (allN c.p lk)) r := by unfold pickG; rw [ofNat_toNat]
           rw [hta, hpk, hpg]
           have hrd0 : rdE (nth c.lks.l lk).w (nth c.lks.l lk).s (pickN (clsG c (allN c.p lk)) r) 2 = 0 := (if_pos hr8).trans (if_pos rfl)
           have hfin := (fit_mem hLk hxx hr6).1
           have ht1 : ((readL (nth c.lks.l lk).w (nth c.lks.l lk).s (pickN (clsG c (allN c.p lk)) r)).take (2 : Int).toNat).length = 1 := by rw [List.length_take, hr5]; rfl
           have hal0 : nth ((readL (nth c.lks.l lk).w (nth c.lks.l lk).s (pickN (clsG c (allN c.p lk)) r)).take (2 : Int).toNat) 0 = (nth G.cds.l lk).l := two_only hr5 hfin
           refine Cv (Qe (Qe (Qx (Qc (Nz 1 ?_)))))
           refine Wk 1 (by first | exact det_loadb (j := 6) rfl rfl rfl tk32 | exact det_loadw rfl (by assumption) rfl tk32) ?_
           refine Wk 0 (Xc (s := c.lks)) ?_
           refine Wk 1 (det_ldPn (C := cLock) (k := 2) 0 (s := c.lks) [.int .i64 (nth c.lks.l lk).w, .int .i64 (nth c.lks.l lk).s] (jj := 3) rfl (fun u (h : GameOk u c ∧ ClS u o.2 (clsG c (allN c.p lk)) (gvsG c (allN c.p lk))) => h.1.lks) rfl rfl ⟨by omega, by omega⟩ (Nat.le_refl 2) rfl tk54) ?_
           refine Wc rfl rfl ent25 (fun u hu => (by have q := Readings_k (nth c.lks.l lk).w (nth c.lks.l lk).s _ _ _ 2 u ((hu.ro (j := 3) rfl).2.pick hr4 (osl_SlC hu (j := 0) rfl)); rw [hrd0, if_pos rfl] at q; exact q)) (fun _ => rfl) ?_; rintro ⟨vx, gx⟩ ⟨ux, hvx⟩
           refine Wz 5 ?_
           refine Wd (Qc (Nz 3 ?_))
           refine Wt 0 rfl rfl (fun hg => Fm) ?_
           refine Wt 0 rfl rfl (fun hg => det_lenS sl33 (eg_ hg rfl) hvx.sp) ?_
           refine Wt 0 rfl rfl (fun hg => Fq) ?_
           refine Wk 1 Pa ?_
           refine Wt 0 rfl rfl (fun hg => Fm) ?_
           refine Wt 0 rfl rfl (fun hg => det_idxL sl33 (eg_ hg rfl) rfl hvx (by decide) (by omega)) ?_
           refine Wt 0 rfl rfl (fun hg => det_ldLR (eg_ hg rfl) (j := 0) rfl hvx ⟨by decide, by omega⟩ tk42) ?_
           refine Wt 0 rfl rfl (fun hg => Fm) ?_
           refine Wt 0 rfl rfl (fun hg => Cb rfl (ec_ (eg_ hg rfl) (ec_ (eg_ hg rfl) en_)) ent23 (fun u hu => (by have q := sameIntsT_c _ _ _ _ u ((hu.roL (j := 0) rfl).el 0 (by decide) (by omega)) (oT_SlT (C := cInt) (xs := (nth G.cds.l lk).l) hu (j := 2) rfl fun _ _ ↦ trivial).ints; rw [hal0, decide_eq_true rfl] at q; exact q))) ?_
           refine Wk 1 Pa ?_
           refine Wt 0 rfl rfl (fun hg => Cb rfl rfl ent16 (fun u hu => counts_c u)) ?_
           refine Wk 1 Pa ?_
           exact Wd (Qc (Cr (out1 rfl rfl (retBe (by simp [hr5])))))
end Go.Proofs.YtaeagngfhceceaaGreatDoor
