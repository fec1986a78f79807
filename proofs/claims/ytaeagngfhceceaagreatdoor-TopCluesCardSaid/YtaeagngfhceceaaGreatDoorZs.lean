/- Merged texts of this proof (walks and plain laws), printed by a program of the prover. -/
import Derived.Test.YtaeagngfhceceaaGreatDoorZr
import Derived.Test.YtaeagngfhceceaaGreatDoorZj
set_option maxHeartbeats 8000000
namespace Go.Proofs.YtaeagngfhceceaaGreatDoor
open Go.RowKit Go.Proofs
set_option maxRecDepth 100000
set_option linter.unusedVariables false
set_option linter.unusedSimpArgs false
theorem KeptO.one {G : GP} {rd : List Bool} {f : Int → Int} (h : KeptO G rd f) (k : Int) : KeptO G rd (updI (fun _ => 0) k (f k)) := fun j => by
 unfold updI
 split
 ·
  rename_i e; rw [e]; exact h k
 ·
  exact .inl rfl
end Go.Proofs.YtaeagngfhceceaaGreatDoor
set_option maxHeartbeats 8000000
namespace Go.Proofs.YtaeagngfhceceaaGreatDoor
open Go.RowKit Go.Proofs
set_option maxRecDepth 100000
set_option linter.unusedVariables false
set_option linter.unusedSimpArgs false
end Go.Proofs.YtaeagngfhceceaaGreatDoor
set_option maxHeartbeats 8000000
namespace Go.Proofs.YtaeagngfhceceaaGreatDoor
open Go.RowKit Go.Proofs
set_option maxRecDepth 100000
set_option linter.unusedVariables false
set_option linter.unusedSimpArgs false
theorem TwinsI_c (G : Game) (w : World) (hG : GameOk w G) (g : Sl ByteArray) (hW : GOk w g) (hn : NearG G) :
  Calls Tryz.prog 18 #[.agg #[G.rm.pls.v, G.rm.ths.v, G.rm.prs.v, G.rm.wys.v, G.rm.acs.v, G.rm.aus.v, .int .i64 G.rm.ply, G.rm.gl.v, G.lks.v, G.cds.v, G.nts.v, .int .i64 G.tr]] w (fun e w' => ∃ x : Value, (∃ u0, SlI u0 x (TwinsV G.p).2) ∧ RetF w (.tuple #[x, .int .i64 (TwinsV G.p).1]) (roI x (TwinsV G.p).2) e w') := by
 have klk := hG.lks
 have llk := hG.lks.le
 refine enter Tryz.func18 rfl rfl (Nat.le_of_ble_eq_true rfl) ?_
 refine Nz 0 ?_
 refine Wb 2 rfl rfl (fun _ => rfl) (fun _ => rfl) fun b1 hb1 => ?_
 refine Wd (Qc (Cs (Nz 0 ?_)))
 refine Wk 0 (Bb 0) ?_
 refine Wk 1 (Cb rfl rfl ent46 (fun u hu => GICheck_c G u (hG.st hu) g (hW.st hu) hn)) ?_
 refine Wd (Qc (Nz 2 ?_))
 refine Wd (Qc (CS.cond rfl ?_ ?_))<;>intro hc1<;>try simp only [bq] at hc1
 ·
  refine Nz 3 ?_
  refine Wd (Qc (Cr (Qr ?_)))
  exact out2 rfl rfl rfl (by
    have hv : TwinsV G.p = (checkG G.p, []) := if_neg hc1
    rw [hv]
    exact retIn (f := fun v => .tuple #[v, .int .i64 (checkG G.p)]) rfl rfl)
 ·
  have hV := good_of hc1
  have hnl := hV.nl
  have hnn := hV.nn
  refine Ck (Qc (Cs (Nz 1 ?_)))
  refine Wk 0 (Ba 0) ?_
  refine Wk 1 Nc ?_
  refine Wd (Qc (Ce ?_))
  refine CS.weak (fun _ hu => hu.osl0 (e := 3) (size := 1)) ?_
  refine CS.loopM (σ := Int × Value) [3, 5, 6, 7, 8, 9, 10, 20, 21, 22, 23, 24, 25, 26, 27, 28, 29, 30, 31, 32, 33, 34, 35, 36, 37, 38, 39, 40, 41, 42, 43, 44, 45] (fun s => [(19, .int .i64 s.1), (2, s.2)]) (fun s => [oints 3 s.2 (filI s.1 (fun lk => decide (1 < readN G.p lk (allN G.p lk)))), blk b1 [G.rm.pls.v, G.rm.ths.v, G.rm.prs.v, G.rm.wys.v, G.rm.acs.v, G.rm.aus.v, .int .i64 G.rm.ply, G.rm.gl.v, G.lks.v, G.cds.v, G.nts.v, .int .i64 G.tr] 36]) (fun s => 0 ≤ s.1 ∧ s.1 ≤ G.lks.l.length) (fun s => (G.lks.l.length - s.1).toNat) (0, .slice none 0 0) (fun _ _ => rfl) rfl rfl ⟨by simp, by first | (simp; done) | (simp; omega)⟩ ?_
  intro a t hs
  obtain ⟨ha1, ha2⟩ := hs
  have hfl := fun p => filI_len (n := a.1) (p := p) ha1
  refine Nz 1 ?_
  refine Wd (Qc (Cs (CS.cond rfl ?_ ?_)))<;>intro hc2<;>try simp only [bq] at hc2
  ·
   have hfa := hfl (fun lk => decide (1 < readN G.p lk (allN G.p lk)))
   have hE := cluesE_ok hV ha1 (show a.1 < G.lks.l.length by omega) (about_of (p := fun _ => true)) (Nat.le_trans (about_len hV _ _) (by decide))
   have hrn : (if cluesE (nth G.lks.l a.1).w (nth G.lks.l a.1).s (clsG G (aboutN G.p a.1 fun _ => true)) = 0 then ((readL (nth G.lks.l a.1).w (nth G.lks.l a.1).s (clsG G (aboutN G.p a.1 fun _ => true))).length : Int) else 0) = readN G.p a.1 (allN G.p a.1) := by rw [hE, if_pos rfl, ← about_all, readN_p]
   refine Ck (Qc (Cs (Ce (Nz 1 ?_))))
   refine Wk 0 Xc ?_
   refine Wk 0 Ua ?_
   refine Wl 1 zv54 (fun _ => rfl) (fun _ => rfl) fun b6 hb6 => ?_
   refine Wv 0 0 ?_
   refine Wd (Qc (Nz 0 ?_))
   refine Wk 1 (Bb 2) ?_
   refine Wc rfl rfl ent64 (fun u hu => about_c G u (hG.st hu) (by omega) a.1 _ [] (fun _ ↦ true) ent65 (fun u2 _ i _ _ ↦ every_c i u2)) (fun _ => rfl) ?_; rintro ⟨v27, v28⟩ ⟨hv27, hv28⟩
   refine WS.unpack ?_
   refine Wz 5 ?_
   refine Wd (Qc (Nz 0 ?_))
   refine Wk 1 (Bb 2) ?_
   refine Wk 5 (Cb rfl rfl ent21 (fun u hu => Count_k _ _ _ _ _ u (clS_of (hG.st hu) about_of (osl_SlC hu (j := 1) rfl)))) ?_
   refine Wd (Qc (Cs (Nz 2 ?_)))
   refine Wd (Qc (CS.cond rfl ?_ ?_))<;>intro hc3<;>try simp only [bq] at hc3
   ·
    exact absurd hE hc3
   ·
    refine Ck (Qc (Nz 2 ?_))
    refine Wd (Qc (CS.cond rfl ?_ ?_))<;>intro hc4<;>try simp only [bq] at hc4
    ·
     have hpd : decide (1 < readN G.p a.1 (allN G.p a.1)) = true := decide_eq_true (by rw [← hrn]; exact hc4)
     refine Ny 2 ?_
     refine WS.buildI1 sl42 zv3 rfl (fun _ => rfl) ?_; intro v43
     refine WS.appendI (j := 4) sl42 zv3 rfl rfl rfl (fun u hu => oints_SlI hu (j := 0) rfl) (by first | omega | (simp; omega) | (simp only [List.length_append, List.length_singleton, List.length_map, List.length_cons, List.length_nil] at *; omega)) (by first | omega | (simp; omega) | (simp only [List.length_append, List.length_singleton, List.length_map, List.length_cons, List.length_nil] at *; omega)) (fun _ => rfl) (fun _ => rfl) ?_; intro v44; refine WS.oc (j := 4) rfl (fun hv44 => ?_)
     refine Wz 1 ?_
     refine Wd (Qb (Qc (Ny 0 ?_)))
     refine Wk 1 Za ?_
     refine Wd ?_
     refine QS.sel [4, 4] rfl ?_
     exact QS.head ((a.1 + 1, v44)) rfl (by first | simp only [filI_yes (p := (fun lk => decide (1 < readN G.p lk (allN G.p lk)))) ha1 (by exact hpd)] | simp only [← filI_no (p := (fun lk => decide (1 < readN G.p lk (allN G.p lk)))) ha1 (by exact hpd)]) ⟨⟨by simp; omega, by simp; omega⟩, by simp; omega⟩
    ·
     have hpd : decide (1 < readN G.p a.1 (allN G.p a.1)) = false := decide_eq_false (by rw [← hrn]; exact hc4)
     refine Ck (Qb (Qc (Ny 0 ?_)))
     refine Wk 1 Za ?_
     refine Wd ?_
     refine QS.sel [3, 3] rfl ?_
     exact QS.head ((a.1 + 1, a.2)) rfl (by first | simp only [filI_yes (p := (fun lk => decide (1 < readN G.p lk (allN G.p lk)))) ha1 (by exact hpd)] | simp only [← filI_no (p := (fun lk => decide (1 < readN G.p lk (allN G.p lk)))) ha1 (by exact hpd)]) ⟨⟨by simp; omega, by simp; omega⟩, by simp; omega⟩
  ·
   have hae : a.1 = G.lks.l.length := by omega
   refine Cv (Qe (Qe (Qx (Qc (Nz 3 ?_)))))
   refine Wd (Qc (Cr ?_))
   exact out2 rfl rfl rfl (by
     have hv : TwinsV G.p = (0, filI a.1 (fun lk => decide (1 < readN G.p lk (allN G.p lk)))) := by rw [hae]; exact if_pos hc1
     rw [hv]
     exact retIe (f := fun v => .tuple #[v, .int .i64 0]) (j := 0) rfl rfl rfl)
end Go.Proofs.YtaeagngfhceceaaGreatDoor
