/- Merged texts of this proof (walks and plain laws), printed by a program of the prover. -/
import Derived.Test.YtaeagngfhceceaaGreatDoorZb
import Derived.Test.YtaeagngfhceceaaGreatDoorProg
import Derived.KernelRfl
import Derived.Test.YtaeagngfhceceaaGreatDoorZc
import Derived.Test.YtaeagngfhceceaaGreatDoorZf
import Derived.Test.YtaeagngfhceceaaGreatDoorZg
namespace Go.Proofs.YtaeagngfhceceaaGreatDoor
set_option linter.unusedVariables false
set_option linter.unusedSimpArgs false
open Go.RowKit
theorem retSr {w0 u : World} {L : List SA} {j : Nat} {z : Stt} {x : P3} {f : Value → Value} (hj : L[j]? = some (roS fun u => SttOk u z)) (hx : z.x = x) (hu : St w0.heap.size w0 L u) :
    RetS w0 x f (.returned (f (.agg #[z.ths.v, z.prs.v, z.pls.v]))) u := ⟨z, ⟨hx, u, hu.ro hj⟩, retF hj u hu⟩
end Go.Proofs.YtaeagngfhceceaaGreatDoor
namespace Go.Proofs.YtaeagngfhceceaaGreatDoor
open Go.Proofs
theorem ent152 : Ent Tryz.prog 152 := ent_of Tryz.func152 (by kernel_rfl) rfl
theorem ent175 : Ent Tryz.prog 175 := ent_of Tryz.func175 (by kernel_rfl) rfl
end Go.Proofs.YtaeagngfhceceaaGreatDoor
set_option maxHeartbeats 8000000
namespace Go.Proofs.YtaeagngfhceceaaGreatDoor
open Go.RowKit Go.Proofs
set_option maxRecDepth 100000
set_option linter.unusedVariables false
set_option linter.unusedSimpArgs false
theorem Holding_c (z : Stt) (w : World) (hz : SttOk w z) (c : Sl Lit) (hk : SlT cLit w c) (hb : ∀ x ∈ c.l, 0 ≤ x.t ∧ x.t < z.ths.l.length) :
  Calls Tryz.prog 152 #[.agg #[z.ths.v, z.prs.v, z.pls.v], c.v] w (RetB w (.bool (holdB z.ths.l c.l))) := by
 have zth := hz.ths.ints
 have zpr := hz.prs.ints
 have zpl := hz.pls.ints
 have lth := zth.le
 have lpr := zpr.le
 have lpl := zpl.le
 have hcs := hk.sp
 have lcs := hk.le
 refine enter Tryz.func152 rfl rfl (Nat.le_of_ble_eq_true rfl) ?_
 refine Nz 0 ?_
 refine Wb 1 rfl rfl (fun _ => rfl) (fun _ => rfl) fun b2 hb2 => ?_
 refine Wd (Qc (Cs (Nz 1 ?_)))
 refine Wd (Qc (Ce ?_))
 refine CS.loopM (σ := Int) [4, 6, 7, 8, 9, 10, 11, 12, 13, 14, 15, 16, 17, 18, 19, 20, 21, 22, 23, 24, 25, 26, 27, 28, 29, 30, 31, 32] (fun s => [(5, .int .i64 s)]) (fun _ => _) (fun s => 0 ≤ s ∧ s ≤ c.l.length ∧ ∀ j : Int, 0 ≤ j → j < s → (decide (nth z.ths.l (nth c.l j).t = (nth c.l j).s) == (nth c.l j).nt) = false) (fun s => (c.l.length - s).toNat) 0 (fun _ _ => rfl) rfl rfl ⟨by omega, by omega, fun j _ _ => by omega⟩ ?_
 intro s t hs
 obtain ⟨hs1, hs2, hs3⟩ := hs
 refine Cs (Nz 2 ?_)
 refine Wk 1 Nc ?_
 refine Wd (Qc (CS.cond rfl ?_ ?_))<;>intro hc1<;>try simp only [bq] at hc1
 ·
  have hbn := hb _ (nth_mem hs1 (by omega))
  refine Ck (Qc (Cs (Ce (Cs (Dr mixed 1 ?_)))))
  refine Dk 2 (Ba 0) ?_
  refine Dk 1 (det_idxT (C := cLit) (s := c) sl29 rfl rfl rfl rfl hk (by omega) (by omega)) ?_
  refine Dk 0 (det_ldTc (C := cLit) (s := c) (i := s) (j := 0) rfl rfl rfl hk ⟨by omega, by omega⟩ (by decide) rfl tk3) ?_
  refine Dk 0 (det_idxI sl42 rfl rfl zth (by omega) (by omega)) ?_
  refine Dk 2 (det_ldI rfl zth ⟨by omega, by omega⟩ tk3) ?_
  refine Dk 1 (det_idxT (C := cLit) (s := c) sl29 rfl rfl rfl rfl hk (by omega) (by omega)) ?_
  refine Dk 3 (det_ldTc (C := cLit) (s := c) (i := s) (j := 1) rfl rfl rfl hk ⟨by omega, by omega⟩ (by decide) rfl tk3) ?_
  refine Dk 1 (det_idxT (C := cLit) (s := c) sl29 rfl rfl rfl rfl hk (by omega) (by omega)) ?_
  refine Dk 0 (det_ldTc (C := cLit) (s := c) (i := s) (j := 2) rfl rfl rfl hk ⟨by omega, by omega⟩ (by decide) rfl tk4) ?_
  refine Dk 0 (det_eqb rfl rfl Tryz.underlying4) ?_
  refine Dd (Qc (CS.cond rfl ?_ ?_))<;>intro hc2<;>try simp only [bq] at hc2
  ·
   refine Nz 1 ?_
   refine Wd (Qc (Cr (Qs (Qr (Qr (Qs (Qr ?_)))))))
   exact out1 rfl rfl (retBe (by
      have : holdB z.ths.l c.l = false := by
       unfold holdB
       rw [List.all_eq_false]
       exact ⟨_, nth_mem hs1 (by omega), by simpa using hc2⟩
      rw [this]))
  ·
   refine Ck (Qb (Qc (Ny 1 ?_)))
   refine Wk 1 Za ?_
   refine Wd ?_
   exact QS.head (s + 1) rfl rfl ⟨⟨by omega, by omega, fun j h0 h1 => by
      rcases (show j < s ∨ j = s by omega) with h | h
      ·
       exact hs3 j h0 h
      ·
       rw [h]; simpa using hc2⟩, by omega⟩
 ·
  refine Cv (Qe (Qe (Qx (Qc (Nz 1 ?_)))))
  refine Wd (Qc (Cr ?_))
  exact out1 rfl rfl (retBe (by
     have : holdB z.ths.l c.l = true := by
      unfold holdB
      rw [List.all_eq_true]
      intro x hx
      obtain ⟨i, h0, h3, rfl⟩ := mem_nth hx
      rw [hs3 i h0 (by omega)]; rfl
     rw [this]))
end Go.Proofs.YtaeagngfhceceaaGreatDoor
set_option maxHeartbeats 8000000
namespace Go.Proofs.YtaeagngfhceceaaGreatDoor
open Go.RowKit Go.Proofs
set_option maxRecDepth 100000
set_option linter.unusedVariables false
set_option linter.unusedSimpArgs false
theorem Rsettle_c (r : Room) (w : World) (hr : RoomOk w r) (z : Stt) (hz : SttOk w z) (hm : z.ths.l.length ≤ 1000000 ∧ z.prs.l.length ≤ 1000000 ∧ z.pls.l.length ≤ 1000000) (ha : autosIn r.aus.l z.ths.l.length) :
  Calls Tryz.prog 175 #[.agg #[r.pls.v, r.ths.v, r.prs.v, r.wys.v, r.acs.v, r.aus.v, .int .i64 r.ply, r.gl.v], .agg #[z.ths.v, z.prs.v, z.pls.v]] w (RetS w ((settleV r z.x).getD no3) fun v => .tuple #[v, .bool (settleV r z.x).isSome]) := by
 have kpl := hr.pls
 have lpl := hr.pls.le
 have kth := hr.ths
 have lth := hr.ths.le
 have kpr := hr.prs
 have lpr := hr.prs.le
 have kwy := hr.wys
 have lwy := hr.wys.le
 have kac := hr.acs
 have lac := hr.acs.le
 have kau := hr.aus
 have lau := hr.aus.le
 have kgl := hr.gl
 have lgl := hr.gl.le
 refine enter Tryz.func175 rfl rfl (Nat.le_of_ble_eq_true rfl) ?_
 refine Nz 0 ?_
 refine Wb 0 rfl rfl (fun _ => rfl) (fun _ => rfl) fun b2 hb2 => ?_
 refine Wb 0 rfl rfl (fun _ => rfl) (fun _ => rfl) fun b3 hb3 => ?_
 refine Wl 1 zv65 (fun _ => rfl) (fun _ => rfl) fun b4 hb4 => ?_
 refine Wd (Qc (Nz 0 ?_))
 refine Wk 0 (Bb 1) ?_
 refine Wc rfl rfl ent85 (fun u hu => CopyState_c z u (hz.st hu) hm) (fun _ => rfl) ?_; rintro ⟨va, vb, vc⟩ ⟨oa, ob, oc⟩
 refine WS.unpack ?_
 refine Wl 0 zv65 (fun _ => rfl) (fun _ => rfl) fun b6 hb6 => ?_
 refine Wv 0 0 ?_
 refine Wd (Qc (Cs (Nz 1 ?_)))
 refine Wd (Qc (Ce ?_))
 refine CS.sel [1, 1, 1, 0, 0, 1] rfl ?_
 refine CS.loopM (σ := Int × List Int) [5, 8, 9, 10, 13, 14, 15, 16, 17, 18, 19, 20, 21, 22, 23, 24, 25, 26, 27, 28, 29, 30, 31, 32, 33, 34, 35, 36, 37, 38, 39, 40, 41, 42, 43, 44, 45, 46, 47, 48, 49, 50, 51, 52, 53, 54, 55, 56, 57, 58, 59, 60, 61, 62, 63, 64, 65, 66, 67, 68, 69, 70] (fun s => [(7, .int .i64 s.1)]) (fun s => [oints 3 va s.2, oints 3 vb z.prs.l, oints 3 vc z.pls.l, blk b6 [va, vb, vc] 65, blk b4 [.slice none 0 0, .slice none 0 0, .slice none 0 0] 65, blk b2 [r.pls.v, r.ths.v, r.prs.v, r.wys.v, r.acs.v, r.aus.v, .int .i64 r.ply, r.gl.v] 31]) (fun s => 0 ≤ s.1 ∧ s.1 ≤ 101 ∧ s.2.length = z.ths.l.length ∧ settleN r.aus.l 101 z.ths.l = settleN r.aus.l (101 - s.1).toNat s.2) (fun s => (101 - s.1).toNat) (0, z.ths.l) (fun _ _ => rfl) rfl rfl ⟨by simp, by simp, rfl, rfl⟩ ?_
 intro s t hs
 obtain ⟨hs1, hs2, hsl, hs4⟩ := hs
 let hS := s
 refine Cs (Nz 2 ?_)
 refine Wd (Qc (CS.cond rfl ?_ ?_))<;>intro hc1<;>try simp only [bq] at hc1
 ·
  refine Ck (Qc (Cs (Ce (Nz 1 ?_))))
  refine Wd (Qc (Cs (Nz 1 ?_)))
  refine Wd (Qc (Ce ?_))
  refine CS.loopM (σ := Int × Int) [10, 17, 18, 19, 20, 21, 22, 23, 24, 25, 26, 27, 28, 29, 30, 31, 32, 33, 34, 35, 36, 37, 38, 39, 40, 41, 42, 43, 44, 45, 46, 47, 48, 49, 50] (fun s => [(9, .int .i64 s.1), (8, .int .i64 s.2)]) (fun _ => _) (fun s => 0 ≤ s.1 ∧ s.1 ≤ r.aus.l.length ∧ ((s.2 = -1 ∧ ∀ j : Int, 0 ≤ j → j < s.1 → (holdB hS.2 (nth r.aus.l j).wh.l && !decide (nth hS.2 (nth r.aus.l j).t = (nth r.aus.l j).s)) = false) ∨ (0 ≤ s.2 ∧ s.2 < s.1 ∧ (holdB hS.2 (nth r.aus.l s.2).wh.l && !decide (nth hS.2 (nth r.aus.l s.2).t = (nth r.aus.l s.2).s)) = true ∧ ∀ j : Int, 0 ≤ j → j < s.2 → (holdB hS.2 (nth r.aus.l j).wh.l && !decide (nth hS.2 (nth r.aus.l j).t = (nth r.aus.l j).s)) = false))) (fun s => (r.aus.l.length - s.1).toNat) (0, -1) (fun _ _ => rfl) rfl rfl ⟨by simp, by simp, .inl ⟨rfl, fun j h0 h1 => by simp at h1; omega⟩⟩ ?_
  intro q t hs
  obtain ⟨hq1, hq2, hq3⟩ := hs
  refine Cs (Nz 2 ?_)
  refine Wk 0 (Ba 5) ?_
  refine Wk 2 Nc ?_
  refine Wt 0 rfl rfl (fun hg => Fm) ?_
  refine Wt 0 rfl rfl (fun hg => Fl) ?_
  refine Wk 0 Pa ?_
  refine Wd (Qc (CS.cond rfl ?_ ?_))<;>intro hc2<;>try simp only [bq] at hc2
  ·
   have hq4 : 0 ≤ q.1 ∧ q.1 < r.aus.l.length := by omega
   have hau := ha _ (nth_mem hq4.1 hq4.2)
   have hwh : SlT cLit w (nth r.aus.l q.1).wh := hr.aus.at hq4.1 hq4.2
   refine Ck (Qc (Cs (Ce (Nz 1 ?_))))
   refine Wk 1 (Ba 5) ?_
   refine Wk 0 Xc ?_
   refine Wk 0 Ua ?_
   refine Wl 0 zv166 (fun _ => rfl) (fun _ => rfl) fun b10 hb10 => ?_
   refine Wv 0 0 ?_
   refine Wd (Qc (Cs (Dr mixed 0 ?_)))
   refine Dk 1 (Bb 4) ?_
   refine Dk 0 (Ba 0) ?_
   refine Dk 1 (Cb rfl rfl ent152 (fun u hu => Holding_c ⟨⟨va, s.2⟩, ⟨vb, z.prs.l⟩, ⟨vc, z.pls.l⟩⟩ u ⟨(oints_SlI hu (j := 1) rfl).tree, (oints_SlI hu (j := 2) rfl).tree, (oints_SlI hu (j := 3) rfl).tree⟩ (nth r.aus.l q.1).wh (hwh.st hu) (by rw [← hsl] at hau; exact hau.2))) ?_
   refine Dt 0 rfl rfl (fun hg => Ff) ?_
   refine Dt 0 rfl rfl (fun hg => Ba 4) ?_
   refine Dt 0 rfl rfl (fun hg => Ff) ?_
   refine Dt 0 rfl rfl (fun hg => Ff) ?_
   refine Dt 0 rfl rfl (fun hg => Ba 0) ?_
   refine Dt 0 rfl rfl (fun hg => Xb 1 (eg_ hg rfl)) ?_
   refine Dt 0 rfl rfl (fun hg => Ib 1) ?_
   refine Dt 0 rfl rfl (fun hg => Ff) ?_
   refine Dt 0 rfl rfl (fun hg => Ff) ?_
   refine Dt 0 rfl rfl (fun hg => Ba 0) ?_
   refine Dt 0 rfl rfl (fun hg => Fr) ?_
   refine Dk 0 Pa ?_
   refine Dd (Qc (CS.cond rfl ?_ ?_))<;>intro hc3<;>try simp only [bq] at hc3
   ·
    refine Ny 2 ?_
    refine Wd (Qb (Qc (Ny 1 ?_)))
    refine Wk 1 Za ?_
    refine Wd ?_
    refine QS.sel [1, 1, 1, 1, 1, 1] rfl ?_
    exact QS.head ((q.1 + 1, q.1)) rfl rfl ⟨⟨by simp; omega, by simp; omega, .inr ⟨hq4.1, by simp; omega, by simpa using hc3, fun j h0 h1 => by
         rcases hq3 with ⟨h, hb⟩ | ⟨h, _⟩
         ·
          exact hb j h0 h1
         ·
          omega⟩⟩, by simp; omega⟩
   ·
    refine Ck (Qb (Qc (Ny 1 ?_)))
    refine Wk 1 Za ?_
    refine Wd ?_
    refine QS.sel [1, 1, 1, 1, 1, 1] rfl ?_
    exact QS.head ((q.1 + 1, q.2)) rfl rfl ⟨⟨by simp; omega, by simp; omega, .inl (by
         rcases hq3 with ⟨h, hb⟩ | ⟨h, _⟩
         ·
          refine ⟨h, fun j h0 h1 => ?_⟩
          simp only at h1
          rcases (show j < q.1 ∨ j = q.1 by omega) with hj | hj
          ·
           exact hb j h0 hj
          ·
           rw [hj]; show (holdB s.2 (nth r.aus.l q.1).wh.l && !decide (nth s.2 (nth r.aus.l q.1).t = (nth r.aus.l q.1).s)) = false; rcases hc3 with h | h <;> simp [h]
         ·
          omega)⟩, by simp; omega⟩
  ·
   have hqa : q.2 = autoI r.aus.l s.2 := by
      unfold autoI
      rcases hq3 with ⟨h, hb⟩ | ⟨h0, h1, h2, hb⟩
      ·
       rw [idxF_none (p := (fun a : Auto => holdB s.2 a.wh.l && !decide (nth s.2 a.t = a.s))) fun j a b => hb j a (by omega)]; exact h
      ·
       exact (idxF_found (p := (fun a : Auto => holdB s.2 a.wh.l && !decide (nth s.2 a.t = a.s))) h0 (by omega) hb h2).symm
   refine Cv (Qe (Qe (Qx (Qc (Cs (Nz 2 ?_))))))
   refine Wd (Qc (CS.cond rfl ?_ ?_))<;>intro hc4<;>try simp only [bq] at hc4
   ·
    refine Nz 0 ?_
    refine Wk 0 (Bb 3) ?_
    refine Wv 1 4 ?_
    refine Wd (Qc (Cr (Qr (Qs (Qr (Qr (Qs (Qr ?_))))))))
    exact outR (resct rfl (cell_rvN (j := 4) rfl rfl tk65) rfl) (by
      have hv : settleV r z.x = some (s.2, z.prs.l, z.pls.l) := by
       simp only [settleV, Stt.x]
       rw [hs4, show (101 - s.1).toNat = (100 - s.1).toNat + 1 by omega, settleN, if_pos (show autoI r.aus.l s.2 < 0 by omega)]
       rfl
      rw [hv]
      exact fun u hu => retS (f := fun v => .tuple #[v, .bool true]) (is := [0, 0, 0]) rfl hu)
   ·
    have hau2 := autoI_lt (aus := r.aus.l) (ths := s.2) (by omega)
    rw [← hqa] at hau2
    have hat := (ha _ (nth_mem hau2.1 hau2.2)).1
    refine Ck (Qc ?_)
    refine CS.drawnTill 17 (k := 18) mixed rfl rfl ?_
    refine Tr 18 [0] ?_
    refine Tk 18 1 [2] rfl (Ba 3) ?_
    refine Tk 18 3 [4] rfl (Ba 5) ?_
    refine Tk 18 5 [6,7] rfl Xc ?_
    refine Tk 18 8 [9] rfl (Uc 3 1) ?_
    refine Tk 18 10 [11] rfl (Ba 5) ?_
    refine Tk 18 12 [13,14] rfl Xc ?_
    refine Tk 18 15 [] rfl (Uc 3 2) ?_
    refine Tk 18 16 [] rfl (Xb 0) ?_
    refine To 17 rfl ?_
    refine WS.storeOI (j := 0) rfl rfl (by omega) rfl tk3 rfl ?_
    refine Wd (Qt ?_)
    refine Te ?_
    refine Qb (Qc (Ny 1 ?_))
    refine Wk 1 Za ?_
    refine Wd ?_
    exact QS.head ((s.1 + 1, s.2.set (nth r.aus.l q.2).t.toNat (nth r.aus.l q.2).s)) rfl rfl ⟨⟨by simp; omega, by simp; omega, by simp [hsl], by
        rw [hs4, show (101 - s.1).toNat = (101 - (s.1 + 1)).toNat + 1 by omega, settleN, if_neg (by omega), ← hqa]⟩, by simp; omega⟩
 ·
  refine Cv (Qe (Qe (Qx (Qc (Nz 0 ?_)))))
  refine Wk 0 (Db plc65 zv65) ?_
  refine Wv 1 4 ?_
  refine Wd (Qc (Cr ?_))
  exact outR (resct rfl (cell_rvN (j := 4) rfl rfl tk65) rfl) (by
    have hv : settleV r z.x = none := by
     simp only [settleV, Stt.x]
     rw [hs4, show (101 - s.1).toNat = 0 by omega]
     rfl
    rw [hv]
    exact fun u hu => retNo (f := fun v => .tuple #[v, .bool false]) hu)
end Go.Proofs.YtaeagngfhceceaaGreatDoor
