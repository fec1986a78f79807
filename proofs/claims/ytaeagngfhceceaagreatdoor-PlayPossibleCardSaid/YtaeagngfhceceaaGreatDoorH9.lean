/- Contracts of functions, printed by a program of the prover (gen.py). -/
import Derived.Test.YtaeagngfhceceaaGreatDoorZz
import Derived.Test.YtaeagngfhceceaaGreatDoorY1
import Derived.Test.YtaeagngfhceceaaGreatDoorY2
import Derived.Test.YtaeagngfhceceaaGreatDoorY4
import Derived.Test.YtaeagngfhceceaaGreatDoorY8
import Derived.Test.YtaeagngfhceceaaGreatDoorY10
import Derived.Test.YtaeagngfhceceaaGreatDoorY11
import Derived.Test.YtaeagngfhceceaaGreatDoorY12
import Derived.Test.YtaeagngfhceceaaGreatDoorY17
import Derived.Test.YtaeagngfhceceaaGreatDoorY18
import Derived.Test.YtaeagngfhceceaaGreatDoorY19
import Derived.Test.YtaeagngfhceceaaGreatDoorY25
import Derived.Test.YtaeagngfhceceaaGreatDoorY27
import Derived.Test.YtaeagngfhceceaaGreatDoorY29
import Derived.Test.YtaeagngfhceceaaGreatDoorY38
set_option maxHeartbeats 8000000
namespace Go.Proofs.YtaeagngfhceceaaGreatDoor
open Go.RowKit Go.Proofs
set_option maxRecDepth 100000
set_option linter.unusedVariables false
set_option linter.unusedSimpArgs false
theorem PlayPossible_c (G : Game) (w : World) (hG : GameOk w G) (g : Sl ByteArray) (hW : GOk w g) (p : Pos) (hp : PosOk w p) (m : Move) :
  Calls Tryz.prog 11 #[.agg #[G.rm.pls.v, G.rm.ths.v, G.rm.prs.v, G.rm.wys.v, G.rm.acs.v, G.rm.aus.v, .int .i64 G.rm.ply, G.rm.gl.v, G.lks.v, G.cds.v, G.nts.v, .int .i64 G.tr], .agg #[p.st.ths.v, p.st.prs.v, p.st.pls.v, p.rd.v], .agg #[.int .i64 m.p, .int .i64 m.k, .int .i64 m.n]] w (RetB w (.bool true)) := by
 refine enter Tryz.func11 rfl rfl (Nat.le_of_ble_eq_true rfl) ?_
 refine Nz 0 ?_
 refine Wb 0 rfl rfl (fun _ => rfl) (fun _ => rfl) fun b3 hb3 => ?_
 refine Wb 0 rfl rfl (fun _ => rfl) (fun _ => rfl) fun b4 hb4 => ?_
 refine Wb 1 rfl rfl (fun _ => rfl) (fun _ => rfl) fun b5 hb5 => ?_
 refine Wd (Qc (Cs (Nz 0 ?_)))
 refine Wk 0 (by first | exact det_loadb0 (j := 2) rfl rfl tk36 | exact det_loadbN (j := 2) rfl rfl (by rfl) tk36 | exact det_loadwN rfl (by assumption) (by rfl) tk36 | exact det_loadbK (n := 12) (j := 2) rfl rfl rfl rfl tk36) ?_
 refine Wk 1 (Cb rfl rfl ent14 (fun u hu => FarG_c G u (hG.st hu))) ?_
 refine Wf 0 rfl rfl (fun hg => by first | exact det_loadb0 (j := 1) rfl rfl tk68 | exact det_loadbN (j := 1) rfl rfl (by rfl) tk68 | exact det_loadwN rfl (by assumption) (by rfl) tk68 | exact det_loadbK (n := 4) (j := 1) rfl rfl rfl rfl tk68) ?_
 refine Wf 0 rfl rfl (fun hg => Cb rfl (ec_ (eg_ hg rfl) en_) ent26 (fun u hu => AwayG_c p u (hp.toSt hu))) ?_
 refine Wk 1 Po ?_
 refine Wf 0 rfl rfl (fun hg => by first | exact det_loadb0 (j := 2) rfl rfl tk36 | exact det_loadbN (j := 2) rfl rfl (by rfl) tk36 | exact det_loadwN rfl (by assumption) (by rfl) tk36 | exact det_loadbK (n := 12) (j := 2) rfl rfl rfl rfl tk36) ?_
 refine Wf 0 rfl rfl (fun hg => by first | exact det_loadb0 (j := 1) rfl rfl tk68 | exact det_loadbN (j := 1) rfl rfl (by rfl) tk68 | exact det_loadwN rfl (by assumption) (by rfl) tk68 | exact det_loadbK (n := 4) (j := 1) rfl rfl rfl rfl tk68) ?_
 refine Wf 0 rfl rfl (fun hg => Cb rfl (ec_ (eg_ hg rfl) (ec_ (eg_ hg rfl) en_)) ent52 (fun u hu => RPos_c G u (hG.st hu) (clB_iff.1 (by cases hq : clB (NearG G) <;> simp_all)) p (hp.toSt hu))) ?_
 refine Wf 0 rfl rfl (fun hg => Fr) ?_
 refine Wk 0 Po ?_
 refine Wd (Qc (CS.cond rfl ?_ ?_))<;>intro hc1<;>try simp only [bq] at hc1
 ·
  refine Nz 0 ?_
  refine Wk 1 (Cb rfl rfl ent27 (fun u hu => worksG_c u g (hW.st hu))) ?_
  exact Wd (Qc (Cr (Qr (out1 rfl rfl retB))))
 ·
  have hn : NearG G := clB_iff.1 hc1.1.1
  have hsm : (p.st.ths.l.length ≤ 1000000 ∧ p.st.prs.l.length ≤ 1000000 ∧ p.st.pls.l.length ≤ 1000000) ∧ p.rd.l.length ≤ 1000000 := by have := hc1.1.2; grind
  have hq : posG G.p p.x = 0 := hc1.2
  have hck := posG_ck hq
  have hV := good_of hck
  have hP := goodp_of hq
  have hcv : CanV G.p p.x = (0, movesX G.p p.x) := if_pos hq
  have hml := moves_len hP
  refine Ck (Qc (Nz 0 ?_))
  refine Wk 0 (by first | exact det_loadb0 (j := 2) rfl rfl tk36 | exact det_loadbN (j := 2) rfl rfl (by rfl) tk36 | exact det_loadwN rfl (by assumption) (by rfl) tk36 | exact det_loadbK (n := 12) (j := 2) rfl rfl rfl rfl tk36) ?_
  refine Wc rfl rfl ent17 (fun u hu => CopyG_c G u (hG.st hu) hn) (fun _ => rfl) ?_; rintro c ⟨hcp, uc, hcok⟩
  have hnc := near_p hcp hn
  have o1 := Sl.one hcok.rm.pls
  have o2 := Sl.one hcok.rm.ths
  have o3 := Sl.one hcok.rm.prs
  have o4 := Sl.one hcok.rm.wys
  have o5 := Sl.one hcok.rm.acs
  have o6 := Sl.one hcok.rm.aus
  have o7 := Sl.one hcok.rm.gl
  have o8 := Sl.one hcok.lks
  have o9 := Sl.one hcok.cds
  have o10 := Sl.one hcok.nts
  refine Wl 0 zv36 (fun _ => rfl) (fun _ => rfl) fun b7 hb7 => ?_
  refine Wv 0 0 ?_
  refine Wd (Qc (Cs ?_))
  refine CS.drawnAll (k := 9) mixed rfl rfl ?_
  refine Ak 0 [] rfl (by first | exact det_loadb0 (j := 0) rfl rfl tk36 | exact det_loadbN (j := 0) rfl rfl (by rfl) tk36 | exact det_loadwN rfl (by assumption) (by rfl) tk36 | exact det_loadbK (n := 12) (j := 0) rfl rfl rfl rfl tk36) ?_
  refine Ak 1 [] rfl (by first | exact det_loadb0 (j := 3) rfl rfl tk68 | exact det_loadbN (j := 3) rfl rfl (by rfl) tk68 | exact det_loadwN rfl (by assumption) (by rfl) tk68 | exact det_loadbK (n := 4) (j := 3) rfl rfl rfl rfl tk68) ?_
  refine Ao 2 rfl ?_
  refine Wc rfl rfl ent29 (fun u hu => CopyPos_c p u (hp.toSt hu) hsm) (fun _ => rfl) ?_; rintro y ⟨hyx, uy, hyok⟩
  obtain ⟨hya, hyb, hyc⟩ := hyok.st.ones
  have hyd := Sl.one hyok.rd
  refine Wd (Qa ?_)
  refine Ao 3 rfl ?_
  refine Wc rfl rfl ent28 (fun u hu => (by have q := CanI_c c u (hu.ro (j := 2) rfl) g (hW.st hu) hnc y (hu.ro (j := 0) rfl); rw [hcp, hyx, hcv] at q; exact q)) (fun _ => rfl) ?_; rintro l ⟨ul, hl⟩
  refine Wd (Qa ?_)
  refine Ar [4,5,6,7,8] ?_
  refine Ae ?_
  refine Qc ?_
  refine CS.cut (σ := Nat × Pos) [43, 44, 45, 46, 47, 48, 49, 50] (fun s => [(10, .pointer (some ⟨s.1, 0, none⟩)), (11, .int .i64 (StepGV G.p p.x m).1)]) (fun s => [blk s.1 [s.2.st.ths.v, s.2.st.prs.v, s.2.st.pls.v, s.2.rd.v] 68, roS fun u => PosOk u s.2, roT cMove ⟨l, movesX G.p p.x⟩, blk b7 [c.rm.pls.v, c.rm.ths.v, c.rm.prs.v, c.rm.wys.v, c.rm.acs.v, c.rm.aus.v, .int .i64 c.rm.ply, c.rm.gl.v, c.lks.v, c.cds.v, c.nts.v, .int .i64 c.tr] 36, roS fun u => GameOk u c, blk b5 [.int .i64 m.p, .int .i64 m.k, .int .i64 m.n] 91, blk b4 [p.st.ths.v, p.st.prs.v, p.st.pls.v, p.rd.v] 68, blk b3 [G.rm.pls.v, G.rm.ths.v, G.rm.prs.v, G.rm.wys.v, G.rm.acs.v, G.rm.aus.v, .int .i64 G.rm.ply, G.rm.gl.v, G.lks.v, G.cds.v, G.nts.v, .int .i64 G.tr] 36]) (fun s => s.2.x = (StepGV G.p p.x m).2 ∧ ∃ u0, PosOk u0 s.2) (fun _ _ => rfl) ?_ ?_
  ·
   refine CS.drawnAll (k := 11) mixed rfl rfl ?_
   refine Ak 0 [] rfl (by first | exact det_loadb0 (j := 2) rfl rfl tk36 | exact det_loadbN (j := 2) rfl rfl (by rfl) tk36 | exact det_loadwN rfl (by assumption) (by rfl) tk36 | exact det_loadbK (n := 12) (j := 2) rfl rfl rfl rfl tk36) ?_
   refine Ak 1 [] rfl (by first | exact det_loadb0 (j := 5) rfl rfl tk68 | exact det_loadbN (j := 5) rfl rfl (by rfl) tk68 | exact det_loadwN rfl (by assumption) (by rfl) tk68 | exact det_loadbK (n := 4) (j := 5) rfl rfl rfl rfl tk68) ?_
   refine Ak 3 [] rfl (by first | exact det_loadb0 (j := 4) rfl rfl tk91 | exact det_loadbN (j := 4) rfl rfl (by rfl) tk91 | exact det_loadwN rfl (by assumption) (by rfl) tk91 | exact det_loadbK (n := 3) (j := 4) rfl rfl rfl rfl tk91) ?_
   refine AS.two (i := 2) (j := 8) (by kernel_rfl) rfl rfl (by first | exact fun _ h => h | exact fun _ h => h.sub (by repeat first | exact List.Sublist.refl _ | apply List.Sublist.cons_cons | apply List.Sublist.cons)) rfl rfl ?_ ?_
   ·
    refine Wc rfl rfl ent29 (fun u hu => CopyPos_c p u (hp.toSt hu) hsm) (fun _ => rfl) ?_; rintro y ⟨hyx, uy, hyok⟩
    obtain ⟨hya, hyb, hyc⟩ := hyok.st.ones
    have hyd := Sl.one hyok.rd
    refine Wd (Qa ?_)
    refine AS.two (i := 4) (j := 8) (by kernel_rfl) rfl rfl (by first | exact fun _ h => h | exact fun _ h => h.sub (by repeat first | exact List.Sublist.refl _ | apply List.Sublist.cons_cons | apply List.Sublist.cons)) rfl rfl ?_ ?_
    ·
     refine Wc rfl rfl ent48 (fun u hu => (by have q := StepI_c c u (hu.ro (j := 4) rfl) g (hW.st hu) hnc y (hu.ro (j := 0) rfl) m; rw [hcp, hyx] at q; exact q)) (fun _ => rfl) ?_; rintro x ⟨hxx, ux, hxok⟩
     obtain ⟨hxa, hxb, hxc⟩ := hxok.st.ones
     have hxd := Sl.one hxok.rd
     refine Wd (Qa ?_)
     refine Ar [5,6,7] ?_
     refine Ao 8 rfl ?_
     refine Wl 0 zv68 (fun _ => rfl) (fun _ => rfl) fun b10 hb10 => ?_
     refine Wd (Qa ?_)
     refine Ao 9 rfl ?_
     refine Wv 0 0 ?_
     refine Wd (Qa ?_)
     refine Ar [10] ?_
     refine Ae ?_
     refine QS.sel [0, 0, 1, 2, 2, 2, 2, 2] rfl ?_
     exact QS.head ((b10, x)) rfl rfl ⟨hxx, ux, hxok⟩
    ·
     refine Wl 0 zv68 (fun _ => rfl) (fun _ => rfl) fun b10 hb10 => ?_
     refine Wd (Qa ?_)
     refine Ao 4 rfl ?_
     refine Wc rfl rfl ent48 (fun u hu => (by have q := StepI_c c u (hu.ro (j := 5) rfl) g (hW.st hu) hnc y (hu.ro (j := 1) rfl) m; rw [hcp, hyx] at q; exact q)) (fun _ => rfl) ?_; rintro x ⟨hxx, ux, hxok⟩
     obtain ⟨hxa, hxb, hxc⟩ := hxok.st.ones
     have hxd := Sl.one hxok.rd
     refine Wd (Qa ?_)
     refine Ar [5,6,7] ?_
     refine Ao 9 rfl ?_
     refine Wv 0 1 ?_
     refine Wd (Qa ?_)
     refine Ar [10] ?_
     refine Ae ?_
     refine QS.sel [1, 0, 1, 2, 2, 2, 2, 2] rfl ?_
     exact QS.head ((b10, x)) rfl rfl ⟨hxx, ux, hxok⟩
   ·
    refine Wl 0 zv68 (fun _ => rfl) (fun _ => rfl) fun b10 hb10 => ?_
    refine Wd (Qa ?_)
    refine Ao 2 rfl ?_
    refine Wc rfl rfl ent29 (fun u hu => CopyPos_c p u (hp.toSt hu) hsm) (fun _ => rfl) ?_; rintro y ⟨hyx, uy, hyok⟩
    obtain ⟨hya, hyb, hyc⟩ := hyok.st.ones
    have hyd := Sl.one hyok.rd
    refine Wd (Qa ?_)
    refine Ao 4 rfl ?_
    refine Wc rfl rfl ent48 (fun u hu => (by have q := StepI_c c u (hu.ro (j := 5) rfl) g (hW.st hu) hnc y (hu.ro (j := 0) rfl) m; rw [hcp, hyx] at q; exact q)) (fun _ => rfl) ?_; rintro x ⟨hxx, ux, hxok⟩
    obtain ⟨hxa, hxb, hxc⟩ := hxok.st.ones
    have hxd := Sl.one hxok.rd
    refine Wd (Qa ?_)
    refine Ar [5,6,7] ?_
    refine Ao 9 rfl ?_
    refine Wv 0 2 ?_
    refine Wd (Qa ?_)
    refine Ar [10] ?_
    refine Ae ?_
    refine QS.sel [2, 0, 1, 2, 2, 2, 2, 2] rfl ?_
    exact QS.head ((b10, x)) rfl rfl ⟨hxx, ux, hxok⟩
  ·
   intro s t hs
   obtain ⟨b10, x⟩ := s
   obtain ⟨hxx, ux, hxok⟩ := hs
   obtain ⟨hxa, hxb, hxc⟩ := hxok.st.ones
   have hxd := Sl.one hxok.rd
   refine Cs (Nz 3 ?_)
   refine Wf 0 rfl rfl (fun hg => Fm) ?_
   refine Wf 0 rfl rfl (fun hg => Fr) ?_
   refine Wf 0 rfl rfl (fun hg => Fm (eg_ hg rfl)) ?_
   refine Wn 0 rfl rfl rfl (fun hg => Fm) ?_
   refine Wn 0 rfl rfl rfl (fun hg => Fr) ?_
   refine Wf 0 rfl rfl (fun hg => det_pick_and (eg_ hg rfl) (ev_nestT hg rfl) rfl) ?_
   refine Wk 0 Po ?_
   refine Wd (Qc (CS.cond rfl ?_ ?_))<;>intro hc2<;>try simp only [bq] at hc2
   ·
    exfalso
    rcases step_err_g (m := m) hq with h9 | h9 <;> rw [h9] at hc2 <;> simp at hc2
   ·
    refine Ck (Qc (Nz 1 ?_))
    refine Wd (Qc (Cs (Nz 1 ?_)))
    refine Wd (Qc (Ce ?_))
    refine CS.loopM (σ := Int × Bool) [61, 62, 63, 64, 65, 66, 67, 68, 69, 70, 71, 72, 73, 74, 75] (fun s => [(13, .int .i64 s.1), (12, .bool s.2)]) (fun _ => _) (fun s => 0 ≤ s.1 ∧ s.1 ≤ (movesX G.p p.x).length ∧ s.2 = ((movesX G.p p.x).take s.1.toNat).any fun y => decide (y = m)) (fun s => ((movesX G.p p.x).length - s.1).toNat) (0, false) (fun _ _ => rfl) rfl rfl ⟨by simp, by simp, by simp⟩ ?_
    intro s t hs
    obtain ⟨hs1, hs2, hs3⟩ := hs
    refine Cs (Nz 2 ?_)
    refine Wk 1 (Nc (s := ⟨l, movesX G.p p.x⟩)) ?_
    refine Wd (Qc (CS.cond rfl ?_ ?_))<;>intro hc3<;>try simp only [bq] at hc3
    ·
     refine Ck (Qc (Cs (Ce (Dr mixed 2 ?_))))
     refine Df 0 rfl rfl (fun hg => Fm) ?_
     refine Df 0 rfl rfl (fun hg => Fm) ?_
     refine Df 0 rfl rfl (fun hg => Xc (s := ⟨l, movesX G.p p.x⟩) (eg_ hg rfl) (eg_ hg rfl)) ?_
     refine Df 0 rfl rfl (fun hg => det_ldRN (jj := 2) (s := ⟨l, movesX G.p p.x⟩) rfl (eg_ hg rfl) rfl ⟨(by omega), (by omega)⟩ rfl tk91) ?_
     refine Df 0 rfl rfl (fun hg => by first | exact det_loadb0 (j := 5) rfl rfl tk91 | exact det_loadbN (j := 5) rfl rfl (by rfl) tk91 | exact det_loadwN rfl (by assumption) (by rfl) tk91 | exact det_loadbK (n := 3) (j := 5) rfl rfl rfl rfl tk91) ?_
     refine Df 0 rfl rfl (fun hg => det_eqAgg agMove (eg_ hg rfl) (eg_ hg rfl) (cmp_move _ _)) ?_
     refine Dk 1 Po ?_
     refine Dd (Qb (Qc (Ny 1 ?_)))
     refine Wk 1 Za ?_
     exact Wd (QS.head ((s.1 + 1, s.2 || decide (nth (movesX G.p p.x) s.1 = m))) rfl rfl ⟨⟨by simp; omega, by simp; omega, by simp only; rw [hs3, any_snoc hs1 (by omega)]⟩, by simp; omega⟩)
    ·
     have hta : (movesX G.p p.x).take s.1.toNat = movesX G.p p.x := List.take_of_length_le (by omega)
     have hcan : s.2 = possB G.p p.x m := by rw [hs3, hta, moves_any hP]
     refine Cv (Qe (Qe (Qx (Qc (Cs (Nz 3 ?_))))))
     refine Wk 0 (det_neb rfl rfl Tryz.underlying4) ?_
     refine Wd (Qc (CS.cond rfl ?_ ?_))<;>intro hc4<;>try simp only [bq] at hc4
     ·
      exfalso
      have h0 := step_0 (m := m) hq
      rw [hcan] at hc4
      cases hb : possB G.p p.x m <;> simp [hb] at hc4 h0 <;> omega
     ·
      refine Ck (Qc (Cs (Nz 2 ?_)))
      refine Wd (Qc (CS.cond rfl ?_ ?_))<;>intro hc5<;>try simp only [bq] at hc5
      ·
       refine Nz 0 ?_
       refine Wk 1 (Cb rfl rfl ent27 (fun u hu => worksG_c u g (hW.st hu))) ?_
       exact Wd (Qc (Cr (Qr (out1 rfl rfl retB))))
      ·
       have hS0 : (StepGV G.p p.x m).1 = 0 := hc5
       obtain ⟨hpb, hnx, hqx⟩ := step_good hS0
       obtain ⟨hau, hrx⟩ := next_rest hpb
       rw [← hnx] at hau hrx
       obtain ⟨X, hX⟩ : ∃ X, X = (StepGV G.p p.x m).2 := ⟨_, rfl⟩
       rw [← hX] at hxx hqx hau hrx
       have hqx2 : posG G.p x.x = 0 := by rw [hxx]; exact hqx
       have hPx := goodp_of hqx2
       have hsmx := hPx.small
       have hcv2 : CanV G.p X = (0, movesX G.p X) := if_pos hqx
       have hml2 : (movesX G.p X).length ≤ 384 := by rw [← hxx]; exact moves_len hPx
       have hIX : StIn G.rm X.1 := by rw [← hxx]; exact hPx.inn
       have hlX : X.2.length = G.nts.l.length := by rw [← hxx]; exact hPx.ln
       refine Ck (Qc (Cs ?_))
       refine CS.drawnAll (k := 9) mixed rfl rfl ?_
       refine Ak 0 [] rfl (by first | exact det_loadb0 (j := 3) rfl rfl tk36 | exact det_loadbN (j := 3) rfl rfl (by rfl) tk36 | exact det_loadwN rfl (by assumption) (by rfl) tk36 | exact det_loadbK (n := 12) (j := 3) rfl rfl rfl rfl tk36) ?_
       refine Ak 1 [] rfl (by first | exact det_loadb0 (j := 0) rfl rfl tk68 | exact det_loadb0 (j := 1) rfl rfl tk68 | exact det_loadb0 (j := 2) rfl rfl tk68 | exact det_loadb0 (j := 3) rfl rfl tk68 | exact det_loadb0 (j := 4) rfl rfl tk68 | exact det_loadb0 (j := 5) rfl rfl tk68 | exact det_loadb0 (j := 6) rfl rfl tk68 | exact det_loadb0 (j := 7) rfl rfl tk68 | exact det_loadb0 (j := 8) rfl rfl tk68 | exact det_loadb0 (j := 9) rfl rfl tk68 | exact det_loadb0 (j := 10) rfl rfl tk68 | exact det_loadb0 (j := 11) rfl rfl tk68 | exact det_loadb0 (j := 12) rfl rfl tk68 | exact det_loadb0 (j := 13) rfl rfl tk68 | exact det_loadb0 (j := 14) rfl rfl tk68 | exact det_loadb0 (j := 15) rfl rfl tk68 | exact det_loadbN (j := 0) rfl rfl (by rfl) tk68 | exact det_loadbN (j := 1) rfl rfl (by rfl) tk68 | exact det_loadbN (j := 2) rfl rfl (by rfl) tk68 | exact det_loadbN (j := 3) rfl rfl (by rfl) tk68 | exact det_loadbN (j := 4) rfl rfl (by rfl) tk68 | exact det_loadbN (j := 5) rfl rfl (by rfl) tk68 | exact det_loadbN (j := 6) rfl rfl (by rfl) tk68 | exact det_loadbN (j := 7) rfl rfl (by rfl) tk68 | exact det_loadbN (j := 8) rfl rfl (by rfl) tk68 | exact det_loadbN (j := 9) rfl rfl (by rfl) tk68 | exact det_loadbN (j := 10) rfl rfl (by rfl) tk68 | exact det_loadbN (j := 11) rfl rfl (by rfl) tk68 | exact det_loadbN (j := 12) rfl rfl (by rfl) tk68 | exact det_loadbN (j := 13) rfl rfl (by rfl) tk68 | exact det_loadbN (j := 14) rfl rfl (by rfl) tk68 | exact det_loadbN (j := 15) rfl rfl (by rfl) tk68 | exact det_loadwN rfl (by assumption) (by rfl) tk68 | exact det_loadbK (n := 4) (j := 0) rfl rfl rfl rfl tk68 | exact det_loadbK (n := 4) (j := 1) rfl rfl rfl rfl tk68 | exact det_loadbK (n := 4) (j := 2) rfl rfl rfl rfl tk68 | exact det_loadbK (n := 4) (j := 3) rfl rfl rfl rfl tk68 | exact det_loadbK (n := 4) (j := 4) rfl rfl rfl rfl tk68 | exact det_loadbK (n := 4) (j := 5) rfl rfl rfl rfl tk68 | exact det_loadbK (n := 4) (j := 6) rfl rfl rfl rfl tk68 | exact det_loadbK (n := 4) (j := 7) rfl rfl rfl rfl tk68 | exact det_loadbK (n := 4) (j := 8) rfl rfl rfl rfl tk68 | exact det_loadbK (n := 4) (j := 9) rfl rfl rfl rfl tk68 | exact det_loadbK (n := 4) (j := 10) rfl rfl rfl rfl tk68 | exact det_loadbK (n := 4) (j := 11) rfl rfl rfl rfl tk68 | exact det_loadbK (n := 4) (j := 12) rfl rfl rfl rfl tk68 | exact det_loadbK (n := 4) (j := 13) rfl rfl rfl rfl tk68 | exact det_loadbK (n := 4) (j := 14) rfl rfl rfl rfl tk68 | exact det_loadbK (n := 4) (j := 15) rfl rfl rfl rfl tk68) ?_
       refine Ao 2 rfl ?_
       refine Wc rfl rfl ent29 (fun u hu => CopyPos_c x u (hu.ro (j := 1) rfl) hsmx) (fun _ => rfl) ?_; rintro x2 ⟨hx2x, ux2, hx2ok⟩
       obtain ⟨hx2a, hx2b, hx2c⟩ := hx2ok.st.ones
       have hx2d := Sl.one hx2ok.rd
       refine Wd (Qa ?_)
       refine Ao 3 rfl ?_
       refine Wc rfl rfl ent28 (fun u hu => (by have q := CanI_c c u (hu.ro (j := 5) rfl) g (hW.st hu) hnc x2 (hu.ro (j := 0) rfl); rw [hcp, hx2x, hxx, hcv2] at q; exact q)) (fun _ => rfl) ?_; rintro l2 ⟨ul2, hl2⟩
       refine Wd (Qa ?_)
       refine Ar [4,5,6,7,8] ?_
       refine Ae ?_
       refine Qc (Cs (Nz 2 ?_))
       refine Wd (Qc (CS.cond rfl ?_ ?_))<;>intro hc6<;>try simp only [bq] at hc6
       ·
        exact absurd hc6 (by simp)
       ·
        refine Ck (Qc (Cs (Nz 1 ?_)))
        refine Wd (Qc (Ce ?_))
        refine CS.sel [2, 2, 0, 2, 2, 2, 2, 2] rfl ?_
        refine CS.loopM (σ := Int) [6, 17, 18, 19, 20, 92, 93, 94, 95, 96, 97, 98, 99, 100, 101, 102, 103, 104, 105, 106, 107, 108, 109, 110, 111, 112, 113, 114, 115, 116, 117, 118, 119, 120, 121, 122, 123, 124, 125, 126, 127, 128, 129, 130, 131, 132, 133, 134] (fun s => [(16, .int .i64 s)]) (fun s => [blk b10 [x.st.ths.v, x.st.prs.v, x.st.pls.v, x.rd.v] 68, roS fun u => PosOk u x, roT cMove ⟨l2, movesX G.p X⟩, blk b7 [c.rm.pls.v, c.rm.ths.v, c.rm.prs.v, c.rm.wys.v, c.rm.acs.v, c.rm.aus.v, .int .i64 c.rm.ply, c.rm.gl.v, c.lks.v, c.cds.v, c.nts.v, .int .i64 c.tr] 36, roS fun u => GameOk u c, blk b5 [.int .i64 m.p, .int .i64 m.k, .int .i64 m.n] 91, blk b4 [p.st.ths.v, p.st.prs.v, p.st.pls.v, p.rd.v] 68, blk b3 [G.rm.pls.v, G.rm.ths.v, G.rm.prs.v, G.rm.wys.v, G.rm.acs.v, G.rm.aus.v, .int .i64 G.rm.ply, G.rm.gl.v, G.lks.v, G.cds.v, G.nts.v, .int .i64 G.tr] 36]) (fun s => 0 ≤ s ∧ s ≤ (movesX G.p X).length) (fun s => ((movesX G.p X).length - s).toNat) 0 (fun _ _ => rfl) rfl rfl ⟨by omega, by omega⟩ ?_
        intro i t hs
        obtain ⟨hi1, hi2⟩ := hs
        refine Cs (Nz 2 ?_)
        refine Wk 1 (Nc (s := ⟨l2, movesX G.p X⟩)) ?_
        refine Wd (Qc (CS.cond rfl ?_ ?_))<;>intro hc7<;>try simp only [bq] at hc7
        ·
         have hpo : possB G.p X (nth (movesX G.p X) i) = true := by
            have h9 := moves_poss (G := G) (p := x) (i := i) hi1 (by rw [hxx]; omega)
            rw [hxx] at h9
            exact h9
         refine Ck (Qc (Cs (Ce (Cs (Nz 2 ?_)))))
         refine Wk 1 (Xc (s := ⟨l2, movesX G.p X⟩)) ?_
         refine Wk 1 (det_ldRU (C := cMove) (s := ⟨l2, movesX G.p X⟩) (i := i) (jj := 2) 3 1 rfl rfl rfl ⟨by omega, by omega⟩ (by decide) rfl tk3) ?_
         refine Wd (Qc (CS.cond rfl ?_ ?_))<;>intro hc8<;>try simp only [bq] at hc8
         ·
          refine Cv (Qe (Qx (Qc (Ny 1 ?_))))
          refine Wk 1 Za ?_
          exact Wd (QS.head (i + 1) rfl rfl ⟨⟨by omega, by omega⟩, by omega⟩)
         ·
          have hk2 : (nth (movesX G.p X) i).k = 2 := by first | exact hc8 | omega
          have hRn : RunGV G.p X [(nth (movesX G.p X) i), (⟨(nth (movesX G.p X) i).p, 3, (nth (movesX G.p X) i).n⟩ : Move)] = (0, 0, X) := take_drop (x := X.1) (rd := X.2) hV hck hIX hlX hau hrx hpo hk2
          refine Ck (Qc (Nz 2 ?_))
          refine Wk 0 (Xc (s := ⟨l2, movesX G.p X⟩)) ?_
          refine Wk 0 (det_ldRN (jj := 2) (s := ⟨l2, movesX G.p X⟩) rfl rfl rfl ⟨(by omega), (by omega)⟩ rfl tk91) ?_
          refine Wl 0 zv91 (fun _ => rfl) (fun _ => rfl) fun b17 hb17 => ?_
          refine Wv 0 0 ?_
          refine Wd (Qc (Nz 1 ?_))
          refine Ws 0 0 ?_
          refine Wd (Qc ?_)
          refine CS.cut (σ := Nat × Pos) [109, 110, 111, 112, 113, 114, 115, 116, 117, 118, 119, 120, 121, 122] (fun s => [(18, .pointer (some ⟨s.1, 0, none⟩)), (19, .int .i64 0), (20, .int .i64 0)]) (fun s => [blk s.1 [s.2.st.ths.v, s.2.st.prs.v, s.2.st.pls.v, s.2.rd.v] 68, roS fun u => PosOk u s.2, blk b10 [x.st.ths.v, x.st.prs.v, x.st.pls.v, x.rd.v] 68, roS fun u => PosOk u x, roT cMove ⟨l2, movesX G.p X⟩, blk b7 [c.rm.pls.v, c.rm.ths.v, c.rm.prs.v, c.rm.wys.v, c.rm.acs.v, c.rm.aus.v, .int .i64 c.rm.ply, c.rm.gl.v, c.lks.v, c.cds.v, c.nts.v, .int .i64 c.tr] 36, roS fun u => GameOk u c, blk b5 [.int .i64 m.p, .int .i64 m.k, .int .i64 m.n] 91, blk b4 [p.st.ths.v, p.st.prs.v, p.st.pls.v, p.rd.v] 68, blk b3 [G.rm.pls.v, G.rm.ths.v, G.rm.prs.v, G.rm.wys.v, G.rm.acs.v, G.rm.aus.v, .int .i64 G.rm.ply, G.rm.gl.v, G.lks.v, G.cds.v, G.nts.v, .int .i64 G.tr] 36]) (fun s => s.2.x = X ∧ ∃ u0, PosOk u0 s.2) (fun _ _ => rfl) ?_ ?_
          ·
           refine CS.drawnAll (k := 18) mixed rfl rfl ?_
           refine Ak 0 [] rfl (by first | exact det_loadb0 (j := 4) rfl rfl tk36 | exact det_loadbN (j := 4) rfl rfl (by rfl) tk36 | exact det_loadwN rfl (by assumption) (by rfl) tk36 | exact det_loadbK (n := 12) (j := 4) rfl rfl rfl rfl tk36) ?_
           refine Ak 1 [3,4] rfl (by first | exact det_loadb0 (j := 0) rfl rfl tk68 | exact det_loadb0 (j := 1) rfl rfl tk68 | exact det_loadb0 (j := 2) rfl rfl tk68 | exact det_loadb0 (j := 3) rfl rfl tk68 | exact det_loadb0 (j := 4) rfl rfl tk68 | exact det_loadb0 (j := 5) rfl rfl tk68 | exact det_loadb0 (j := 6) rfl rfl tk68 | exact det_loadb0 (j := 7) rfl rfl tk68 | exact det_loadb0 (j := 8) rfl rfl tk68 | exact det_loadb0 (j := 9) rfl rfl tk68 | exact det_loadb0 (j := 10) rfl rfl tk68 | exact det_loadb0 (j := 11) rfl rfl tk68 | exact det_loadb0 (j := 12) rfl rfl tk68 | exact det_loadb0 (j := 13) rfl rfl tk68 | exact det_loadb0 (j := 14) rfl rfl tk68 | exact det_loadb0 (j := 15) rfl rfl tk68 | exact det_loadbN (j := 0) rfl rfl (by rfl) tk68 | exact det_loadbN (j := 1) rfl rfl (by rfl) tk68 | exact det_loadbN (j := 2) rfl rfl (by rfl) tk68 | exact det_loadbN (j := 3) rfl rfl (by rfl) tk68 | exact det_loadbN (j := 4) rfl rfl (by rfl) tk68 | exact det_loadbN (j := 5) rfl rfl (by rfl) tk68 | exact det_loadbN (j := 6) rfl rfl (by rfl) tk68 | exact det_loadbN (j := 7) rfl rfl (by rfl) tk68 | exact det_loadbN (j := 8) rfl rfl (by rfl) tk68 | exact det_loadbN (j := 9) rfl rfl (by rfl) tk68 | exact det_loadbN (j := 10) rfl rfl (by rfl) tk68 | exact det_loadbN (j := 11) rfl rfl (by rfl) tk68 | exact det_loadbN (j := 12) rfl rfl (by rfl) tk68 | exact det_loadbN (j := 13) rfl rfl (by rfl) tk68 | exact det_loadbN (j := 14) rfl rfl (by rfl) tk68 | exact det_loadbN (j := 15) rfl rfl (by rfl) tk68 | exact det_loadwN rfl (by assumption) (by rfl) tk68 | exact det_loadbK (n := 4) (j := 0) rfl rfl rfl rfl tk68 | exact det_loadbK (n := 4) (j := 1) rfl rfl rfl rfl tk68 | exact det_loadbK (n := 4) (j := 2) rfl rfl rfl rfl tk68 | exact det_loadbK (n := 4) (j := 3) rfl rfl rfl rfl tk68 | exact det_loadbK (n := 4) (j := 4) rfl rfl rfl rfl tk68 | exact det_loadbK (n := 4) (j := 5) rfl rfl rfl rfl tk68 | exact det_loadbK (n := 4) (j := 6) rfl rfl rfl rfl tk68 | exact det_loadbK (n := 4) (j := 7) rfl rfl rfl rfl tk68 | exact det_loadbK (n := 4) (j := 8) rfl rfl rfl rfl tk68 | exact det_loadbK (n := 4) (j := 9) rfl rfl rfl rfl tk68 | exact det_loadbK (n := 4) (j := 10) rfl rfl rfl rfl tk68 | exact det_loadbK (n := 4) (j := 11) rfl rfl rfl rfl tk68 | exact det_loadbK (n := 4) (j := 12) rfl rfl rfl rfl tk68 | exact det_loadbK (n := 4) (j := 13) rfl rfl rfl rfl tk68 | exact det_loadbK (n := 4) (j := 14) rfl rfl rfl rfl tk68 | exact det_loadbK (n := 4) (j := 15) rfl rfl rfl rfl tk68) ?_
           refine Ak 5 [] rfl (Xc (s := ⟨l2, movesX G.p X⟩)) ?_
           refine Ak 6 [] rfl (det_ldRN (jj := 3) (s := ⟨l2, movesX G.p X⟩) rfl rfl rfl ⟨(by omega), (by omega)⟩ rfl tk91) ?_
           refine Ak 7 [] rfl (by first | exact det_loadb0 (j := 0) rfl rfl tk91 | exact det_loadbN (j := 0) rfl rfl (by rfl) tk91 | exact det_loadwN rfl (by assumption) (by rfl) tk91 | exact det_loadbK (n := 3) (j := 0) rfl rfl rfl rfl tk91) ?_
           refine AS.three (i := 2) (j := 8) (k := 14) (by kernel_rfl) rfl rfl rfl (by first | exact fun _ h => h | exact fun _ h => h.sub (by repeat first | exact List.Sublist.refl _ | apply List.Sublist.cons_cons | apply List.Sublist.cons)) rfl rfl rfl ?_ ?_ ?_
           ·
            refine Wc rfl rfl ent29 (fun u hu => CopyPos_c x u (hu.ro (j := 2) rfl) hsmx) (fun _ => rfl) ?_; rintro x4 ⟨hx4x, ux4, hx4ok⟩
            obtain ⟨hx4a, hx4b, hx4c⟩ := hx4ok.st.ones
            have hx4d := Sl.one hx4ok.rd
            refine Wd (Qa ?_)
            refine AS.two (i := 8) (j := 14) (by kernel_rfl) rfl rfl (by first | exact fun _ h => h | exact fun _ h => h.sub (by repeat first | exact List.Sublist.refl _ | apply List.Sublist.cons_cons | apply List.Sublist.cons)) rfl rfl ?_ ?_
            ·
             refine WS.buildSliceK sl70 zv91 (rows := [cMove.cells (nth (movesX G.p X) i), cMove.cells (⟨(nth (movesX G.p X) i).p, 3, (nth (movesX G.p X) i).n⟩ : Move)]) rfl rfl (by decide) (by decide) (by simp [cMove]) (fun _ => rfl) ?_; intro v118
             refine Wd (Qa ?_)
             refine AS.two (i := 9) (j := 14) (by kernel_rfl) rfl rfl (by first | exact fun _ h => h | exact fun _ h => h.sub (by repeat first | exact List.Sublist.refl _ | apply List.Sublist.cons_cons | apply List.Sublist.cons)) rfl rfl ?_ ?_
             ·
              refine Wc rfl rfl ent40 (fun u hu => (by have q := RunI_c c u (hu.ro (j := 7) rfl) g (hW.st hu) hnc x4 (hu.ro (j := 1) rfl) ⟨v118, [(nth (movesX G.p X) i), (⟨(nth (movesX G.p X) i).p, 3, (nth (movesX G.p X) i).n⟩ : Move)]⟩ ⟨osl_SlC hu (j := 0) rfl, fun _ _ ↦ trivial⟩; rw [hcp, hx4x, hxx, hRn] at q; exact q)) (fun _ => rfl) ?_; rintro x5 ⟨hx5x, ux5, hx5ok⟩
              obtain ⟨hx5a, hx5b, hx5c⟩ := hx5ok.st.ones
              have hx5d := Sl.one hx5ok.rd
              refine Wd (Qa ?_)
              refine Ar [10,11,12,13] ?_
              refine Ao 14 rfl ?_
              refine Wl 0 zv68 (fun _ => rfl) (fun _ => rfl) fun b18 hb18 => ?_
              refine Wd (Qa ?_)
              refine Ao 15 rfl ?_
              refine Wv 0 0 ?_
              refine Wd (Qa ?_)
              refine Ar [16,17] ?_
              refine Ae ?_
              refine QS.sel [0, 0, 3, 3, 3, 3, 3, 3, 3, 3] rfl ?_
              exact QS.head ((b18, x5)) rfl rfl ⟨hx5x, ux5, hx5ok⟩
             ·
              refine Wl 0 zv68 (fun _ => rfl) (fun _ => rfl) fun b18 hb18 => ?_
              refine Wd (Qa ?_)
              refine Ao 9 rfl ?_
              refine Wc rfl rfl ent40 (fun u hu => (by have q := RunI_c c u (hu.ro (j := 8) rfl) g (hW.st hu) hnc x4 (hu.ro (j := 2) rfl) ⟨v118, [(nth (movesX G.p X) i), (⟨(nth (movesX G.p X) i).p, 3, (nth (movesX G.p X) i).n⟩ : Move)]⟩ ⟨osl_SlC hu (j := 1) rfl, fun _ _ ↦ trivial⟩; rw [hcp, hx4x, hxx, hRn] at q; exact q)) (fun _ => rfl) ?_; rintro x5 ⟨hx5x, ux5, hx5ok⟩
              obtain ⟨hx5a, hx5b, hx5c⟩ := hx5ok.st.ones
              have hx5d := Sl.one hx5ok.rd
              refine Wd (Qa ?_)
              refine Ar [10,11,12,13] ?_
              refine Ao 15 rfl ?_
              refine Wv 0 1 ?_
              refine Wd (Qa ?_)
              refine Ar [16,17] ?_
              refine Ae ?_
              refine QS.sel [1, 0, 3, 3, 3, 3, 3, 3, 3, 3] rfl ?_
              exact QS.head ((b18, x5)) rfl rfl ⟨hx5x, ux5, hx5ok⟩
            ·
             refine Wl 0 zv68 (fun _ => rfl) (fun _ => rfl) fun b18 hb18 => ?_
             refine Wd (Qa ?_)
             refine Ao 8 rfl ?_
             refine WS.buildSliceK sl70 zv91 (rows := [cMove.cells (nth (movesX G.p X) i), cMove.cells (⟨(nth (movesX G.p X) i).p, 3, (nth (movesX G.p X) i).n⟩ : Move)]) rfl rfl (by decide) (by decide) (by simp [cMove]) (fun _ => rfl) ?_; intro v118
             refine Wd (Qa ?_)
             refine Ao 9 rfl ?_
             refine Wc rfl rfl ent40 (fun u hu => (by have q := RunI_c c u (hu.ro (j := 8) rfl) g (hW.st hu) hnc x4 (hu.ro (j := 2) rfl) ⟨v118, [(nth (movesX G.p X) i), (⟨(nth (movesX G.p X) i).p, 3, (nth (movesX G.p X) i).n⟩ : Move)]⟩ ⟨osl_SlC hu (j := 0) rfl, fun _ _ ↦ trivial⟩; rw [hcp, hx4x, hxx, hRn] at q; exact q)) (fun _ => rfl) ?_; rintro x5 ⟨hx5x, ux5, hx5ok⟩
             obtain ⟨hx5a, hx5b, hx5c⟩ := hx5ok.st.ones
             have hx5d := Sl.one hx5ok.rd
             refine Wd (Qa ?_)
             refine Ar [10,11,12,13] ?_
             refine Ao 15 rfl ?_
             refine Wv 0 2 ?_
             refine Wd (Qa ?_)
             refine Ar [16,17] ?_
             refine Ae ?_
             refine QS.sel [2, 0, 3, 3, 3, 3, 3, 3, 3, 3] rfl ?_
             exact QS.head ((b18, x5)) rfl rfl ⟨hx5x, ux5, hx5ok⟩
           ·
            refine WS.buildSliceK sl70 zv91 (rows := [cMove.cells (nth (movesX G.p X) i), cMove.cells (⟨(nth (movesX G.p X) i).p, 3, (nth (movesX G.p X) i).n⟩ : Move)]) rfl rfl (by decide) (by decide) (by simp [cMove]) (fun _ => rfl) ?_; intro v118
            refine Wd (Qa ?_)
            refine AS.two (i := 2) (j := 14) (by kernel_rfl) rfl rfl (by first | exact fun _ h => h | exact fun _ h => h.sub (by repeat first | exact List.Sublist.refl _ | apply List.Sublist.cons_cons | apply List.Sublist.cons)) rfl rfl ?_ ?_
            ·
             refine Wc rfl rfl ent29 (fun u hu => CopyPos_c x u (hu.ro (j := 3) rfl) hsmx) (fun _ => rfl) ?_; rintro x4 ⟨hx4x, ux4, hx4ok⟩
             obtain ⟨hx4a, hx4b, hx4c⟩ := hx4ok.st.ones
             have hx4d := Sl.one hx4ok.rd
             refine Wd (Qa ?_)
             refine AS.two (i := 9) (j := 14) (by kernel_rfl) rfl rfl (by first | exact fun _ h => h | exact fun _ h => h.sub (by repeat first | exact List.Sublist.refl _ | apply List.Sublist.cons_cons | apply List.Sublist.cons)) rfl rfl ?_ ?_
             ·
              refine Wc rfl rfl ent40 (fun u hu => (by have q := RunI_c c u (hu.ro (j := 7) rfl) g (hW.st hu) hnc x4 (hu.ro (j := 0) rfl) ⟨v118, [(nth (movesX G.p X) i), (⟨(nth (movesX G.p X) i).p, 3, (nth (movesX G.p X) i).n⟩ : Move)]⟩ ⟨osl_SlC hu (j := 1) rfl, fun _ _ ↦ trivial⟩; rw [hcp, hx4x, hxx, hRn] at q; exact q)) (fun _ => rfl) ?_; rintro x5 ⟨hx5x, ux5, hx5ok⟩
              obtain ⟨hx5a, hx5b, hx5c⟩ := hx5ok.st.ones
              have hx5d := Sl.one hx5ok.rd
              refine Wd (Qa ?_)
              refine Ar [10,11,12,13] ?_
              refine Ao 14 rfl ?_
              refine Wl 0 zv68 (fun _ => rfl) (fun _ => rfl) fun b18 hb18 => ?_
              refine Wd (Qa ?_)
              refine Ao 15 rfl ?_
              refine Wv 0 0 ?_
              refine Wd (Qa ?_)
              refine Ar [16,17] ?_
              refine Ae ?_
              refine QS.sel [0, 0, 3, 3, 3, 3, 3, 3, 3, 3] rfl ?_
              exact QS.head ((b18, x5)) rfl rfl ⟨hx5x, ux5, hx5ok⟩
             ·
              refine Wl 0 zv68 (fun _ => rfl) (fun _ => rfl) fun b18 hb18 => ?_
              refine Wd (Qa ?_)
              refine Ao 9 rfl ?_
              refine Wc rfl rfl ent40 (fun u hu => (by have q := RunI_c c u (hu.ro (j := 8) rfl) g (hW.st hu) hnc x4 (hu.ro (j := 1) rfl) ⟨v118, [(nth (movesX G.p X) i), (⟨(nth (movesX G.p X) i).p, 3, (nth (movesX G.p X) i).n⟩ : Move)]⟩ ⟨osl_SlC hu (j := 2) rfl, fun _ _ ↦ trivial⟩; rw [hcp, hx4x, hxx, hRn] at q; exact q)) (fun _ => rfl) ?_; rintro x5 ⟨hx5x, ux5, hx5ok⟩
              obtain ⟨hx5a, hx5b, hx5c⟩ := hx5ok.st.ones
              have hx5d := Sl.one hx5ok.rd
              refine Wd (Qa ?_)
              refine Ar [10,11,12,13] ?_
              refine Ao 15 rfl ?_
              refine Wv 0 1 ?_
              refine Wd (Qa ?_)
              refine Ar [16,17] ?_
              refine Ae ?_
              refine QS.sel [1, 0, 3, 3, 3, 3, 3, 3, 3, 3] rfl ?_
              exact QS.head ((b18, x5)) rfl rfl ⟨hx5x, ux5, hx5ok⟩
            ·
             refine Wl 0 zv68 (fun _ => rfl) (fun _ => rfl) fun b18 hb18 => ?_
             refine Wd (Qa ?_)
             refine Ao 2 rfl ?_
             refine Wc rfl rfl ent29 (fun u hu => CopyPos_c x u (hu.ro (j := 4) rfl) hsmx) (fun _ => rfl) ?_; rintro x4 ⟨hx4x, ux4, hx4ok⟩
             obtain ⟨hx4a, hx4b, hx4c⟩ := hx4ok.st.ones
             have hx4d := Sl.one hx4ok.rd
             refine Wd (Qa ?_)
             refine Ao 9 rfl ?_
             refine Wc rfl rfl ent40 (fun u hu => (by have q := RunI_c c u (hu.ro (j := 8) rfl) g (hW.st hu) hnc x4 (hu.ro (j := 0) rfl) ⟨v118, [(nth (movesX G.p X) i), (⟨(nth (movesX G.p X) i).p, 3, (nth (movesX G.p X) i).n⟩ : Move)]⟩ ⟨osl_SlC hu (j := 2) rfl, fun _ _ ↦ trivial⟩; rw [hcp, hx4x, hxx, hRn] at q; exact q)) (fun _ => rfl) ?_; rintro x5 ⟨hx5x, ux5, hx5ok⟩
             obtain ⟨hx5a, hx5b, hx5c⟩ := hx5ok.st.ones
             have hx5d := Sl.one hx5ok.rd
             refine Wd (Qa ?_)
             refine Ar [10,11,12,13] ?_
             refine Ao 15 rfl ?_
             refine Wv 0 2 ?_
             refine Wd (Qa ?_)
             refine Ar [16,17] ?_
             refine Ae ?_
             refine QS.sel [2, 0, 3, 3, 3, 3, 3, 3, 3, 3] rfl ?_
             exact QS.head ((b18, x5)) rfl rfl ⟨hx5x, ux5, hx5ok⟩
           ·
            refine Wl 0 zv68 (fun _ => rfl) (fun _ => rfl) fun b18 hb18 => ?_
            refine Wd (Qa ?_)
            refine AS.two (i := 2) (j := 8) (by kernel_rfl) rfl rfl (by first | exact fun _ h => h | exact fun _ h => h.sub (by repeat first | exact List.Sublist.refl _ | apply List.Sublist.cons_cons | apply List.Sublist.cons)) rfl rfl ?_ ?_
            ·
             refine Wc rfl rfl ent29 (fun u hu => CopyPos_c x u (hu.ro (j := 3) rfl) hsmx) (fun _ => rfl) ?_; rintro x4 ⟨hx4x, ux4, hx4ok⟩
             obtain ⟨hx4a, hx4b, hx4c⟩ := hx4ok.st.ones
             have hx4d := Sl.one hx4ok.rd
             refine Wd (Qa ?_)
             refine Ao 8 rfl ?_
             refine WS.buildSliceK sl70 zv91 (rows := [cMove.cells (nth (movesX G.p X) i), cMove.cells (⟨(nth (movesX G.p X) i).p, 3, (nth (movesX G.p X) i).n⟩ : Move)]) rfl rfl (by decide) (by decide) (by simp [cMove]) (fun _ => rfl) ?_; intro v118
             refine Wd (Qa ?_)
             refine Ao 9 rfl ?_
             refine Wc rfl rfl ent40 (fun u hu => (by have q := RunI_c c u (hu.ro (j := 8) rfl) g (hW.st hu) hnc x4 (hu.ro (j := 1) rfl) ⟨v118, [(nth (movesX G.p X) i), (⟨(nth (movesX G.p X) i).p, 3, (nth (movesX G.p X) i).n⟩ : Move)]⟩ ⟨osl_SlC hu (j := 0) rfl, fun _ _ ↦ trivial⟩; rw [hcp, hx4x, hxx, hRn] at q; exact q)) (fun _ => rfl) ?_; rintro x5 ⟨hx5x, ux5, hx5ok⟩
             obtain ⟨hx5a, hx5b, hx5c⟩ := hx5ok.st.ones
             have hx5d := Sl.one hx5ok.rd
             refine Wd (Qa ?_)
             refine Ar [10,11,12,13] ?_
             refine Ao 15 rfl ?_
             refine Wv 0 3 ?_
             refine Wd (Qa ?_)
             refine Ar [16,17] ?_
             refine Ae ?_
             refine QS.sel [3, 0, 3, 3, 3, 3, 3, 3, 3, 3] rfl ?_
             exact QS.head ((b18, x5)) rfl rfl ⟨hx5x, ux5, hx5ok⟩
            ·
             refine WS.buildSliceK sl70 zv91 (rows := [cMove.cells (nth (movesX G.p X) i), cMove.cells (⟨(nth (movesX G.p X) i).p, 3, (nth (movesX G.p X) i).n⟩ : Move)]) rfl rfl (by decide) (by decide) (by simp [cMove]) (fun _ => rfl) ?_; intro v118
             refine Wd (Qa ?_)
             refine Ao 2 rfl ?_
             refine Wc rfl rfl ent29 (fun u hu => CopyPos_c x u (hu.ro (j := 4) rfl) hsmx) (fun _ => rfl) ?_; rintro x4 ⟨hx4x, ux4, hx4ok⟩
             obtain ⟨hx4a, hx4b, hx4c⟩ := hx4ok.st.ones
             have hx4d := Sl.one hx4ok.rd
             refine Wd (Qa ?_)
             refine Ao 9 rfl ?_
             refine Wc rfl rfl ent40 (fun u hu => (by have q := RunI_c c u (hu.ro (j := 8) rfl) g (hW.st hu) hnc x4 (hu.ro (j := 0) rfl) ⟨v118, [(nth (movesX G.p X) i), (⟨(nth (movesX G.p X) i).p, 3, (nth (movesX G.p X) i).n⟩ : Move)]⟩ ⟨osl_SlC hu (j := 1) rfl, fun _ _ ↦ trivial⟩; rw [hcp, hx4x, hxx, hRn] at q; exact q)) (fun _ => rfl) ?_; rintro x5 ⟨hx5x, ux5, hx5ok⟩
             obtain ⟨hx5a, hx5b, hx5c⟩ := hx5ok.st.ones
             have hx5d := Sl.one hx5ok.rd
             refine Wd (Qa ?_)
             refine Ar [10,11,12,13] ?_
             refine Ao 15 rfl ?_
             refine Wv 0 3 ?_
             refine Wd (Qa ?_)
             refine Ar [16,17] ?_
             refine Ae ?_
             refine QS.sel [3, 0, 3, 3, 3, 3, 3, 3, 3, 3] rfl ?_
             exact QS.head ((b18, x5)) rfl rfl ⟨hx5x, ux5, hx5ok⟩
          ·
           intro s t hs
           obtain ⟨b18, x5⟩ := s
           obtain ⟨hx5x, ux5, hx5ok⟩ := hs
           obtain ⟨hx5a, hx5b, hx5c⟩ := hx5ok.st.ones
           have hx5d := Sl.one hx5ok.rd
           refine Nz 3 ?_
           refine Wf 0 rfl rfl (fun hg => Fm) ?_
           refine Wf 0 rfl rfl (fun hg => Fr) ?_
           refine Wk 1 Po ?_
           refine Wf 0 rfl rfl (fun hg => by first | exact det_loadb0 (j := 0) rfl rfl tk68 | exact det_loadb0 (j := 1) rfl rfl tk68 | exact det_loadb0 (j := 2) rfl rfl tk68 | exact det_loadb0 (j := 3) rfl rfl tk68 | exact det_loadb0 (j := 4) rfl rfl tk68 | exact det_loadb0 (j := 5) rfl rfl tk68 | exact det_loadb0 (j := 6) rfl rfl tk68 | exact det_loadb0 (j := 7) rfl rfl tk68 | exact det_loadb0 (j := 8) rfl rfl tk68 | exact det_loadb0 (j := 9) rfl rfl tk68 | exact det_loadb0 (j := 10) rfl rfl tk68 | exact det_loadb0 (j := 11) rfl rfl tk68 | exact det_loadb0 (j := 12) rfl rfl tk68 | exact det_loadb0 (j := 13) rfl rfl tk68 | exact det_loadb0 (j := 14) rfl rfl tk68 | exact det_loadb0 (j := 15) rfl rfl tk68 | exact det_loadbN (j := 0) rfl rfl (by rfl) tk68 | exact det_loadbN (j := 1) rfl rfl (by rfl) tk68 | exact det_loadbN (j := 2) rfl rfl (by rfl) tk68 | exact det_loadbN (j := 3) rfl rfl (by rfl) tk68 | exact det_loadbN (j := 4) rfl rfl (by rfl) tk68 | exact det_loadbN (j := 5) rfl rfl (by rfl) tk68 | exact det_loadbN (j := 6) rfl rfl (by rfl) tk68 | exact det_loadbN (j := 7) rfl rfl (by rfl) tk68 | exact det_loadbN (j := 8) rfl rfl (by rfl) tk68 | exact det_loadbN (j := 9) rfl rfl (by rfl) tk68 | exact det_loadbN (j := 10) rfl rfl (by rfl) tk68 | exact det_loadbN (j := 11) rfl rfl (by rfl) tk68 | exact det_loadbN (j := 12) rfl rfl (by rfl) tk68 | exact det_loadbN (j := 13) rfl rfl (by rfl) tk68 | exact det_loadbN (j := 14) rfl rfl (by rfl) tk68 | exact det_loadbN (j := 15) rfl rfl (by rfl) tk68 | exact det_loadwN rfl (by assumption) (by rfl) tk68 | exact det_loadbK (n := 4) (j := 0) rfl rfl rfl rfl tk68 | exact det_loadbK (n := 4) (j := 1) rfl rfl rfl rfl tk68 | exact det_loadbK (n := 4) (j := 2) rfl rfl rfl rfl tk68 | exact det_loadbK (n := 4) (j := 3) rfl rfl rfl rfl tk68 | exact det_loadbK (n := 4) (j := 4) rfl rfl rfl rfl tk68 | exact det_loadbK (n := 4) (j := 5) rfl rfl rfl rfl tk68 | exact det_loadbK (n := 4) (j := 6) rfl rfl rfl rfl tk68 | exact det_loadbK (n := 4) (j := 7) rfl rfl rfl rfl tk68 | exact det_loadbK (n := 4) (j := 8) rfl rfl rfl rfl tk68 | exact det_loadbK (n := 4) (j := 9) rfl rfl rfl rfl tk68 | exact det_loadbK (n := 4) (j := 10) rfl rfl rfl rfl tk68 | exact det_loadbK (n := 4) (j := 11) rfl rfl rfl rfl tk68 | exact det_loadbK (n := 4) (j := 12) rfl rfl rfl rfl tk68 | exact det_loadbK (n := 4) (j := 13) rfl rfl rfl rfl tk68 | exact det_loadbK (n := 4) (j := 14) rfl rfl rfl rfl tk68 | exact det_loadbK (n := 4) (j := 15) rfl rfl rfl rfl tk68) ?_
           refine Wf 0 rfl rfl (fun hg => by first | exact det_loadb0 (j := 0) rfl rfl tk68 | exact det_loadb0 (j := 1) rfl rfl tk68 | exact det_loadb0 (j := 2) rfl rfl tk68 | exact det_loadb0 (j := 3) rfl rfl tk68 | exact det_loadb0 (j := 4) rfl rfl tk68 | exact det_loadb0 (j := 5) rfl rfl tk68 | exact det_loadb0 (j := 6) rfl rfl tk68 | exact det_loadb0 (j := 7) rfl rfl tk68 | exact det_loadb0 (j := 8) rfl rfl tk68 | exact det_loadb0 (j := 9) rfl rfl tk68 | exact det_loadb0 (j := 10) rfl rfl tk68 | exact det_loadb0 (j := 11) rfl rfl tk68 | exact det_loadb0 (j := 12) rfl rfl tk68 | exact det_loadb0 (j := 13) rfl rfl tk68 | exact det_loadb0 (j := 14) rfl rfl tk68 | exact det_loadb0 (j := 15) rfl rfl tk68 | exact det_loadbN (j := 0) rfl rfl (by rfl) tk68 | exact det_loadbN (j := 1) rfl rfl (by rfl) tk68 | exact det_loadbN (j := 2) rfl rfl (by rfl) tk68 | exact det_loadbN (j := 3) rfl rfl (by rfl) tk68 | exact det_loadbN (j := 4) rfl rfl (by rfl) tk68 | exact det_loadbN (j := 5) rfl rfl (by rfl) tk68 | exact det_loadbN (j := 6) rfl rfl (by rfl) tk68 | exact det_loadbN (j := 7) rfl rfl (by rfl) tk68 | exact det_loadbN (j := 8) rfl rfl (by rfl) tk68 | exact det_loadbN (j := 9) rfl rfl (by rfl) tk68 | exact det_loadbN (j := 10) rfl rfl (by rfl) tk68 | exact det_loadbN (j := 11) rfl rfl (by rfl) tk68 | exact det_loadbN (j := 12) rfl rfl (by rfl) tk68 | exact det_loadbN (j := 13) rfl rfl (by rfl) tk68 | exact det_loadbN (j := 14) rfl rfl (by rfl) tk68 | exact det_loadbN (j := 15) rfl rfl (by rfl) tk68 | exact det_loadwN rfl (by assumption) (by rfl) tk68 | exact det_loadbK (n := 4) (j := 0) rfl rfl rfl rfl tk68 | exact det_loadbK (n := 4) (j := 1) rfl rfl rfl rfl tk68 | exact det_loadbK (n := 4) (j := 2) rfl rfl rfl rfl tk68 | exact det_loadbK (n := 4) (j := 3) rfl rfl rfl rfl tk68 | exact det_loadbK (n := 4) (j := 4) rfl rfl rfl rfl tk68 | exact det_loadbK (n := 4) (j := 5) rfl rfl rfl rfl tk68 | exact det_loadbK (n := 4) (j := 6) rfl rfl rfl rfl tk68 | exact det_loadbK (n := 4) (j := 7) rfl rfl rfl rfl tk68 | exact det_loadbK (n := 4) (j := 8) rfl rfl rfl rfl tk68 | exact det_loadbK (n := 4) (j := 9) rfl rfl rfl rfl tk68 | exact det_loadbK (n := 4) (j := 10) rfl rfl rfl rfl tk68 | exact det_loadbK (n := 4) (j := 11) rfl rfl rfl rfl tk68 | exact det_loadbK (n := 4) (j := 12) rfl rfl rfl rfl tk68 | exact det_loadbK (n := 4) (j := 13) rfl rfl rfl rfl tk68 | exact det_loadbK (n := 4) (j := 14) rfl rfl rfl rfl tk68 | exact det_loadbK (n := 4) (j := 15) rfl rfl rfl rfl tk68) ?_
           refine Wf 0 rfl rfl (fun hg => Cb rfl (ec_ (eg_ hg rfl) (ec_ (eg_ hg rfl) en_)) ent42 (fun u hu => SamePT_c x5 x u (hu.ro (j := 1) rfl) (hu.ro (j := 3) rfl) (hx5x.trans hxx.symm))) ?_
           refine Wf 0 rfl rfl (fun hg => Fn) ?_
           refine Wk 0 Po ?_
           refine Wd (Qc (CS.cond rfl ?_ ?_))<;>intro hc9<;>try simp only [bq] at hc9
           ·
            exact absurd hc9 (by simp)
           ·
            refine Ck (Qb (Qc (Ny 1 ?_)))
            refine Wk 1 Za ?_
            refine Wd ?_
            refine QS.sel [2, 2, 2, 2, 2, 2, 2, 2] rfl ?_
            exact QS.head (i + 1) rfl rfl ⟨⟨by omega, by omega⟩, by omega⟩
        ·
         refine Cv (Qe (Qe (Qx (Qc (Nz 0 ?_)))))
         refine Wk 1 (Cb rfl rfl ent27 (fun u hu => worksG_c u g (hW.st hu))) ?_
         exact Wd (Qc (Cr (out1 rfl rfl retB)))
end Go.Proofs.YtaeagngfhceceaaGreatDoor
