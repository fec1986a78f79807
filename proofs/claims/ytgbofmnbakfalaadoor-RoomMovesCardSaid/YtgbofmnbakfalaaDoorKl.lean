/- Merged texts of this proof (walks and plain laws), printed by a program of the prover. -/
import Derived.Test.YtgbofmnbakfalaaDoorKb
import Derived.Test.YtgbofmnbakfalaaDoorKf
import Derived.Test.YtgbofmnbakfalaaDoorKe
import Derived.Test.YtgbofmnbakfalaaDoorKc
namespace Go.Proofs.YtgbofmnbakfalaaDoor
open Go.RowKit Go.Proofs
set_option maxRecDepth 100000
set_option linter.unusedVariables false
set_option linter.unusedSimpArgs false
theorem agMove : agq Tryd.prog 52 = some [(0, 0), (1, 0), (2, 0)] := by kernel_rfl
theorem agLit : agq Tryd.prog 117 = some [(0, 0), (1, 0), (2, 1)] := by kernel_rfl
theorem agPut : agq Tryd.prog 79 = some [(0, 0), (1, 0)] := by kernel_rfl
theorem agThing : agq Tryd.prog 70 = some [(0, 2), (1, 0), (2, 0), (3, 0)] := by kernel_rfl
set_option maxHeartbeats 2000000 in
theorem Far_c (r : Room) (w : World) (hr : RoomOk w r) :
  Calls Tryd.prog 12 #[.agg #[r.pls.v, r.ths.v, r.prs.v, r.wys.v, r.acs.v, r.aus.v, .int .i64 r.ply, r.gl.v]] w (RetB w (.bool (!clB (Near r)))) := by
 have kpl := hr.pls
 have lpl := hr.pls.le
 have kth := hr.ths
 have lth := hr.ths.le
 have kpr := hr.prs
 have lpr := hr.prs.le
 have kwy := hr.wys
 have lwy := hr.wys.le
 have kac := hr.acs
 have lac := hr.acs.le
 have kau := hr.aus
 have lau := hr.aus.le
 have kgl := hr.gl
 have lgl := hr.gl.le
 refine enter Tryd.func12 rfl rfl (Nat.le_of_ble_eq_true rfl) ?_
 refine N3 ?_
 refine WS.box rfl rfl (fun _ => rfl) ?_; intro b1 hb1
 refine WS.det rfl rfl rfl (det_assign rfl) rfl ?_
 refine N4 ?_
 refine CS.seq ?_
 refine N3 ?_
 refine WS.det rfl rfl rfl ((by first | exact det_fieldAddr rfl fo31_0 | exact det_fieldAddrS rfl fo31_0)) rfl ?_
 refine WS.det rfl rfl rfl ((by first | exact det_loadb (j := 0) rfl rfl rfl tk22 | exact det_loadw rfl (by assumption) rfl tk22)) rfl ?_
 refine WS.det rfl rfl rfl (det_lenU sl22 rfl (by assumption)) rfl ?_
 refine WS.det rfl rfl rfl (det_gt rfl rfl) rfl ?_
 refine WS.det rfl rfl rfl (det_move rfl) rfl ?_
 refine WS.guardF rfl rfl rfl rfl (fun hg => (by first | exact det_fieldAddr rfl fo31_1 | exact det_fieldAddrS rfl fo31_1)) rfl ?_
 refine WS.guardF rfl rfl rfl rfl (fun hg => (by first | exact det_loadb (j := 0) (ev_cond hg rfl) rfl rfl tk23 | exact det_loadw (ev_cond hg rfl) (by assumption) rfl tk23)) rfl ?_
 refine WS.guardF rfl rfl rfl rfl (fun hg => det_lenU sl23 (ev_cond hg rfl) (by assumption)) rfl ?_
 refine WS.guardF rfl rfl rfl rfl (fun hg => det_gt (ev_cond hg rfl) rfl) rfl ?_
 refine WS.det rfl rfl rfl (det_pick_or rfl rfl rfl) rfl ?_
 refine WS.det rfl rfl rfl (det_move rfl) rfl ?_
 refine WS.guardF rfl rfl rfl rfl (fun hg => (by first | exact det_fieldAddr rfl fo31_2 | exact det_fieldAddrS rfl fo31_2)) rfl ?_
 refine WS.guardF rfl rfl rfl rfl (fun hg => (by first | exact det_loadb (j := 0) (ev_cond hg rfl) rfl rfl tk24 | exact det_loadw (ev_cond hg rfl) (by assumption) rfl tk24)) rfl ?_
 refine WS.guardF rfl rfl rfl rfl (fun hg => det_lenU sl24 (ev_cond hg rfl) (by assumption)) rfl ?_
 refine WS.guardF rfl rfl rfl rfl (fun hg => det_gt (ev_cond hg rfl) rfl) rfl ?_
 refine WS.det rfl rfl rfl (det_pick_or rfl rfl rfl) rfl ?_
 refine WS.det rfl rfl rfl (det_move rfl) rfl ?_
 refine WS.guardF rfl rfl rfl rfl (fun hg => (by first | exact det_fieldAddr rfl fo31_3 | exact det_fieldAddrS rfl fo31_3)) rfl ?_
 refine WS.guardF rfl rfl rfl rfl (fun hg => (by first | exact det_loadb (j := 0) (ev_cond hg rfl) rfl rfl tk25 | exact det_loadw (ev_cond hg rfl) (by assumption) rfl tk25)) rfl ?_
 refine WS.guardF rfl rfl rfl rfl (fun hg => det_lenU sl25 (ev_cond hg rfl) (by assumption)) rfl ?_
 refine WS.guardF rfl rfl rfl rfl (fun hg => det_gt (ev_cond hg rfl) rfl) rfl ?_
 refine WS.det rfl rfl rfl (det_pick_or rfl rfl rfl) rfl ?_
 refine WS.det rfl rfl rfl (det_move rfl) rfl ?_
 refine WS.guardF rfl rfl rfl rfl (fun hg => (by first | exact det_fieldAddr rfl fo31_4 | exact det_fieldAddrS rfl fo31_4)) rfl ?_
 refine WS.guardF rfl rfl rfl rfl (fun hg => (by first | exact det_loadb (j := 0) (ev_cond hg rfl) rfl rfl tk26 | exact det_loadw (ev_cond hg rfl) (by assumption) rfl tk26)) rfl ?_
 refine WS.guardF rfl rfl rfl rfl (fun hg => det_lenU sl26 (ev_cond hg rfl) (by assumption)) rfl ?_
 refine WS.guardF rfl rfl rfl rfl (fun hg => det_gt (ev_cond hg rfl) rfl) rfl ?_
 refine WS.det rfl rfl rfl (det_pick_or rfl rfl rfl) rfl ?_
 refine WS.det rfl rfl rfl (det_move rfl) rfl ?_
 refine WS.guardF rfl rfl rfl rfl (fun hg => (by first | exact det_fieldAddr rfl fo31_5 | exact det_fieldAddrS rfl fo31_5)) rfl ?_
 refine WS.guardF rfl rfl rfl rfl (fun hg => (by first | exact det_loadb (j := 0) (ev_cond hg rfl) rfl rfl tk27 | exact det_loadw (ev_cond hg rfl) (by assumption) rfl tk27)) rfl ?_
 refine WS.guardF rfl rfl rfl rfl (fun hg => det_lenU sl27 (ev_cond hg rfl) (by assumption)) rfl ?_
 refine WS.guardF rfl rfl rfl rfl (fun hg => det_gt (ev_cond hg rfl) rfl) rfl ?_
 refine WS.det rfl rfl rfl (det_pick_or rfl rfl rfl) rfl ?_
 refine WS.det rfl rfl rfl (det_move rfl) rfl ?_
 refine WS.guardF rfl rfl rfl rfl (fun hg => (by first | exact det_fieldAddr rfl fo31_7 | exact det_fieldAddrS rfl fo31_7)) rfl ?_
 refine WS.guardF rfl rfl rfl rfl (fun hg => (by first | exact det_loadb (j := 0) (ev_cond hg rfl) rfl rfl tk29 | exact det_loadw (ev_cond hg rfl) (by assumption) rfl tk29)) rfl ?_
 refine WS.guardF rfl rfl rfl rfl (fun hg => det_lenU sl29 (ev_cond hg rfl) (by assumption)) rfl ?_
 refine WS.guardF rfl rfl rfl rfl (fun hg => det_gt (ev_cond hg rfl) rfl) rfl ?_
 refine WS.det rfl rfl rfl (det_pick_or rfl rfl rfl) rfl ?_
 refine N4 ?_
 refine CS.cond rfl (fun hc1 => ?_) (fun hc1 => ?_) <;> (try simp only [bq] at hc1)
 ·
  refine N3 ?_
  refine WS.det rfl rfl rfl (det_assign rfl) rfl ?_
  refine N4 ?_
  refine CS.ret ?_
  refine QS.then_ret ?_
  exact out1 rfl rfl (retBe (by rw [clB_f (fun h => by have := h.pls; have := h.ths; have := h.prs; have := h.wys; have := h.acs; have := h.aus; have := h.gl; omega)]; rfl))
 ·
  refine CS.skip ?_
  refine QS.then_code ?_
  refine CS.seq ?_
  refine N3 ?_
  refine WS.det rfl rfl rfl (det_assign rfl) rfl ?_
  refine N4 ?_
  refine CS.block ?_
  refine CS.loopM (σ := Int) [2, 50, 51, 52, 53, 54, 55, 56, 57, 58, 59, 60, 61, 62, 63] (fun s => [(3, .int .i64 s)]) (fun _ => _) (fun s => 0 ≤ s ∧ s ≤ r.pls.l.length ∧ ∀ j : Int, 0 ≤ j → j < s → (nth r.pls.l j).size ≤ 100) (fun s => (r.pls.l.length - s).toNat) 0 (fun _ _ => rfl) rfl rfl ⟨by omega, by omega, fun j _ _ => by omega⟩ ?_
  intro a t hs
  obtain ⟨ha1, ha2, ha3⟩ := hs
  refine CS.seq ?_
  refine N3 ?_
  refine WS.det rfl rfl rfl (det_move rfl) rfl ?_
  refine WS.det rfl rfl rfl ((by first | exact det_fieldAddr rfl fo31_0 | exact det_fieldAddrS rfl fo31_0)) rfl ?_
  refine WS.det rfl rfl rfl ((by first | exact det_loadb (j := 0) rfl rfl rfl tk22 | exact det_loadw rfl (by assumption) rfl tk22)) rfl ?_
  refine WS.det rfl rfl rfl (det_lenU sl22 rfl (by assumption)) rfl ?_
  refine WS.det rfl rfl rfl (det_lt rfl rfl) rfl ?_
  refine N4 ?_
  refine CS.cond rfl (fun hc2 => ?_) (fun hc2 => ?_) <;> (try simp only [bq] at hc2)
  ·
   refine CS.skip ?_
   refine QS.then_code ?_
   refine CS.seq ?_
   refine CS.block ?_
   refine N3 ?_
   refine WS.det rfl rfl rfl ((by first | exact det_fieldAddr rfl fo31_0 | exact det_fieldAddrS rfl fo31_0)) rfl ?_
   refine WS.det rfl rfl rfl ((by first | exact det_loadb (j := 0) rfl rfl rfl tk22 | exact det_loadw rfl (by assumption) rfl tk22)) rfl ?_
   refine WS.det rfl rfl rfl (det_move rfl) rfl ?_
   refine WS.det rfl rfl rfl (det_idxU sl22 rfl rfl (by assumption) rfl (by omega) (by omega)) rfl ?_
   refine WS.det rfl rfl rfl ((by first | exact det_ldU1 rfl (by assumption) rfl ⟨(by omega), (by omega)⟩ rfl tk9)) rfl ?_
   refine WS.det rfl rfl rfl (det_lenStr Tryd.underlying9 rfl) rfl ?_
   refine WS.det rfl rfl rfl (det_gt rfl rfl) rfl ?_
   refine N4 ?_
   refine CS.cond rfl (fun hc3 => ?_) (fun hc3 => ?_) <;> (try simp only [bq] at hc3)
   ·
    refine N3 ?_
    refine WS.det rfl rfl rfl (det_assign rfl) rfl ?_
    refine N4 ?_
    refine CS.ret ?_
    refine QS.block_ret ?_
    iterate 2 refine QS.then_ret ?_
    refine QS.block_ret ?_
    refine QS.then_ret ?_
    exact out1 rfl rfl (retBe (by rw [clB_f (fun h => by have := h.pl _ (nth_mem ha1 (by omega)); omega)]; rfl))
   ·
    refine CS.skip ?_
    refine QS.block_normal ?_
    refine QS.then_code ?_
    refine CS.region ?_
    refine WS.det rfl rfl rfl (det_move rfl) rfl ?_
    refine WS.det rfl rfl rfl (det_add rfl rfl (by omega)) rfl ?_
    refine WS.det rfl rfl rfl (det_assign rfl) rfl ?_
    refine WS.done ?_
    exact QS.head (a + 1) rfl rfl ⟨⟨by omega, by omega, fun j h0 h1 => by
       rcases (show j < a ∨ j = a by omega) with h | h
       ·
        exact ha3 j h0 h
       ·
        rw [h]; omega⟩, by omega⟩
  ·
   refine CS.leave ?_
   iterate 2 refine QS.then_exit ?_
   refine QS.block_exit ?_
   refine QS.then_code ?_
   refine CS.seq ?_
   refine N3 ?_
   refine WS.det rfl rfl rfl (det_assign rfl) rfl ?_
   refine N4 ?_
   refine CS.block ?_
   refine CS.loopM (σ := Int) [2, 64, 65, 66, 67, 68, 69, 70, 71, 72, 73, 74, 75, 76, 77, 78] (fun s => [(4, .int .i64 s)]) (fun _ => _) (fun s => 0 ≤ s ∧ s ≤ r.ths.l.length ∧ ∀ j : Int, 0 ≤ j → j < s → (nth r.ths.l j).nm.size ≤ 100) (fun s => (r.ths.l.length - s).toNat) 0 (fun _ _ => rfl) rfl rfl ⟨by omega, by omega, fun j _ _ => by omega⟩ ?_
   intro b t hs
   obtain ⟨hb1, hb2, hb3⟩ := hs
   refine CS.seq ?_
   refine N3 ?_
   refine WS.det rfl rfl rfl (det_move rfl) rfl ?_
   refine WS.det rfl rfl rfl ((by first | exact det_fieldAddr rfl fo31_1 | exact det_fieldAddrS rfl fo31_1)) rfl ?_
   refine WS.det rfl rfl rfl ((by first | exact det_loadb (j := 0) rfl rfl rfl tk23 | exact det_loadw rfl (by assumption) rfl tk23)) rfl ?_
   refine WS.det rfl rfl rfl (det_lenU sl23 rfl (by assumption)) rfl ?_
   refine WS.det rfl rfl rfl (det_lt rfl rfl) rfl ?_
   refine N4 ?_
   refine CS.cond rfl (fun hc4 => ?_) (fun hc4 => ?_) <;> (try simp only [bq] at hc4)
   ·
    refine CS.skip ?_
    refine QS.then_code ?_
    refine CS.seq ?_
    refine CS.block ?_
    refine N3 ?_
    refine WS.det rfl rfl rfl ((by first | exact det_fieldAddr rfl fo31_1 | exact det_fieldAddrS rfl fo31_1)) rfl ?_
    refine WS.det rfl rfl rfl ((by first | exact det_loadb (j := 0) rfl rfl rfl tk23 | exact det_loadw rfl (by assumption) rfl tk23)) rfl ?_
    refine WS.det rfl rfl rfl (det_move rfl) rfl ?_
    refine WS.det rfl rfl rfl (det_idxU sl23 rfl rfl (by assumption) rfl (by omega) (by omega)) rfl ?_
    refine WS.det rfl rfl rfl ((by first | exact det_fieldAddr rfl fo70_0 | exact det_fieldAddrS rfl fo70_0)) rfl ?_
    refine WS.det rfl rfl rfl ((by first | exact det_ldUc 4 0 rfl (by assumption) rfl ⟨(by omega), (by omega)⟩ (by decide) rfl tk9)) rfl ?_
    refine WS.det rfl rfl rfl (det_lenStr Tryd.underlying9 rfl) rfl ?_
    refine WS.det rfl rfl rfl (det_gt rfl rfl) rfl ?_
    refine N4 ?_
    refine CS.cond rfl (fun hc5 => ?_) (fun hc5 => ?_) <;> (try simp only [bq] at hc5)
    ·
     refine N3 ?_
     refine WS.det rfl rfl rfl (det_assign rfl) rfl ?_
     refine N4 ?_
     refine CS.ret ?_
     refine QS.block_ret ?_
     iterate 2 refine QS.then_ret ?_
     refine QS.block_ret ?_
     refine QS.then_ret ?_
     exact out1 rfl rfl (retBe (by rw [clB_f (fun h => by have := h.th _ (nth_mem hb1 (by omega)); omega)]; rfl))
    ·
     refine CS.skip ?_
     refine QS.block_normal ?_
     refine QS.then_code ?_
     refine CS.region ?_
     refine WS.det rfl rfl rfl (det_move rfl) rfl ?_
     refine WS.det rfl rfl rfl (det_add rfl rfl (by omega)) rfl ?_
     refine WS.det rfl rfl rfl (det_assign rfl) rfl ?_
     refine WS.done ?_
     exact QS.head (b + 1) rfl rfl ⟨⟨by omega, by omega, fun j h0 h1 => by
        rcases (show j < b ∨ j = b by omega) with h | h
        ·
         exact hb3 j h0 h
        ·
         rw [h]; omega⟩, by omega⟩
   ·
    refine CS.leave ?_
    iterate 2 refine QS.then_exit ?_
    refine QS.block_exit ?_
    refine QS.then_code ?_
    refine CS.seq ?_
    refine N3 ?_
    refine WS.det rfl rfl rfl (det_assign rfl) rfl ?_
    refine N4 ?_
    refine CS.block ?_
    refine CS.loopM (σ := Int) [2, 79, 80, 81, 82, 83, 84, 85, 86, 87, 88, 89, 90, 91, 92, 93, 94, 95, 96, 97, 98, 99, 100, 101, 102, 103] (fun s => [(5, .int .i64 s)]) (fun _ => _) (fun s => 0 ≤ s ∧ s ≤ r.prs.l.length ∧ ∀ j : Int, 0 ≤ j → j < s → ((nth r.prs.l j).nm.size ≤ 100 ∧ (nth r.prs.l j).wh.l.length ≤ 20)) (fun s => (r.prs.l.length - s).toNat) 0 (fun _ _ => rfl) rfl rfl ⟨by omega, by omega, fun j _ _ => by omega⟩ ?_
    intro d t hs
    obtain ⟨hd1, hd2, hd3⟩ := hs
    refine CS.seq ?_
    refine N3 ?_
    refine WS.det rfl rfl rfl (det_move rfl) rfl ?_
    refine WS.det rfl rfl rfl ((by first | exact det_fieldAddr rfl fo31_2 | exact det_fieldAddrS rfl fo31_2)) rfl ?_
    refine WS.det rfl rfl rfl ((by first | exact det_loadb (j := 0) rfl rfl rfl tk24 | exact det_loadw rfl (by assumption) rfl tk24)) rfl ?_
    refine WS.det rfl rfl rfl (det_lenU sl24 rfl (by assumption)) rfl ?_
    refine WS.det rfl rfl rfl (det_lt rfl rfl) rfl ?_
    refine N4 ?_
    refine CS.cond rfl (fun hc6 => ?_) (fun hc6 => ?_) <;> (try simp only [bq] at hc6)
    ·
     have hwh : SlT cLit w (nth r.prs.l d).wh := hr.prs.at hd1 (by omega)
     refine CS.skip ?_
     refine QS.then_code ?_
     refine CS.seq ?_
     refine CS.block ?_
     refine N3 ?_
     refine WS.det rfl rfl rfl ((by first | exact det_fieldAddr rfl fo31_2 | exact det_fieldAddrS rfl fo31_2)) rfl ?_
     refine WS.det rfl rfl rfl ((by first | exact det_loadb (j := 0) rfl rfl rfl tk24 | exact det_loadw rfl (by assumption) rfl tk24)) rfl ?_
     refine WS.det rfl rfl rfl (det_move rfl) rfl ?_
     refine WS.det rfl rfl rfl (det_idxU sl24 rfl rfl (by assumption) rfl (by omega) (by omega)) rfl ?_
     refine WS.det rfl rfl rfl ((by first | exact det_fieldAddr rfl fo72_0 | exact det_fieldAddrS rfl fo72_0)) rfl ?_
     refine WS.det rfl rfl rfl ((by first | exact det_ldUc 3 0 rfl (by assumption) rfl ⟨(by omega), (by omega)⟩ (by decide) rfl tk9)) rfl ?_
     refine WS.det rfl rfl rfl (det_lenStr Tryd.underlying9 rfl) rfl ?_
     refine WS.det rfl rfl rfl (det_gt rfl rfl) rfl ?_
     refine WS.det rfl rfl rfl (det_move rfl) rfl ?_
     refine WS.guardF rfl rfl rfl rfl (fun hg => (by first | exact det_fieldAddr rfl fo31_2 | exact det_fieldAddrS rfl fo31_2)) rfl ?_
     refine WS.guardF rfl rfl rfl rfl (fun hg => (by first | exact det_loadb (j := 0) (ev_cond hg rfl) rfl rfl tk24 | exact det_loadw (ev_cond hg rfl) (by assumption) rfl tk24)) rfl ?_
     refine WS.guardF rfl rfl rfl rfl (fun hg => det_move rfl) rfl ?_
     refine WS.guardF rfl rfl rfl rfl (fun hg => det_idxU sl24 (ev_cond hg rfl) (ev_cond hg rfl) (by assumption) rfl (by (try simp only [bq] at hg); omega) (by (try simp only [bq] at hg); omega)) rfl ?_
     refine WS.guardF rfl rfl rfl rfl (fun hg => (by first | exact det_fieldAddr (ev_cond hg rfl) fo72_2 | exact det_fieldAddrS (ev_cond hg rfl) fo72_2)) rfl ?_
     refine WS.guardF rfl rfl rfl rfl (fun hg => (by first | exact det_ldUc 3 2 (ev_cond hg rfl) (by assumption) rfl ⟨(by (try simp only [bq] at hg); omega), (by (try simp only [bq] at hg); omega)⟩ (by decide) rfl tk29)) rfl ?_
     refine WS.guardF rfl rfl rfl rfl (fun hg => det_lenU sl29 (ev_cond hg rfl) (by assumption)) rfl ?_
     refine WS.guardF rfl rfl rfl rfl (fun hg => det_gt (ev_cond hg rfl) rfl) rfl ?_
     refine WS.det rfl rfl rfl (det_pick_or rfl rfl rfl) rfl ?_
     refine N4 ?_
     refine CS.cond rfl (fun hc7 => ?_) (fun hc7 => ?_) <;> (try simp only [bq] at hc7)
     ·
      refine N3 ?_
      refine WS.det rfl rfl rfl (det_assign rfl) rfl ?_
      refine N4 ?_
      refine CS.ret ?_
      refine QS.block_ret ?_
      iterate 2 refine QS.then_ret ?_
      refine QS.block_ret ?_
      refine QS.then_ret ?_
      exact out1 rfl rfl (retBe (by rw [clB_f (fun h => by have := h.pr _ (nth_mem hd1 (by omega)); omega)]; rfl))
     ·
      refine CS.skip ?_
      refine QS.block_normal ?_
      refine QS.then_code ?_
      refine CS.region ?_
      refine WS.det rfl rfl rfl (det_move rfl) rfl ?_
      refine WS.det rfl rfl rfl (det_add rfl rfl (by omega)) rfl ?_
      refine WS.det rfl rfl rfl (det_assign rfl) rfl ?_
      refine WS.done ?_
      exact QS.head (d + 1) rfl rfl ⟨⟨by omega, by omega, fun j h0 h1 => by
         rcases (show j < d ∨ j = d by omega) with h | h
         ·
          exact hd3 j h0 h
         ·
          rw [h]; omega⟩, by omega⟩
    ·
     refine CS.leave ?_
     iterate 2 refine QS.then_exit ?_
     refine QS.block_exit ?_
     refine QS.then_code ?_
     refine CS.seq ?_
     refine N3 ?_
     refine WS.det rfl rfl rfl (det_assign rfl) rfl ?_
     refine N4 ?_
     refine CS.block ?_
     refine CS.loopM (σ := Int) [2, 104, 105, 106, 107, 108, 109, 110, 111, 112, 113, 114, 115, 116, 117, 118] (fun s => [(6, .int .i64 s)]) (fun _ => _) (fun s => 0 ≤ s ∧ s ≤ r.wys.l.length ∧ ∀ j : Int, 0 ≤ j → j < s → (nth r.wys.l j).wh.l.length ≤ 20) (fun s => (r.wys.l.length - s).toNat) 0 (fun _ _ => rfl) rfl rfl ⟨by omega, by omega, fun j _ _ => by omega⟩ ?_
     intro e t hs
     obtain ⟨he1, he2, he3⟩ := hs
     refine CS.seq ?_
     refine N3 ?_
     refine WS.det rfl rfl rfl (det_move rfl) rfl ?_
     refine WS.det rfl rfl rfl ((by first | exact det_fieldAddr rfl fo31_3 | exact det_fieldAddrS rfl fo31_3)) rfl ?_
     refine WS.det rfl rfl rfl ((by first | exact det_loadb (j := 0) rfl rfl rfl tk25 | exact det_loadw rfl (by assumption) rfl tk25)) rfl ?_
     refine WS.det rfl rfl rfl (det_lenU sl25 rfl (by assumption)) rfl ?_
     refine WS.det rfl rfl rfl (det_lt rfl rfl) rfl ?_
     refine N4 ?_
     refine CS.cond rfl (fun hc8 => ?_) (fun hc8 => ?_) <;> (try simp only [bq] at hc8)
     ·
      have hwh : SlT cLit w (nth r.wys.l e).wh := hr.wys.at he1 (by omega)
      refine CS.skip ?_
      refine QS.then_code ?_
      refine CS.seq ?_
      refine CS.block ?_
      refine N3 ?_
      refine WS.det rfl rfl rfl ((by first | exact det_fieldAddr rfl fo31_3 | exact det_fieldAddrS rfl fo31_3)) rfl ?_
      refine WS.det rfl rfl rfl ((by first | exact det_loadb (j := 0) rfl rfl rfl tk25 | exact det_loadw rfl (by assumption) rfl tk25)) rfl ?_
      refine WS.det rfl rfl rfl (det_move rfl) rfl ?_
      refine WS.det rfl rfl rfl (det_idxU sl25 rfl rfl (by assumption) rfl (by omega) (by omega)) rfl ?_
      refine WS.det rfl rfl rfl ((by first | exact det_fieldAddr rfl fo74_2 | exact det_fieldAddrS rfl fo74_2)) rfl ?_
      refine WS.det rfl rfl rfl ((by first | exact det_ldUc 3 2 rfl (by assumption) rfl ⟨(by omega), (by omega)⟩ (by decide) rfl tk29)) rfl ?_
      refine WS.det rfl rfl rfl (det_lenU sl29 rfl (by assumption)) rfl ?_
      refine WS.det rfl rfl rfl (det_gt rfl rfl) rfl ?_
      refine N4 ?_
      refine CS.cond rfl (fun hc9 => ?_) (fun hc9 => ?_) <;> (try simp only [bq] at hc9)
      ·
       refine N3 ?_
       refine WS.det rfl rfl rfl (det_assign rfl) rfl ?_
       refine N4 ?_
       refine CS.ret ?_
       refine QS.block_ret ?_
       iterate 2 refine QS.then_ret ?_
       refine QS.block_ret ?_
       refine QS.then_ret ?_
       exact out1 rfl rfl (retBe (by rw [clB_f (fun h => by have := h.wy _ (nth_mem he1 (by omega)); omega)]; rfl))
      ·
       refine CS.skip ?_
       refine QS.block_normal ?_
       refine QS.then_code ?_
       refine CS.region ?_
       refine WS.det rfl rfl rfl (det_move rfl) rfl ?_
       refine WS.det rfl rfl rfl (det_add rfl rfl (by omega)) rfl ?_
       refine WS.det rfl rfl rfl (det_assign rfl) rfl ?_
       refine WS.done ?_
       exact QS.head (e + 1) rfl rfl ⟨⟨by omega, by omega, fun j h0 h1 => by
          rcases (show j < e ∨ j = e by omega) with h | h
          ·
           exact he3 j h0 h
          ·
           rw [h]; omega⟩, by omega⟩
     ·
      refine CS.leave ?_
      iterate 2 refine QS.then_exit ?_
      refine QS.block_exit ?_
      refine QS.then_code ?_
      refine CS.seq ?_
      refine N3 ?_
      refine WS.det rfl rfl rfl (det_assign rfl) rfl ?_
      refine N4 ?_
      refine CS.block ?_
      refine CS.loopM (σ := Int) [2, 8, 119, 120, 121, 122, 123, 124, 125, 126, 127, 128, 129, 130, 131, 132, 133, 134, 135, 136, 137, 138, 139, 140, 141, 142, 143, 144, 145, 146, 147, 148, 149, 150, 151, 152, 153, 154, 155, 156, 157, 158, 159, 160, 161, 162, 163, 164] (fun s => [(7, .int .i64 s)]) (fun _ => _) (fun s => 0 ≤ s ∧ s ≤ r.acs.l.length ∧ ∀ j : Int, 0 ≤ j → j < s → ((nth r.acs.l j).nm.size ≤ 100 ∧ (nth r.acs.l j).wh.l.length ≤ 20 ∧ (nth r.acs.l j).us.l.length ≤ 20 ∧ (nth r.acs.l j).se.l.length ≤ 20 ∧ (nth r.acs.l j).sp.l.length ≤ 20 ∧ (nth r.acs.l j).br.l.length ≤ 20)) (fun s => (r.acs.l.length - s).toNat) 0 (fun _ _ => rfl) rfl rfl ⟨by omega, by omega, fun j _ _ => by omega⟩ ?_
      intro f t hs
      obtain ⟨hf1, hf2, hf3⟩ := hs
      refine CS.seq ?_
      refine N3 ?_
      refine WS.det rfl rfl rfl (det_move rfl) rfl ?_
      refine WS.det rfl rfl rfl ((by first | exact det_fieldAddr rfl fo31_4 | exact det_fieldAddrS rfl fo31_4)) rfl ?_
      refine WS.det rfl rfl rfl ((by first | exact det_loadb (j := 0) rfl rfl rfl tk26 | exact det_loadw rfl (by assumption) rfl tk26)) rfl ?_
      refine WS.det rfl rfl rfl (det_lenU sl26 rfl (by assumption)) rfl ?_
      refine WS.det rfl rfl rfl (det_lt rfl rfl) rfl ?_
      refine N4 ?_
      refine CS.cond rfl (fun hc10 => ?_) (fun hc10 => ?_) <;> (try simp only [bq] at hc10)
      ·
       have hak : ActOk w (nth r.acs.l f) := hr.acs.at hf1 (by omega)
       have a1 := hak.us.ints
       have a2 := hak.wh
       have a3 := hak.se
       have a4 := hak.sp.ints
       have a5 := hak.br.ints
       refine CS.skip ?_
       refine QS.then_code ?_
       refine CS.seq ?_
       refine CS.block ?_
       refine N3 ?_
       refine WS.det rfl rfl rfl ((by first | exact det_fieldAddr rfl fo31_4 | exact det_fieldAddrS rfl fo31_4)) rfl ?_
       refine WS.det rfl rfl rfl ((by first | exact det_loadb (j := 0) rfl rfl rfl tk26 | exact det_loadw rfl (by assumption) rfl tk26)) rfl ?_
       refine WS.det rfl rfl rfl (det_move rfl) rfl ?_
       refine WS.det rfl rfl rfl (det_idxU sl26 rfl rfl (by assumption) rfl (by omega) (by omega)) rfl ?_
       refine WS.det rfl rfl rfl ((by first | exact det_ldU rfl (by assumption) rfl ⟨(by omega), (by omega)⟩ rfl tk77)) rfl ?_
       refine WS.alloc zv77 (fun _ => rfl) ?_; intro b8 hb8
       first | refine WS.storeW (j := 0) rfl rfl rfl rfl (by first | (simp [Value.oneCell']; done) | ((repeat (refine List.forall_mem_cons.2 ⟨by first | rfl | assumption, ?_⟩)); exact fun _ h => absurd h List.not_mem_nil) | exact Cel.one _ w _ (by first | assumption | exact trivial)) tk77 rfl rfl ?_
       refine N1 ?_
       refine WS.det rfl rfl rfl ((by first | exact det_fieldAddr rfl fo77_0 | exact det_fieldAddrS rfl fo77_0)) rfl ?_
       refine WS.det rfl rfl rfl ((by first | exact det_loadb (j := 0) rfl rfl rfl tk9 | exact det_loadw rfl (by assumption) rfl tk9)) rfl ?_
       refine WS.det rfl rfl rfl (det_lenStr Tryd.underlying9 rfl) rfl ?_
       refine WS.det rfl rfl rfl (det_gt rfl rfl) rfl ?_
       refine WS.det rfl rfl rfl (det_move rfl) rfl ?_
       refine WS.guardF rfl rfl rfl rfl (fun hg => (by first | exact det_fieldAddr rfl fo77_4 | exact det_fieldAddrS rfl fo77_4)) rfl ?_
       refine WS.guardF rfl rfl rfl rfl (fun hg => (by first | exact det_loadb (j := 0) (ev_cond hg rfl) rfl rfl tk29 | exact det_loadw (ev_cond hg rfl) (by assumption) rfl tk29)) rfl ?_
       refine WS.guardF rfl rfl rfl rfl (fun hg => det_lenU sl29 (ev_cond hg rfl) (by assumption)) rfl ?_
       refine WS.guardF rfl rfl rfl rfl (fun hg => det_gt (ev_cond hg rfl) rfl) rfl ?_
       refine WS.det rfl rfl rfl (det_pick_or rfl rfl rfl) rfl ?_
       refine WS.det rfl rfl rfl (det_move rfl) rfl ?_
       refine WS.guardF rfl rfl rfl rfl (fun hg => (by first | exact det_fieldAddr rfl fo77_3 | exact det_fieldAddrS rfl fo77_3)) rfl ?_
       refine WS.guardF rfl rfl rfl rfl (fun hg => (by first | exact det_loadb (j := 0) (ev_cond hg rfl) rfl rfl tk35 | exact det_loadw (ev_cond hg rfl) (by assumption) rfl tk35)) rfl ?_
       refine WS.guardF rfl rfl rfl rfl (fun hg => (by first | exact det_lenS sl35 (ev_cond hg rfl) (by assumption) | exact det_lenS sl35 (ev_cond hg rfl) (by first | exact SlL.sp (by assumption) | exact ClS.sp (by assumption)) | exact det_lenO sl35 (ev_cond hg rfl) | exact det_lenV sl35 (ev_cond hg rfl) ⟨_, _, rfl⟩)) rfl ?_
       refine WS.guardF rfl rfl rfl rfl (fun hg => det_gt (ev_cond hg rfl) rfl) rfl ?_
       refine WS.det rfl rfl rfl (det_pick_or rfl rfl rfl) rfl ?_
       refine WS.det rfl rfl rfl (det_move rfl) rfl ?_
       refine WS.guardF rfl rfl rfl rfl (fun hg => (by first | exact det_fieldAddr rfl fo77_5 | exact det_fieldAddrS rfl fo77_5)) rfl ?_
       refine WS.guardF rfl rfl rfl rfl (fun hg => (by first | exact det_loadb (j := 0) (ev_cond hg rfl) rfl rfl tk75 | exact det_loadw (ev_cond hg rfl) (by assumption) rfl tk75)) rfl ?_
       refine WS.guardF rfl rfl rfl rfl (fun hg => det_lenU sl75 (ev_cond hg rfl) (by assumption)) rfl ?_
       refine WS.guardF rfl rfl rfl rfl (fun hg => det_gt (ev_cond hg rfl) rfl) rfl ?_
       refine WS.det rfl rfl rfl (det_pick_or rfl rfl rfl) rfl ?_
       refine WS.det rfl rfl rfl (det_move rfl) rfl ?_
       refine WS.guardF rfl rfl rfl rfl (fun hg => (by first | exact det_fieldAddr rfl fo77_6 | exact det_fieldAddrS rfl fo77_6)) rfl ?_
       refine WS.guardF rfl rfl rfl rfl (fun hg => (by first | exact det_loadb (j := 0) (ev_cond hg rfl) rfl rfl tk35 | exact det_loadw (ev_cond hg rfl) (by assumption) rfl tk35)) rfl ?_
       refine WS.guardF rfl rfl rfl rfl (fun hg => (by first | exact det_lenS sl35 (ev_cond hg rfl) (by assumption) | exact det_lenS sl35 (ev_cond hg rfl) (by first | exact SlL.sp (by assumption) | exact ClS.sp (by assumption)) | exact det_lenO sl35 (ev_cond hg rfl) | exact det_lenV sl35 (ev_cond hg rfl) ⟨_, _, rfl⟩)) rfl ?_
       refine WS.guardF rfl rfl rfl rfl (fun hg => det_gt (ev_cond hg rfl) rfl) rfl ?_
       refine WS.det rfl rfl rfl (det_pick_or rfl rfl rfl) rfl ?_
       refine WS.det rfl rfl rfl (det_move rfl) rfl ?_
       refine WS.guardF rfl rfl rfl rfl (fun hg => (by first | exact det_fieldAddr rfl fo77_7 | exact det_fieldAddrS rfl fo77_7)) rfl ?_
       refine WS.guardF rfl rfl rfl rfl (fun hg => (by first | exact det_loadb (j := 0) (ev_cond hg rfl) rfl rfl tk35 | exact det_loadw (ev_cond hg rfl) (by assumption) rfl tk35)) rfl ?_
       refine WS.guardF rfl rfl rfl rfl (fun hg => (by first | exact det_lenS sl35 (ev_cond hg rfl) (by assumption) | exact det_lenS sl35 (ev_cond hg rfl) (by first | exact SlL.sp (by assumption) | exact ClS.sp (by assumption)) | exact det_lenO sl35 (ev_cond hg rfl) | exact det_lenV sl35 (ev_cond hg rfl) ⟨_, _, rfl⟩)) rfl ?_
       refine WS.guardF rfl rfl rfl rfl (fun hg => det_gt (ev_cond hg rfl) rfl) rfl ?_
       refine WS.det rfl rfl rfl (det_pick_or rfl rfl rfl) rfl ?_
       refine N4 ?_
       refine CS.cond rfl (fun hc11 => ?_) (fun hc11 => ?_) <;> (try simp only [bq] at hc11)
       ·
        refine N3 ?_
        refine WS.det rfl rfl rfl (det_assign rfl) rfl ?_
        refine N4 ?_
        refine CS.ret ?_
        refine QS.block_ret ?_
        iterate 2 refine QS.then_ret ?_
        refine QS.block_ret ?_
        refine QS.then_ret ?_
        exact out1 rfl rfl (retBe (by rw [clB_f (fun h => by have := h.ac _ (nth_mem hf1 (by omega)); omega)]; rfl))
       ·
        refine CS.skip ?_
        refine QS.block_normal ?_
        refine QS.then_code ?_
        refine CS.region ?_
        refine WS.det rfl rfl rfl (det_move rfl) rfl ?_
        refine WS.det rfl rfl rfl (det_add rfl rfl (by omega)) rfl ?_
        refine WS.det rfl rfl rfl (det_assign rfl) rfl ?_
        refine WS.done ?_
        refine QS.sel [1] rfl ?_
        exact QS.head (f + 1) rfl rfl ⟨⟨by omega, by omega, fun j h0 h1 => by
           rcases (show j < f ∨ j = f by omega) with h | h
           ·
            exact hf3 j h0 h
           ·
            rw [h]; omega⟩, by omega⟩
      ·
       refine CS.leave ?_
       iterate 2 refine QS.then_exit ?_
       refine QS.block_exit ?_
       refine QS.then_code ?_
       refine CS.seq ?_
       refine N3 ?_
       refine WS.det rfl rfl rfl (det_assign rfl) rfl ?_
       refine N4 ?_
       refine CS.block ?_
       refine CS.loopM (σ := Int) [2, 165, 166, 167, 168, 169, 170, 171, 172, 173, 174, 175, 176, 177, 178, 179] (fun s => [(9, .int .i64 s)]) (fun _ => _) (fun s => 0 ≤ s ∧ s ≤ r.aus.l.length ∧ ∀ j : Int, 0 ≤ j → j < s → (nth r.aus.l j).wh.l.length ≤ 20) (fun s => (r.aus.l.length - s).toNat) 0 (fun _ _ => rfl) rfl rfl ⟨by omega, by omega, fun j _ _ => by omega⟩ ?_
       intro k t hs
       obtain ⟨hk1, hk2, hk3⟩ := hs
       refine CS.seq ?_
       refine N3 ?_
       refine WS.det rfl rfl rfl (det_move rfl) rfl ?_
       refine WS.det rfl rfl rfl ((by first | exact det_fieldAddr rfl fo31_5 | exact det_fieldAddrS rfl fo31_5)) rfl ?_
       refine WS.det rfl rfl rfl ((by first | exact det_loadb (j := 0) rfl rfl rfl tk27 | exact det_loadw rfl (by assumption) rfl tk27)) rfl ?_
       refine WS.det rfl rfl rfl (det_lenU sl27 rfl (by assumption)) rfl ?_
       refine WS.det rfl rfl rfl (det_lt rfl rfl) rfl ?_
       refine N4 ?_
       refine CS.cond rfl (fun hc12 => ?_) (fun hc12 => ?_) <;> (try simp only [bq] at hc12)
       ·
        have hwh : SlT cLit w (nth r.aus.l k).wh := hr.aus.at hk1 (by omega)
        refine CS.skip ?_
        refine QS.then_code ?_
        refine CS.seq ?_
        refine CS.block ?_
        refine N3 ?_
        refine WS.det rfl rfl rfl ((by first | exact det_fieldAddr rfl fo31_5 | exact det_fieldAddrS rfl fo31_5)) rfl ?_
        refine WS.det rfl rfl rfl ((by first | exact det_loadb (j := 0) rfl rfl rfl tk27 | exact det_loadw rfl (by assumption) rfl tk27)) rfl ?_
        refine WS.det rfl rfl rfl (det_move rfl) rfl ?_
        refine WS.det rfl rfl rfl (det_idxU sl27 rfl rfl (by assumption) rfl (by omega) (by omega)) rfl ?_
        refine WS.det rfl rfl rfl ((by first | exact det_fieldAddr rfl fo81_0 | exact det_fieldAddrS rfl fo81_0)) rfl ?_
        refine WS.det rfl rfl rfl ((by first | exact det_ldUc 3 0 rfl (by assumption) rfl ⟨(by omega), (by omega)⟩ (by decide) rfl tk29)) rfl ?_
        refine WS.det rfl rfl rfl (det_lenU sl29 rfl (by assumption)) rfl ?_
        refine WS.det rfl rfl rfl (det_gt rfl rfl) rfl ?_
        refine N4 ?_
        refine CS.cond rfl (fun hc13 => ?_) (fun hc13 => ?_) <;> (try simp only [bq] at hc13)
        ·
         refine N3 ?_
         refine WS.det rfl rfl rfl (det_assign rfl) rfl ?_
         refine N4 ?_
         refine CS.ret ?_
         refine QS.block_ret ?_
         iterate 2 refine QS.then_ret ?_
         refine QS.block_ret ?_
         refine QS.then_ret ?_
         exact out1 rfl rfl (retBe (by rw [clB_f (fun h => by have := h.au _ (nth_mem hk1 (by omega)); omega)]; rfl))
        ·
         refine CS.skip ?_
         refine QS.block_normal ?_
         refine QS.then_code ?_
         refine CS.region ?_
         refine WS.det rfl rfl rfl (det_move rfl) rfl ?_
         refine WS.det rfl rfl rfl (det_add rfl rfl (by omega)) rfl ?_
         refine WS.det rfl rfl rfl (det_assign rfl) rfl ?_
         refine WS.done ?_
         exact QS.head (k + 1) rfl rfl ⟨⟨by omega, by omega, fun j h0 h1 => by
            rcases (show j < k ∨ j = k by omega) with h | h
            ·
             exact hk3 j h0 h
            ·
             rw [h]; omega⟩, by omega⟩
       ·
        refine CS.leave ?_
        iterate 2 refine QS.then_exit ?_
        refine QS.block_exit ?_
        refine QS.then_code ?_
        refine N3 ?_
        refine WS.det rfl rfl rfl (det_assign rfl) rfl ?_
        refine N4 ?_
        refine CS.ret ?_
        exact out1 rfl rfl (retBe (by rw [clB_t ⟨by omega, by omega, by omega, by omega, by omega, by omega, by omega, mem_all hc2 ha3, mem_all hc4 hb3, mem_all hc6 hd3, mem_all hc8 he3, mem_all hc10 hf3, mem_all hc12 hk3⟩]; rfl))
theorem Away_c (z : Stt) (w : World) (hz : SttOk w z) :
  Calls Tryd.prog 21 #[.agg #[z.ths.v, z.prs.v, z.pls.v]] w (RetB w (.bool (!decide (z.ths.l.length ≤ 30 ∧ z.prs.l.length ≤ 30 ∧ z.pls.l.length ≤ 30)))) := by
 have zth := hz.ths.ints
 have zpr := hz.prs.ints
 have zpl := hz.pls.ints
 refine enter Tryd.func21 rfl rfl (Nat.le_of_ble_eq_true rfl) ?_
 refine N3 ?_
 refine WS.box rfl rfl (fun _ => rfl) ?_; intro b1 hb1
 refine WS.det rfl rfl rfl (det_assign rfl) rfl ?_
 refine N1 ?_
 refine WS.det rfl rfl rfl ((by first | exact det_fieldAddr rfl fo37_0 | exact det_fieldAddrS rfl fo37_0)) rfl ?_
 refine WS.det rfl rfl rfl ((by first | exact det_loadb (j := 0) rfl rfl rfl tk35 | exact det_loadw rfl (by assumption) rfl tk35)) rfl ?_
 refine WS.det rfl rfl rfl ((by first | exact det_lenS sl35 rfl (by assumption) | exact det_lenS sl35 rfl (by first | exact SlL.sp (by assumption) | exact ClS.sp (by assumption)) | exact det_lenO sl35 rfl | exact det_lenV sl35 rfl ⟨_, _, rfl⟩)) rfl ?_
 refine WS.det rfl rfl rfl (det_gt rfl rfl) rfl ?_
 refine WS.det rfl rfl rfl (det_move rfl) rfl ?_
 refine WS.guardF rfl rfl rfl rfl (fun hg => (by first | exact det_fieldAddr rfl fo37_1 | exact det_fieldAddrS rfl fo37_1)) rfl ?_
 refine WS.guardF rfl rfl rfl rfl (fun hg => (by first | exact det_loadb (j := 0) (ev_cond hg rfl) rfl rfl tk35 | exact det_loadw (ev_cond hg rfl) (by assumption) rfl tk35)) rfl ?_
 refine WS.guardF rfl rfl rfl rfl (fun hg => (by first | exact det_lenS sl35 (ev_cond hg rfl) (by assumption) | exact det_lenS sl35 (ev_cond hg rfl) (by first | exact SlL.sp (by assumption) | exact ClS.sp (by assumption)) | exact det_lenO sl35 (ev_cond hg rfl) | exact det_lenV sl35 (ev_cond hg rfl) ⟨_, _, rfl⟩)) rfl ?_
 refine WS.guardF rfl rfl rfl rfl (fun hg => det_gt (ev_cond hg rfl) rfl) rfl ?_
 refine WS.det rfl rfl rfl (det_pick_or rfl rfl rfl) rfl ?_
 refine WS.det rfl rfl rfl (det_move rfl) rfl ?_
 refine WS.guardF rfl rfl rfl rfl (fun hg => (by first | exact det_fieldAddr rfl fo37_2 | exact det_fieldAddrS rfl fo37_2)) rfl ?_
 refine WS.guardF rfl rfl rfl rfl (fun hg => (by first | exact det_loadb (j := 0) (ev_cond hg rfl) rfl rfl tk35 | exact det_loadw (ev_cond hg rfl) (by assumption) rfl tk35)) rfl ?_
 refine WS.guardF rfl rfl rfl rfl (fun hg => (by first | exact det_lenS sl35 (ev_cond hg rfl) (by assumption) | exact det_lenS sl35 (ev_cond hg rfl) (by first | exact SlL.sp (by assumption) | exact ClS.sp (by assumption)) | exact det_lenO sl35 (ev_cond hg rfl) | exact det_lenV sl35 (ev_cond hg rfl) ⟨_, _, rfl⟩)) rfl ?_
 refine WS.guardF rfl rfl rfl rfl (fun hg => det_gt (ev_cond hg rfl) rfl) rfl ?_
 refine WS.det rfl rfl rfl (det_pick_or rfl rfl rfl) rfl ?_
 refine WS.det rfl rfl rfl (det_assign rfl) rfl ?_
 refine N4 ?_
 refine CS.ret ?_
 exact out1 rfl rfl (retBe (by
    congr 1
    rw [Bool.eq_iff_iff]
    simp only [Bool.or_eq_true, decide_eq_true_eq, Bool.not_eq_true', decide_eq_false_iff_not]
    omega))
theorem movesL_c (l : Sl Move) (w : World) (hk : SlT cMove w l) (hm : (l.l.length : Int) ≤ 1000000) :
  Calls Tryd.prog 37 #[l.v] w (RetM w l.l fun v => v) := by
 have hls := hk.sp
 have hone := hk.one
 refine enter Tryd.func37 rfl rfl (Nat.le_of_ble_eq_true rfl) ?_
 refine N3 ?_
 refine WS.det rfl rfl rfl (det_assign rfl) rfl ?_
 refine N1 ?_
 refine WS.build0 sl45 zv52 (fun _ => rfl) ?_; intro v3
 refine WS.det rfl rfl rfl (det_move rfl) rfl ?_
 refine WS.append (j := 0) (xs := []) (news := flatC cMove l.l) (m := l.l.length) sl45 zv52 rfl (by decide) rfl rfl rfl (fun u hu => (hk.st hu).sp) hone (by omega) (by omega) (fun _ => rfl) (fun _ => rfl) ?_; intro v5
 refine WS.det rfl rfl rfl (det_assign rfl) rfl ?_
 refine N4 ?_
 refine CS.ret ?_
 refine QS.weak (L' := [roT cMove ⟨v5, l.l⟩]) (fun u hu => St.toRo (A := osl 52 3 v5 (0 + l.l.length) ([] ++ flatC cMove l.l)) (p := fun u => SlT cMove u ⟨v5, l.l⟩) (fun S u h => ⟨by have := ownsRow_SlC h.2; rw [Nat.zero_add] at this; exact this, fun _ _ => trivial⟩) hu) ?_
 exact out1 rfl rfl (fun u hu => retMr (f := fun v => v) (j := 0) rfl hu)
theorem SameMoves_c (a b : Sl Move) (w : World) (ha : SlT cMove w a) (hb : SlT cMove w b) :
  Calls Tryd.prog 25 #[a.v, b.v] w (RetB w (.bool (clB (a.l = b.l)))) := by
 have la := ha.le
 have lb := hb.le
 refine enter Tryd.func25 rfl rfl (Nat.le_of_ble_eq_true rfl) ?_
 refine N3 ?_
 refine WS.det rfl rfl rfl (det_assign rfl) rfl ?_
 refine N4 ?_
 refine CS.seq ?_
 refine N3 ?_
 refine WS.det rfl rfl rfl (det_move rfl) rfl ?_
 refine WS.det rfl rfl rfl (det_lenU sl45 rfl (by assumption)) rfl ?_
 refine WS.det rfl rfl rfl (det_move rfl) rfl ?_
 refine WS.det rfl rfl rfl (det_lenU sl45 rfl (by assumption)) rfl ?_
 refine WS.det rfl rfl rfl (det_ne rfl rfl) rfl ?_
 refine N4 ?_
 refine CS.cond rfl (fun hc1 => ?_) (fun hc1 => ?_) <;> (try simp only [bq] at hc1)
 ·
  refine N3 ?_
  refine WS.det rfl rfl rfl (det_assign rfl) rfl ?_
  refine N4 ?_
  refine CS.ret ?_
  refine QS.then_ret ?_
  exact out1 rfl rfl (retBe (by rw [clB_f (fun h => hc1 (by rw [h]))]))
 ·
  refine CS.skip ?_
  refine QS.then_code ?_
  refine CS.seq ?_
  refine N3 ?_
  refine WS.det rfl rfl rfl (det_assign rfl) rfl ?_
  refine N4 ?_
  refine CS.block ?_
  refine CS.loopM (σ := Int) [4, 11, 12, 13, 14, 15, 16, 17, 18, 19, 20, 21, 22, 23, 24, 25] (fun s => [(5, .int .i64 s)]) (fun _ => _) (fun s => 0 ≤ s ∧ s ≤ a.l.length ∧ ∀ j : Int, 0 ≤ j → j < s → nth a.l j = nth b.l j) (fun s => (a.l.length - s).toNat) 0 (fun _ _ => rfl) rfl rfl ⟨by omega, by omega, fun j _ _ => by omega⟩ ?_
  intro s t hs
  obtain ⟨hs1, hs2, hs3⟩ := hs
  refine CS.seq ?_
  refine N3 ?_
  refine WS.det rfl rfl rfl (det_move rfl) rfl ?_
  refine WS.det rfl rfl rfl (det_move rfl) rfl ?_
  refine WS.det rfl rfl rfl (det_lenU sl45 rfl (by assumption)) rfl ?_
  refine WS.det rfl rfl rfl (det_lt rfl rfl) rfl ?_
  refine N4 ?_
  refine CS.cond rfl (fun hc2 => ?_) (fun hc2 => ?_) <;> (try simp only [bq] at hc2)
  ·
   refine CS.skip ?_
   refine QS.then_code ?_
   refine CS.seq ?_
   refine CS.block ?_
   refine CS.seq ?_
   refine CS.draw mixed (by kernel_rfl) (by kernel_rfl) ?_
   refine DS.det rfl rfl (det_move rfl) rfl ?_
   refine DS.det rfl rfl (det_move rfl) rfl ?_
   refine DS.det rfl rfl (det_idxU sl45 rfl rfl (by assumption) rfl (by omega) (by omega)) rfl ?_
   refine DS.det rfl rfl ((by first | exact det_ldU rfl (by assumption) rfl ⟨(by omega), (by omega)⟩ rfl tk52)) rfl ?_
   refine DS.det rfl rfl (det_move rfl) rfl ?_
   refine DS.det rfl rfl (det_move rfl) rfl ?_
   refine DS.det rfl rfl (det_idxU sl45 rfl rfl (by assumption) rfl (by omega) (by omega)) rfl ?_
   refine DS.det rfl rfl ((by first | exact det_ldU rfl (by assumption) rfl ⟨(by omega), (by omega)⟩ rfl tk52)) rfl ?_
   refine DS.det rfl rfl (det_neAgg agMove rfl rfl (cmp_move (nth a.l s) (nth b.l s))) rfl ?_
   refine DS.done ?_
   refine QS.then_code ?_
   refine CS.cond rfl (fun hc3 => ?_) (fun hc3 => ?_) <;> (try simp only [bq] at hc3)
   ·
    refine N3 ?_
    refine WS.det rfl rfl rfl (det_assign rfl) rfl ?_
    refine N4 ?_
    refine CS.ret ?_
    refine QS.block_ret ?_
    iterate 2 refine QS.then_ret ?_
    refine QS.block_ret ?_
    refine QS.then_ret ?_
    exact out1 rfl rfl (retBe (by rw [clB_f (fun h => hc3 (by rw [h]))]))
   ·
    refine CS.skip ?_
    refine QS.block_normal ?_
    refine QS.then_code ?_
    refine CS.region ?_
    refine WS.det rfl rfl rfl (det_move rfl) rfl ?_
    refine WS.det rfl rfl rfl (det_add rfl rfl (by omega)) rfl ?_
    refine WS.det rfl rfl rfl (det_assign rfl) rfl ?_
    refine WS.done ?_
    exact QS.head (s + 1) rfl rfl ⟨⟨by omega, by omega, fun j h0 h1 => by
       rcases (show j < s ∨ j = s by omega) with h | h
       ·
        exact hs3 j h0 h
       ·
        rw [h]; exact hc3⟩, by omega⟩
  ·
   refine CS.leave ?_
   iterate 2 refine QS.then_exit ?_
   refine QS.block_exit ?_
   refine QS.then_code ?_
   refine N3 ?_
   refine WS.det rfl rfl rfl (det_assign rfl) rfl ?_
   refine N4 ?_
   refine CS.ret ?_
   exact out1 rfl rfl (retBe (by rw [clB_t (eq_nth hc2 (by omega) hs3)]))
theorem sameCond_c (a b : Sl Lit) (w : World) (ha : SlT cLit w a) (hb : SlT cLit w b) :
  Calls Tryd.prog 65 #[a.v, b.v] w (RetB w (.bool (clB (a.l = b.l)))) := by
 have la := ha.le
 have lb := hb.le
 refine enter Tryd.func65 rfl rfl (Nat.le_of_ble_eq_true rfl) ?_
 refine N3 ?_
 refine WS.det rfl rfl rfl (det_assign rfl) rfl ?_
 refine N4 ?_
 refine CS.seq ?_
 refine N3 ?_
 refine WS.det rfl rfl rfl (det_move rfl) rfl ?_
 refine WS.det rfl rfl rfl (det_lenU sl29 rfl (by assumption)) rfl ?_
 refine WS.det rfl rfl rfl (det_move rfl) rfl ?_
 refine WS.det rfl rfl rfl (det_lenU sl29 rfl (by assumption)) rfl ?_
 refine WS.det rfl rfl rfl (det_ne rfl rfl) rfl ?_
 refine N4 ?_
 refine CS.cond rfl (fun hc1 => ?_) (fun hc1 => ?_) <;> (try simp only [bq] at hc1)
 ·
  refine N3 ?_
  refine WS.det rfl rfl rfl (det_assign rfl) rfl ?_
  refine N4 ?_
  refine CS.ret ?_
  refine QS.then_ret ?_
  exact out1 rfl rfl (retBe (by rw [clB_f (fun h => hc1 (by rw [h]))]))
 ·
  refine CS.skip ?_
  refine QS.then_code ?_
  refine CS.seq ?_
  refine N3 ?_
  refine WS.det rfl rfl rfl (det_assign rfl) rfl ?_
  refine N4 ?_
  refine CS.block ?_
  refine CS.loopM (σ := Int) [4, 11, 12, 13, 14, 15, 16, 17, 18, 19, 20, 21, 22, 23, 24, 25] (fun s => [(5, .int .i64 s)]) (fun _ => _) (fun s => 0 ≤ s ∧ s ≤ a.l.length ∧ ∀ j : Int, 0 ≤ j → j < s → nth a.l j = nth b.l j) (fun s => (a.l.length - s).toNat) 0 (fun _ _ => rfl) rfl rfl ⟨by omega, by omega, fun j _ _ => by omega⟩ ?_
  intro s t hs
  obtain ⟨hs1, hs2, hs3⟩ := hs
  refine CS.seq ?_
  refine N3 ?_
  refine WS.det rfl rfl rfl (det_move rfl) rfl ?_
  refine WS.det rfl rfl rfl (det_move rfl) rfl ?_
  refine WS.det rfl rfl rfl (det_lenU sl29 rfl (by assumption)) rfl ?_
  refine WS.det rfl rfl rfl (det_lt rfl rfl) rfl ?_
  refine N4 ?_
  refine CS.cond rfl (fun hc2 => ?_) (fun hc2 => ?_) <;> (try simp only [bq] at hc2)
  ·
   refine CS.skip ?_
   refine QS.then_code ?_
   refine CS.seq ?_
   refine CS.block ?_
   refine CS.seq ?_
   refine CS.draw mixed (by kernel_rfl) (by kernel_rfl) ?_
   refine DS.det rfl rfl (det_move rfl) rfl ?_
   refine DS.det rfl rfl (det_move rfl) rfl ?_
   refine DS.det rfl rfl (det_idxU sl29 rfl rfl (by assumption) rfl (by omega) (by omega)) rfl ?_
   refine DS.det rfl rfl ((by first | exact det_ldU rfl (by assumption) rfl ⟨(by omega), (by omega)⟩ rfl tk117)) rfl ?_
   refine DS.det rfl rfl (det_move rfl) rfl ?_
   refine DS.det rfl rfl (det_move rfl) rfl ?_
   refine DS.det rfl rfl (det_idxU sl29 rfl rfl (by assumption) rfl (by omega) (by omega)) rfl ?_
   refine DS.det rfl rfl ((by first | exact det_ldU rfl (by assumption) rfl ⟨(by omega), (by omega)⟩ rfl tk117)) rfl ?_
   refine DS.det rfl rfl (det_neAgg agLit rfl rfl (cmp_lit (nth a.l s) (nth b.l s))) rfl ?_
   refine DS.done ?_
   refine QS.then_code ?_
   refine CS.cond rfl (fun hc3 => ?_) (fun hc3 => ?_) <;> (try simp only [bq] at hc3)
   ·
    refine N3 ?_
    refine WS.det rfl rfl rfl (det_assign rfl) rfl ?_
    refine N4 ?_
    refine CS.ret ?_
    refine QS.block_ret ?_
    iterate 2 refine QS.then_ret ?_
    refine QS.block_ret ?_
    refine QS.then_ret ?_
    exact out1 rfl rfl (retBe (by rw [clB_f (fun h => hc3 (by rw [h]))]))
   ·
    refine CS.skip ?_
    refine QS.block_normal ?_
    refine QS.then_code ?_
    refine CS.region ?_
    refine WS.det rfl rfl rfl (det_move rfl) rfl ?_
    refine WS.det rfl rfl rfl (det_add rfl rfl (by omega)) rfl ?_
    refine WS.det rfl rfl rfl (det_assign rfl) rfl ?_
    refine WS.done ?_
    exact QS.head (s + 1) rfl rfl ⟨⟨by omega, by omega, fun j h0 h1 => by
       rcases (show j < s ∨ j = s by omega) with h | h
       ·
        exact hs3 j h0 h
       ·
        rw [h]; exact hc3⟩, by omega⟩
  ·
   refine CS.leave ?_
   iterate 2 refine QS.then_exit ?_
   refine QS.block_exit ?_
   refine QS.then_code ?_
   refine N3 ?_
   refine WS.det rfl rfl rfl (det_assign rfl) rfl ?_
   refine N4 ?_
   refine CS.ret ?_
   exact out1 rfl rfl (retBe (by rw [clB_t (eq_nth hc2 (by omega) hs3)]))
set_option maxHeartbeats 1000000 in
theorem sameAct_c (a b : Actn) (w : World) (ha : ActOk w a) (hb : ActOk w b) :
  Calls Tryd.prog 66 #[.agg #[.string a.nm, .int .i64 a.pl, .int .i64 a.lk, a.us.v, a.wh.v, a.se.v, a.sp.v, a.br.v], .agg #[.string b.nm, .int .i64 b.pl, .int .i64 b.lk, b.us.v, b.wh.v, b.se.v, b.sp.v, b.br.v]] w (RetB w (.bool (clB (a.e = b.e)))) := by
 have aus := ha.us
 have awh := ha.wh
 have ase := ha.se
 have asp := ha.sp
 have abr := ha.br
 have bus := hb.us
 have bwh := hb.wh
 have bse := hb.se
 have bsp := hb.sp
 have bbr := hb.br
 have la := ase.le
 have lb := bse.le
 refine enter Tryd.func66 rfl rfl (Nat.le_of_ble_eq_true rfl) ?_
 refine N3 ?_
 refine WS.box rfl rfl (fun _ => rfl) ?_; intro b2 hb2
 refine WS.box rfl rfl (fun _ => rfl) ?_; intro b3 hb3
 refine WS.det rfl rfl rfl (det_assign rfl) rfl ?_
 refine N4 ?_
 refine CS.seq ?_
 refine N3 ?_
 refine WS.det rfl rfl rfl ((by first | exact det_fieldAddr rfl fo77_5 | exact det_fieldAddrS rfl fo77_5)) rfl ?_
 refine WS.det rfl rfl rfl ((by first | exact det_loadb (j := 1) rfl rfl rfl tk75 | exact det_loadw rfl (by assumption) rfl tk75)) rfl ?_
 refine WS.det rfl rfl rfl (det_lenU sl75 rfl (by assumption)) rfl ?_
 refine WS.det rfl rfl rfl ((by first | exact det_fieldAddr rfl fo77_5 | exact det_fieldAddrS rfl fo77_5)) rfl ?_
 refine WS.det rfl rfl rfl ((by first | exact det_loadb (j := 0) rfl rfl rfl tk75 | exact det_loadw rfl (by assumption) rfl tk75)) rfl ?_
 refine WS.det rfl rfl rfl (det_lenU sl75 rfl (by assumption)) rfl ?_
 refine WS.det rfl rfl rfl (det_ne rfl rfl) rfl ?_
 refine N4 ?_
 refine CS.cond rfl (fun hc1 => ?_) (fun hc1 => ?_) <;> (try simp only [bq] at hc1)
 ·
  refine N3 ?_
  refine WS.det rfl rfl rfl (det_assign rfl) rfl ?_
  refine N4 ?_
  refine CS.ret ?_
  refine QS.then_ret ?_
  exact out1 rfl rfl (retBe (by rw [clB_f (fun h => hc1 (by rw [(alikeA h).se]))]))
 ·
  refine CS.skip ?_
  refine QS.then_code ?_
  refine CS.seq ?_
  refine N3 ?_
  refine WS.det rfl rfl rfl (det_assign rfl) rfl ?_
  refine N4 ?_
  refine CS.block ?_
  refine CS.loopM (σ := Int) [4, 13, 14, 15, 16, 17, 18, 19, 20, 21, 22, 23, 24, 25, 26, 27, 28, 29, 30] (fun s => [(5, .int .i64 s)]) (fun _ => _) (fun s => 0 ≤ s ∧ s ≤ a.se.l.length ∧ ∀ j : Int, 0 ≤ j → j < s → nth a.se.l j = nth b.se.l j) (fun s => (a.se.l.length - s).toNat) 0 (fun _ _ => rfl) rfl rfl ⟨by omega, by omega, fun j _ _ => by omega⟩ ?_
  intro s t hs
  obtain ⟨hs1, hs2, hs3⟩ := hs
  refine CS.seq ?_
  refine N3 ?_
  refine WS.det rfl rfl rfl (det_move rfl) rfl ?_
  refine WS.det rfl rfl rfl ((by first | exact det_fieldAddr rfl fo77_5 | exact det_fieldAddrS rfl fo77_5)) rfl ?_
  refine WS.det rfl rfl rfl ((by first | exact det_loadb (j := 1) rfl rfl rfl tk75 | exact det_loadw rfl (by assumption) rfl tk75)) rfl ?_
  refine WS.det rfl rfl rfl (det_lenU sl75 rfl (by assumption)) rfl ?_
  refine WS.det rfl rfl rfl (det_lt rfl rfl) rfl ?_
  refine N4 ?_
  refine CS.cond rfl (fun hc2 => ?_) (fun hc2 => ?_) <;> (try simp only [bq] at hc2)
  ·
   refine CS.skip ?_
   refine QS.then_code ?_
   refine CS.seq ?_
   refine CS.block ?_
   refine CS.seq ?_
   refine CS.draw mixed (by kernel_rfl) (by kernel_rfl) ?_
   refine DS.det rfl rfl ((by first | exact det_fieldAddr rfl fo77_5 | exact det_fieldAddrS rfl fo77_5)) rfl ?_
   refine DS.det rfl rfl ((by first | exact det_loadb (j := 1) rfl rfl rfl tk75 | exact det_loadw rfl (by assumption) rfl tk75)) rfl ?_
   refine DS.det rfl rfl (det_move rfl) rfl ?_
   refine DS.det rfl rfl (det_idxU sl75 rfl rfl (by assumption) rfl (by omega) (by omega)) rfl ?_
   refine DS.det rfl rfl ((by first | exact det_ldU rfl (by assumption) rfl ⟨(by omega), (by omega)⟩ rfl tk79)) rfl ?_
   refine DS.det rfl rfl ((by first | exact det_fieldAddr rfl fo77_5 | exact det_fieldAddrS rfl fo77_5)) rfl ?_
   refine DS.det rfl rfl ((by first | exact det_loadb (j := 0) rfl rfl rfl tk75 | exact det_loadw rfl (by assumption) rfl tk75)) rfl ?_
   refine DS.det rfl rfl (det_move rfl) rfl ?_
   refine DS.det rfl rfl (det_idxU sl75 rfl rfl (by assumption) rfl (by omega) (by omega)) rfl ?_
   refine DS.det rfl rfl ((by first | exact det_ldU rfl (by assumption) rfl ⟨(by omega), (by omega)⟩ rfl tk79)) rfl ?_
   refine DS.det rfl rfl (det_neAgg agPut rfl rfl (cmp_put (nth a.se.l s) (nth b.se.l s))) rfl ?_
   refine DS.done ?_
   refine QS.then_code ?_
   refine CS.cond rfl (fun hc3 => ?_) (fun hc3 => ?_) <;> (try simp only [bq] at hc3)
   ·
    refine N3 ?_
    refine WS.det rfl rfl rfl (det_assign rfl) rfl ?_
    refine N4 ?_
    refine CS.ret ?_
    refine QS.block_ret ?_
    iterate 2 refine QS.then_ret ?_
    refine QS.block_ret ?_
    refine QS.then_ret ?_
    exact out1 rfl rfl (retBe (by rw [clB_f (fun h => hc3 (by rw [(alikeA h).se]))]))
   ·
    refine CS.skip ?_
    refine QS.block_normal ?_
    refine QS.then_code ?_
    refine CS.region ?_
    refine WS.det rfl rfl rfl (det_move rfl) rfl ?_
    refine WS.det rfl rfl rfl (det_add rfl rfl (by omega)) rfl ?_
    refine WS.det rfl rfl rfl (det_assign rfl) rfl ?_
    refine WS.done ?_
    exact QS.head (s + 1) rfl rfl ⟨⟨by omega, by omega, fun j h0 h1 => by
       rcases (show j < s ∨ j = s by omega) with h | h
       ·
        exact hs3 j h0 h
       ·
        rw [h]; exact hc3⟩, by omega⟩
  ·
   refine CS.leave ?_
   iterate 2 refine QS.then_exit ?_
   refine QS.block_exit ?_
   refine QS.then_code ?_
   refine N3 ?_
   refine WS.det rfl rfl rfl ((by first | exact det_fieldAddr rfl fo77_0 | exact det_fieldAddrS rfl fo77_0)) rfl ?_
   refine WS.det rfl rfl rfl ((by first | exact det_loadb (j := 1) rfl rfl rfl tk9 | exact det_loadw rfl (by assumption) rfl tk9)) rfl ?_
   refine WS.det rfl rfl rfl ((by first | exact det_fieldAddr rfl fo77_0 | exact det_fieldAddrS rfl fo77_0)) rfl ?_
   refine WS.det rfl rfl rfl ((by first | exact det_loadb (j := 0) rfl rfl rfl tk9 | exact det_loadw rfl (by assumption) rfl tk9)) rfl ?_
   refine WS.det rfl rfl rfl (det_eqStr rfl rfl) rfl ?_
   refine WS.det rfl rfl rfl (det_move rfl) rfl ?_
   refine WS.guardT rfl rfl rfl rfl (fun hg => (by first | exact det_fieldAddr rfl fo77_1 | exact det_fieldAddrS rfl fo77_1)) rfl ?_
   refine WS.guardT rfl rfl rfl rfl (fun hg => (by first | exact det_loadb (j := 1) (ev_cond hg rfl) rfl rfl tk3 | exact det_loadw (ev_cond hg rfl) (by assumption) rfl tk3)) rfl ?_
   refine WS.guardT rfl rfl rfl rfl (fun hg => (by first | exact det_fieldAddr rfl fo77_1 | exact det_fieldAddrS rfl fo77_1)) rfl ?_
   refine WS.guardT rfl rfl rfl rfl (fun hg => (by first | exact det_loadb (j := 0) (ev_cond hg rfl) rfl rfl tk3 | exact det_loadw (ev_cond hg rfl) (by assumption) rfl tk3)) rfl ?_
   refine WS.guardT rfl rfl rfl rfl (fun hg => det_eq (ev_cond hg rfl) (ev_cond hg rfl)) rfl ?_
   refine WS.det rfl rfl rfl (det_pick_and rfl rfl rfl) rfl ?_
   refine WS.det rfl rfl rfl (det_move rfl) rfl ?_
   refine WS.guardT rfl rfl rfl rfl (fun hg => (by first | exact det_fieldAddr rfl fo77_2 | exact det_fieldAddrS rfl fo77_2)) rfl ?_
   refine WS.guardT rfl rfl rfl rfl (fun hg => (by first | exact det_loadb (j := 1) (ev_cond hg rfl) rfl rfl tk3 | exact det_loadw (ev_cond hg rfl) (by assumption) rfl tk3)) rfl ?_
   refine WS.guardT rfl rfl rfl rfl (fun hg => (by first | exact det_fieldAddr rfl fo77_2 | exact det_fieldAddrS rfl fo77_2)) rfl ?_
   refine WS.guardT rfl rfl rfl rfl (fun hg => (by first | exact det_loadb (j := 0) (ev_cond hg rfl) rfl rfl tk3 | exact det_loadw (ev_cond hg rfl) (by assumption) rfl tk3)) rfl ?_
   refine WS.guardT rfl rfl rfl rfl (fun hg => det_eq (ev_cond hg rfl) (ev_cond hg rfl)) rfl ?_
   refine WS.det rfl rfl rfl (det_pick_and rfl rfl rfl) rfl ?_
   refine WS.det rfl rfl rfl (det_move rfl) rfl ?_
   refine WS.guardT rfl rfl rfl rfl (fun hg => (by first | exact det_fieldAddr rfl fo77_3 | exact det_fieldAddrS rfl fo77_3)) rfl ?_
   refine WS.guardT rfl rfl rfl rfl (fun hg => (by first | exact det_loadb (j := 1) (ev_cond hg rfl) rfl rfl tk35 | exact det_loadw (ev_cond hg rfl) (by assumption) rfl tk35)) rfl ?_
   refine WS.guardT rfl rfl rfl rfl (fun hg => (by first | exact det_fieldAddr rfl fo77_3 | exact det_fieldAddrS rfl fo77_3)) rfl ?_
   refine WS.guardT rfl rfl rfl rfl (fun hg => (by first | exact det_loadb (j := 0) (ev_cond hg rfl) rfl rfl tk35 | exact det_loadw (ev_cond hg rfl) (by assumption) rfl tk35)) rfl ?_
   refine WS.guardT rfl rfl rfl rfl (fun hg => det_callB rfl (evs_cons (ev_cond hg rfl) (evs_cons (ev_cond hg rfl) evs_nil)) ent41 (fun u hu => SameInts_c _ _ _ _ u (aus.st hu).ints (bus.st hu).ints)) rfl ?_
   refine WS.det rfl rfl rfl (det_pick_and rfl rfl rfl) rfl ?_
   refine WS.det rfl rfl rfl (det_move rfl) rfl ?_
   refine WS.guardT rfl rfl rfl rfl (fun hg => (by first | exact det_fieldAddr rfl fo77_4 | exact det_fieldAddrS rfl fo77_4)) rfl ?_
   refine WS.guardT rfl rfl rfl rfl (fun hg => (by first | exact det_loadb (j := 1) (ev_cond hg rfl) rfl rfl tk29 | exact det_loadw (ev_cond hg rfl) (by assumption) rfl tk29)) rfl ?_
   refine WS.guardT rfl rfl rfl rfl (fun hg => (by first | exact det_fieldAddr rfl fo77_4 | exact det_fieldAddrS rfl fo77_4)) rfl ?_
   refine WS.guardT rfl rfl rfl rfl (fun hg => (by first | exact det_loadb (j := 0) (ev_cond hg rfl) rfl rfl tk29 | exact det_loadw (ev_cond hg rfl) (by assumption) rfl tk29)) rfl ?_
   refine WS.guardT rfl rfl rfl rfl (fun hg => det_callB rfl (evs_cons (ev_cond hg rfl) (evs_cons (ev_cond hg rfl) evs_nil)) ent65 (fun u hu => sameCond_c _ _ u (awh.st hu) (bwh.st hu))) rfl ?_
   refine WS.det rfl rfl rfl (det_pick_and rfl rfl rfl) rfl ?_
   refine WS.det rfl rfl rfl (det_move rfl) rfl ?_
   refine WS.guardT rfl rfl rfl rfl (fun hg => (by first | exact det_fieldAddr rfl fo77_6 | exact det_fieldAddrS rfl fo77_6)) rfl ?_
   refine WS.guardT rfl rfl rfl rfl (fun hg => (by first | exact det_loadb (j := 1) (ev_cond hg rfl) rfl rfl tk35 | exact det_loadw (ev_cond hg rfl) (by assumption) rfl tk35)) rfl ?_
   refine WS.guardT rfl rfl rfl rfl (fun hg => (by first | exact det_fieldAddr rfl fo77_6 | exact det_fieldAddrS rfl fo77_6)) rfl ?_
   refine WS.guardT rfl rfl rfl rfl (fun hg => (by first | exact det_loadb (j := 0) (ev_cond hg rfl) rfl rfl tk35 | exact det_loadw (ev_cond hg rfl) (by assumption) rfl tk35)) rfl ?_
   refine WS.guardT rfl rfl rfl rfl (fun hg => det_callB rfl (evs_cons (ev_cond hg rfl) (evs_cons (ev_cond hg rfl) evs_nil)) ent41 (fun u hu => SameInts_c _ _ _ _ u (asp.st hu).ints (bsp.st hu).ints)) rfl ?_
   refine WS.det rfl rfl rfl (det_pick_and rfl rfl rfl) rfl ?_
   refine WS.det rfl rfl rfl (det_move rfl) rfl ?_
   refine WS.guardT rfl rfl rfl rfl (fun hg => (by first | exact det_fieldAddr rfl fo77_7 | exact det_fieldAddrS rfl fo77_7)) rfl ?_
   refine WS.guardT rfl rfl rfl rfl (fun hg => (by first | exact det_loadb (j := 1) (ev_cond hg rfl) rfl rfl tk35 | exact det_loadw (ev_cond hg rfl) (by assumption) rfl tk35)) rfl ?_
   refine WS.guardT rfl rfl rfl rfl (fun hg => (by first | exact det_fieldAddr rfl fo77_7 | exact det_fieldAddrS rfl fo77_7)) rfl ?_
   refine WS.guardT rfl rfl rfl rfl (fun hg => (by first | exact det_loadb (j := 0) (ev_cond hg rfl) rfl rfl tk35 | exact det_loadw (ev_cond hg rfl) (by assumption) rfl tk35)) rfl ?_
   refine WS.guardT rfl rfl rfl rfl (fun hg => det_callB rfl (evs_cons (ev_cond hg rfl) (evs_cons (ev_cond hg rfl) evs_nil)) ent41 (fun u hu => SameInts_c _ _ _ _ u (abr.st hu).ints (bbr.st hu).ints)) rfl ?_
   refine WS.det rfl rfl rfl (det_pick_and rfl rfl rfl) rfl ?_
   refine WS.det rfl rfl rfl (det_assign rfl) rfl ?_
   refine N4 ?_
   refine CS.ret ?_
   exact out1 rfl rfl (retBe (by
      have hse := eq_nth hc2 (by omega) hs3
      by_cases h : a.e = b.e
      ·
       have q := alikeA h
       rw [clB_t h, q.nm, q.pl, q.lk, q.us, q.wh, q.sp, q.br, seq_self, clB_t rfl]; simp
      ·
       rw [clB_f h]
       symm
       cases hq : ((((((seq a.nm b.nm && decide (a.pl = b.pl)) && decide (a.lk = b.lk)) && decide (a.us.l = b.us.l)) && clB (a.wh.l = b.wh.l)) && decide (a.sp.l = b.sp.l)) && decide (a.br.l = b.br.l)) with
       | false => rfl
       | true =>
        simp only [Bool.and_eq_true, decide_eq_true_eq, clB_iff, seq_iff] at hq
        exact (h (act_e ⟨hq.1.1.1.1.1.1, hq.1.1.1.1.1.2, hq.1.1.1.1.2, hq.1.1.1.2, hq.1.1.2, hse, hq.1.2, hq.2⟩)).elim))
set_option maxHeartbeats 2000000 in
theorem RSame_c (a b : Room) (w : World) (ha : RoomOk w a) (hb : RoomOk w b) :
  Calls Tryd.prog 20 #[.agg #[a.pls.v, a.ths.v, a.prs.v, a.wys.v, a.acs.v, a.aus.v, .int .i64 a.ply, a.gl.v], .agg #[b.pls.v, b.ths.v, b.prs.v, b.wys.v, b.acs.v, b.aus.v, .int .i64 b.ply, b.gl.v]] w (RetB w (.bool (clB (a.e = b.e)))) := by
 have apls := ha.pls
 have alpls := ha.pls.le
 have aths := ha.ths
 have alths := ha.ths.le
 have aprs := ha.prs
 have alprs := ha.prs.le
 have awys := ha.wys
 have alwys := ha.wys.le
 have aacs := ha.acs
 have alacs := ha.acs.le
 have aaus := ha.aus
 have alaus := ha.aus.le
 have agl := ha.gl
 have algl := ha.gl.le
 have bpls := hb.pls
 have blpls := hb.pls.le
 have bths := hb.ths
 have blths := hb.ths.le
 have bprs := hb.prs
 have blprs := hb.prs.le
 have bwys := hb.wys
 have blwys := hb.wys.le
 have bacs := hb.acs
 have blacs := hb.acs.le
 have baus := hb.aus
 have blaus := hb.aus.le
 have bgl := hb.gl
 have blgl := hb.gl.le
 refine enter Tryd.func20 rfl rfl (Nat.le_of_ble_eq_true rfl) ?_
 refine N3 ?_
 refine WS.box rfl rfl (fun _ => rfl) ?_; intro b2 hb2
 refine WS.box rfl rfl (fun _ => rfl) ?_; intro b3 hb3
 refine WS.det rfl rfl rfl (det_assign rfl) rfl ?_
 refine N4 ?_
 refine CS.seq ?_
 refine N3 ?_
 refine WS.det rfl rfl rfl ((by first | exact det_fieldAddr rfl fo31_0 | exact det_fieldAddrS rfl fo31_0)) rfl ?_
 refine WS.det rfl rfl rfl ((by first | exact det_loadb (j := 1) rfl rfl rfl tk22 | exact det_loadw rfl (by assumption) rfl tk22)) rfl ?_
 refine WS.det rfl rfl rfl (det_lenU sl22 rfl (by assumption)) rfl ?_
 refine WS.det rfl rfl rfl ((by first | exact det_fieldAddr rfl fo31_0 | exact det_fieldAddrS rfl fo31_0)) rfl ?_
 refine WS.det rfl rfl rfl ((by first | exact det_loadb (j := 0) rfl rfl rfl tk22 | exact det_loadw rfl (by assumption) rfl tk22)) rfl ?_
 refine WS.det rfl rfl rfl (det_lenU sl22 rfl (by assumption)) rfl ?_
 refine WS.det rfl rfl rfl (det_ne rfl rfl) rfl ?_
 refine WS.det rfl rfl rfl (det_move rfl) rfl ?_
 refine WS.guardF rfl rfl rfl rfl (fun hg => (by first | exact det_fieldAddr rfl fo31_1 | exact det_fieldAddrS rfl fo31_1)) rfl ?_
 refine WS.guardF rfl rfl rfl rfl (fun hg => (by first | exact det_loadb (j := 1) (ev_cond hg rfl) rfl rfl tk23 | exact det_loadw (ev_cond hg rfl) (by assumption) rfl tk23)) rfl ?_
 refine WS.guardF rfl rfl rfl rfl (fun hg => det_lenU sl23 (ev_cond hg rfl) (by assumption)) rfl ?_
 refine WS.guardF rfl rfl rfl rfl (fun hg => (by first | exact det_fieldAddr rfl fo31_1 | exact det_fieldAddrS rfl fo31_1)) rfl ?_
 refine WS.guardF rfl rfl rfl rfl (fun hg => (by first | exact det_loadb (j := 0) (ev_cond hg rfl) rfl rfl tk23 | exact det_loadw (ev_cond hg rfl) (by assumption) rfl tk23)) rfl ?_
 refine WS.guardF rfl rfl rfl rfl (fun hg => det_lenU sl23 (ev_cond hg rfl) (by assumption)) rfl ?_
 refine WS.guardF rfl rfl rfl rfl (fun hg => det_ne (ev_cond hg rfl) (ev_cond hg rfl)) rfl ?_
 refine WS.det rfl rfl rfl (det_pick_or rfl rfl rfl) rfl ?_
 refine WS.det rfl rfl rfl (det_move rfl) rfl ?_
 refine WS.guardF rfl rfl rfl rfl (fun hg => (by first | exact det_fieldAddr rfl fo31_2 | exact det_fieldAddrS rfl fo31_2)) rfl ?_
 refine WS.guardF rfl rfl rfl rfl (fun hg => (by first | exact det_loadb (j := 1) (ev_cond hg rfl) rfl rfl tk24 | exact det_loadw (ev_cond hg rfl) (by assumption) rfl tk24)) rfl ?_
 refine WS.guardF rfl rfl rfl rfl (fun hg => det_lenU sl24 (ev_cond hg rfl) (by assumption)) rfl ?_
 refine WS.guardF rfl rfl rfl rfl (fun hg => (by first | exact det_fieldAddr rfl fo31_2 | exact det_fieldAddrS rfl fo31_2)) rfl ?_
 refine WS.guardF rfl rfl rfl rfl (fun hg => (by first | exact det_loadb (j := 0) (ev_cond hg rfl) rfl rfl tk24 | exact det_loadw (ev_cond hg rfl) (by assumption) rfl tk24)) rfl ?_
 refine WS.guardF rfl rfl rfl rfl (fun hg => det_lenU sl24 (ev_cond hg rfl) (by assumption)) rfl ?_
 refine WS.guardF rfl rfl rfl rfl (fun hg => det_ne (ev_cond hg rfl) (ev_cond hg rfl)) rfl ?_
 refine WS.det rfl rfl rfl (det_pick_or rfl rfl rfl) rfl ?_
 refine WS.det rfl rfl rfl (det_move rfl) rfl ?_
 refine WS.guardF rfl rfl rfl rfl (fun hg => (by first | exact det_fieldAddr rfl fo31_3 | exact det_fieldAddrS rfl fo31_3)) rfl ?_
 refine WS.guardF rfl rfl rfl rfl (fun hg => (by first | exact det_loadb (j := 1) (ev_cond hg rfl) rfl rfl tk25 | exact det_loadw (ev_cond hg rfl) (by assumption) rfl tk25)) rfl ?_
 refine WS.guardF rfl rfl rfl rfl (fun hg => det_lenU sl25 (ev_cond hg rfl) (by assumption)) rfl ?_
 refine WS.guardF rfl rfl rfl rfl (fun hg => (by first | exact det_fieldAddr rfl fo31_3 | exact det_fieldAddrS rfl fo31_3)) rfl ?_
 refine WS.guardF rfl rfl rfl rfl (fun hg => (by first | exact det_loadb (j := 0) (ev_cond hg rfl) rfl rfl tk25 | exact det_loadw (ev_cond hg rfl) (by assumption) rfl tk25)) rfl ?_
 refine WS.guardF rfl rfl rfl rfl (fun hg => det_lenU sl25 (ev_cond hg rfl) (by assumption)) rfl ?_
 refine WS.guardF rfl rfl rfl rfl (fun hg => det_ne (ev_cond hg rfl) (ev_cond hg rfl)) rfl ?_
 refine WS.det rfl rfl rfl (det_pick_or rfl rfl rfl) rfl ?_
 refine WS.det rfl rfl rfl (det_move rfl) rfl ?_
 refine WS.guardF rfl rfl rfl rfl (fun hg => (by first | exact det_fieldAddr rfl fo31_4 | exact det_fieldAddrS rfl fo31_4)) rfl ?_
 refine WS.guardF rfl rfl rfl rfl (fun hg => (by first | exact det_loadb (j := 1) (ev_cond hg rfl) rfl rfl tk26 | exact det_loadw (ev_cond hg rfl) (by assumption) rfl tk26)) rfl ?_
 refine WS.guardF rfl rfl rfl rfl (fun hg => det_lenU sl26 (ev_cond hg rfl) (by assumption)) rfl ?_
 refine WS.guardF rfl rfl rfl rfl (fun hg => (by first | exact det_fieldAddr rfl fo31_4 | exact det_fieldAddrS rfl fo31_4)) rfl ?_
 refine WS.guardF rfl rfl rfl rfl (fun hg => (by first | exact det_loadb (j := 0) (ev_cond hg rfl) rfl rfl tk26 | exact det_loadw (ev_cond hg rfl) (by assumption) rfl tk26)) rfl ?_
 refine WS.guardF rfl rfl rfl rfl (fun hg => det_lenU sl26 (ev_cond hg rfl) (by assumption)) rfl ?_
 refine WS.guardF rfl rfl rfl rfl (fun hg => det_ne (ev_cond hg rfl) (ev_cond hg rfl)) rfl ?_
 refine WS.det rfl rfl rfl (det_pick_or rfl rfl rfl) rfl ?_
 refine WS.det rfl rfl rfl (det_move rfl) rfl ?_
 refine WS.guardF rfl rfl rfl rfl (fun hg => (by first | exact det_fieldAddr rfl fo31_5 | exact det_fieldAddrS rfl fo31_5)) rfl ?_
 refine WS.guardF rfl rfl rfl rfl (fun hg => (by first | exact det_loadb (j := 1) (ev_cond hg rfl) rfl rfl tk27 | exact det_loadw (ev_cond hg rfl) (by assumption) rfl tk27)) rfl ?_
 refine WS.guardF rfl rfl rfl rfl (fun hg => det_lenU sl27 (ev_cond hg rfl) (by assumption)) rfl ?_
 refine WS.guardF rfl rfl rfl rfl (fun hg => (by first | exact det_fieldAddr rfl fo31_5 | exact det_fieldAddrS rfl fo31_5)) rfl ?_
 refine WS.guardF rfl rfl rfl rfl (fun hg => (by first | exact det_loadb (j := 0) (ev_cond hg rfl) rfl rfl tk27 | exact det_loadw (ev_cond hg rfl) (by assumption) rfl tk27)) rfl ?_
 refine WS.guardF rfl rfl rfl rfl (fun hg => det_lenU sl27 (ev_cond hg rfl) (by assumption)) rfl ?_
 refine WS.guardF rfl rfl rfl rfl (fun hg => det_ne (ev_cond hg rfl) (ev_cond hg rfl)) rfl ?_
 refine WS.det rfl rfl rfl (det_pick_or rfl rfl rfl) rfl ?_
 refine WS.det rfl rfl rfl (det_move rfl) rfl ?_
 refine WS.guardF rfl rfl rfl rfl (fun hg => (by first | exact det_fieldAddr rfl fo31_6 | exact det_fieldAddrS rfl fo31_6)) rfl ?_
 refine WS.guardF rfl rfl rfl rfl (fun hg => (by first | exact det_loadb (j := 1) (ev_cond hg rfl) rfl rfl tk3 | exact det_loadw (ev_cond hg rfl) (by assumption) rfl tk3)) rfl ?_
 refine WS.guardF rfl rfl rfl rfl (fun hg => (by first | exact det_fieldAddr rfl fo31_6 | exact det_fieldAddrS rfl fo31_6)) rfl ?_
 refine WS.guardF rfl rfl rfl rfl (fun hg => (by first | exact det_loadb (j := 0) (ev_cond hg rfl) rfl rfl tk3 | exact det_loadw (ev_cond hg rfl) (by assumption) rfl tk3)) rfl ?_
 refine WS.guardF rfl rfl rfl rfl (fun hg => det_ne (ev_cond hg rfl) (ev_cond hg rfl)) rfl ?_
 refine WS.det rfl rfl rfl (det_pick_or rfl rfl rfl) rfl ?_
 refine WS.det rfl rfl rfl (det_move rfl) rfl ?_
 refine WS.guardF rfl rfl rfl rfl (fun hg => (by first | exact det_fieldAddr rfl fo31_7 | exact det_fieldAddrS rfl fo31_7)) rfl ?_
 refine WS.guardF rfl rfl rfl rfl (fun hg => (by first | exact det_loadb (j := 1) (ev_cond hg rfl) rfl rfl tk29 | exact det_loadw (ev_cond hg rfl) (by assumption) rfl tk29)) rfl ?_
 refine WS.guardF rfl rfl rfl rfl (fun hg => (by first | exact det_fieldAddr rfl fo31_7 | exact det_fieldAddrS rfl fo31_7)) rfl ?_
 refine WS.guardF rfl rfl rfl rfl (fun hg => (by first | exact det_loadb (j := 0) (ev_cond hg rfl) rfl rfl tk29 | exact det_loadw (ev_cond hg rfl) (by assumption) rfl tk29)) rfl ?_
 refine WS.guardF rfl rfl rfl rfl (fun hg => det_callB rfl (evs_cons (ev_cond hg rfl) (evs_cons (ev_cond hg rfl) evs_nil)) ent65 (fun u hu => sameCond_c _ _ u (agl.st hu) (bgl.st hu))) rfl ?_
 refine WS.guardF rfl rfl rfl rfl (fun hg => det_not (ev_cond hg rfl)) rfl ?_
 refine WS.det rfl rfl rfl (det_pick_or rfl rfl rfl) rfl ?_
 refine N4 ?_
 refine CS.cond rfl (fun hc1 => ?_) (fun hc1 => ?_) <;> (try simp only [bq] at hc1)
 ·
  refine N3 ?_
  refine WS.det rfl rfl rfl (det_assign rfl) rfl ?_
  refine N4 ?_
  refine CS.ret ?_
  refine QS.then_ret ?_
  exact out1 rfl rfl (retBe (by rw [clB_f (fun h => by
     have q := alike h
     simp only [q.pls, q.ths, q.lprs, q.lwys, q.lacs, q.laus, q.ply, q.gl, clB_t] at hc1
     simp at hc1)]))
 ·
  have hgl := clB_iff.1 hc1.2
  refine CS.skip ?_
  refine QS.then_code ?_
  refine CS.seq ?_
  refine N3 ?_
  refine WS.det rfl rfl rfl (det_assign rfl) rfl ?_
  refine N4 ?_
  refine CS.block ?_
  refine CS.loopM (σ := Int) [4, 82, 83, 84, 85, 86, 87, 88, 89, 90, 91, 92, 93, 94, 95, 96, 97, 98, 99] (fun s => [(5, .int .i64 s)]) (fun _ => _) (fun s => 0 ≤ s ∧ s ≤ a.pls.l.length ∧ ∀ j : Int, 0 ≤ j → j < s → nth a.pls.l j = nth b.pls.l j) (fun s => (a.pls.l.length - s).toNat) 0 (fun _ _ => rfl) rfl rfl ⟨by omega, by omega, fun j _ _ => by omega⟩ ?_
  intro a_ t hs
  obtain ⟨ha_1, ha_2, ha_3⟩ := hs
  refine CS.seq ?_
  refine N3 ?_
  refine WS.det rfl rfl rfl (det_move rfl) rfl ?_
  refine WS.det rfl rfl rfl ((by first | exact det_fieldAddr rfl fo31_0 | exact det_fieldAddrS rfl fo31_0)) rfl ?_
  refine WS.det rfl rfl rfl ((by first | exact det_loadb (j := 1) rfl rfl rfl tk22 | exact det_loadw rfl (by assumption) rfl tk22)) rfl ?_
  refine WS.det rfl rfl rfl (det_lenU sl22 rfl (by assumption)) rfl ?_
  refine WS.det rfl rfl rfl (det_lt rfl rfl) rfl ?_
  refine N4 ?_
  refine CS.cond rfl (fun hc2 => ?_) (fun hc2 => ?_) <;> (try simp only [bq] at hc2)
  ·
   refine CS.skip ?_
   refine QS.then_code ?_
   refine CS.seq ?_
   refine CS.block ?_
   refine CS.seq ?_
   refine CS.draw mixed (by kernel_rfl) (by kernel_rfl) ?_
   refine DS.det rfl rfl ((by first | exact det_fieldAddr rfl fo31_0 | exact det_fieldAddrS rfl fo31_0)) rfl ?_
   refine DS.det rfl rfl ((by first | exact det_loadb (j := 1) rfl rfl rfl tk22 | exact det_loadw rfl (by assumption) rfl tk22)) rfl ?_
   refine DS.det rfl rfl (det_move rfl) rfl ?_
   refine DS.det rfl rfl (det_idxU sl22 rfl rfl (by assumption) rfl (by omega) (by omega)) rfl ?_
   refine DS.det rfl rfl ((by first | exact det_ldU1 rfl (by assumption) rfl ⟨(by omega), (by omega)⟩ rfl tk9)) rfl ?_
   refine DS.det rfl rfl ((by first | exact det_fieldAddr rfl fo31_0 | exact det_fieldAddrS rfl fo31_0)) rfl ?_
   refine DS.det rfl rfl ((by first | exact det_loadb (j := 0) rfl rfl rfl tk22 | exact det_loadw rfl (by assumption) rfl tk22)) rfl ?_
   refine DS.det rfl rfl (det_move rfl) rfl ?_
   refine DS.det rfl rfl (det_idxU sl22 rfl rfl (by assumption) rfl (by omega) (by omega)) rfl ?_
   refine DS.det rfl rfl ((by first | exact det_ldU1 rfl (by assumption) rfl ⟨(by omega), (by omega)⟩ rfl tk9)) rfl ?_
   refine DS.det rfl rfl (det_neStr rfl rfl) rfl ?_
   refine DS.done ?_
   refine QS.then_code ?_
   refine CS.cond rfl (fun hc3 => ?_) (fun hc3 => ?_) <;> (try simp only [bq] at hc3)
   ·
    refine N3 ?_
    refine WS.det rfl rfl rfl (det_assign rfl) rfl ?_
    refine N4 ?_
    refine CS.ret ?_
    refine QS.block_ret ?_
    iterate 2 refine QS.then_ret ?_
    refine QS.block_ret ?_
    refine QS.then_ret ?_
    exact out1 rfl rfl (retBe (by rw [clB_f (fun h => seq_ne hc3 (by rw [(alike h).pls]))]))
   ·
    refine CS.skip ?_
    refine QS.block_normal ?_
    refine QS.then_code ?_
    refine CS.region ?_
    refine WS.det rfl rfl rfl (det_move rfl) rfl ?_
    refine WS.det rfl rfl rfl (det_add rfl rfl (by omega)) rfl ?_
    refine WS.det rfl rfl rfl (det_assign rfl) rfl ?_
    refine WS.done ?_
    exact QS.head (a_ + 1) rfl rfl ⟨⟨by omega, by omega, fun j h0 h1 => by
       rcases (show j < a_ ∨ j = a_ by omega) with h | h
       ·
        exact ha_3 j h0 h
       ·
        rw [h]; exact seq_iff.1 hc3⟩, by omega⟩
  ·
   refine CS.leave ?_
   iterate 2 refine QS.then_exit ?_
   refine QS.block_exit ?_
   refine QS.then_code ?_
   refine CS.seq ?_
   refine N3 ?_
   refine WS.det rfl rfl rfl (det_assign rfl) rfl ?_
   refine N4 ?_
   refine CS.block ?_
   refine CS.loopM (σ := Int) [4, 100, 101, 102, 103, 104, 105, 106, 107, 108, 109, 110, 111, 112, 113, 114, 115, 116, 117] (fun s => [(6, .int .i64 s)]) (fun _ => _) (fun s => 0 ≤ s ∧ s ≤ a.ths.l.length ∧ ∀ j : Int, 0 ≤ j → j < s → nth a.ths.l j = nth b.ths.l j) (fun s => (a.ths.l.length - s).toNat) 0 (fun _ _ => rfl) rfl rfl ⟨by omega, by omega, fun j _ _ => by omega⟩ ?_
   intro b_ t hs
   obtain ⟨hb_1, hb_2, hb_3⟩ := hs
   refine CS.seq ?_
   refine N3 ?_
   refine WS.det rfl rfl rfl (det_move rfl) rfl ?_
   refine WS.det rfl rfl rfl ((by first | exact det_fieldAddr rfl fo31_1 | exact det_fieldAddrS rfl fo31_1)) rfl ?_
   refine WS.det rfl rfl rfl ((by first | exact det_loadb (j := 1) rfl rfl rfl tk23 | exact det_loadw rfl (by assumption) rfl tk23)) rfl ?_
   refine WS.det rfl rfl rfl (det_lenU sl23 rfl (by assumption)) rfl ?_
   refine WS.det rfl rfl rfl (det_lt rfl rfl) rfl ?_
   refine N4 ?_
   refine CS.cond rfl (fun hc4 => ?_) (fun hc4 => ?_) <;> (try simp only [bq] at hc4)
   ·
    refine CS.skip ?_
    refine QS.then_code ?_
    refine CS.seq ?_
    refine CS.block ?_
    refine CS.seq ?_
    refine CS.draw mixed (by kernel_rfl) (by kernel_rfl) ?_
    refine DS.det rfl rfl ((by first | exact det_fieldAddr rfl fo31_1 | exact det_fieldAddrS rfl fo31_1)) rfl ?_
    refine DS.det rfl rfl ((by first | exact det_loadb (j := 1) rfl rfl rfl tk23 | exact det_loadw rfl (by assumption) rfl tk23)) rfl ?_
    refine DS.det rfl rfl (det_move rfl) rfl ?_
    refine DS.det rfl rfl (det_idxU sl23 rfl rfl (by assumption) rfl (by omega) (by omega)) rfl ?_
    refine DS.det rfl rfl ((by first | exact det_ldU rfl (by assumption) rfl ⟨(by omega), (by omega)⟩ rfl tk70)) rfl ?_
    refine DS.det rfl rfl ((by first | exact det_fieldAddr rfl fo31_1 | exact det_fieldAddrS rfl fo31_1)) rfl ?_
    refine DS.det rfl rfl ((by first | exact det_loadb (j := 0) rfl rfl rfl tk23 | exact det_loadw rfl (by assumption) rfl tk23)) rfl ?_
    refine DS.det rfl rfl (det_move rfl) rfl ?_
    refine DS.det rfl rfl (det_idxU sl23 rfl rfl (by assumption) rfl (by omega) (by omega)) rfl ?_
    refine DS.det rfl rfl ((by first | exact det_ldU rfl (by assumption) rfl ⟨(by omega), (by omega)⟩ rfl tk70)) rfl ?_
    refine DS.det rfl rfl (det_neAgg agThing rfl rfl (cmp_thing (nth a.ths.l b_) (nth b.ths.l b_))) rfl ?_
    refine DS.done ?_
    refine QS.then_code ?_
    refine CS.cond rfl (fun hc5 => ?_) (fun hc5 => ?_) <;> (try simp only [bq] at hc5)
    ·
     refine N3 ?_
     refine WS.det rfl rfl rfl (det_assign rfl) rfl ?_
     refine N4 ?_
     refine CS.ret ?_
     refine QS.block_ret ?_
     iterate 2 refine QS.then_ret ?_
     refine QS.block_ret ?_
     refine QS.then_ret ?_
     exact out1 rfl rfl (retBe (by rw [clB_f (fun h => by rw [(alike h).ths, clB_t rfl] at hc5; cases hc5)]))
    ·
     refine CS.skip ?_
     refine QS.block_normal ?_
     refine QS.then_code ?_
     refine CS.region ?_
     refine WS.det rfl rfl rfl (det_move rfl) rfl ?_
     refine WS.det rfl rfl rfl (det_add rfl rfl (by omega)) rfl ?_
     refine WS.det rfl rfl rfl (det_assign rfl) rfl ?_
     refine WS.done ?_
     exact QS.head (b_ + 1) rfl rfl ⟨⟨by omega, by omega, fun j h0 h1 => by
        rcases (show j < b_ ∨ j = b_ by omega) with h | h
        ·
         exact hb_3 j h0 h
        ·
         rw [h]; exact clB_iff.1 hc5⟩, by omega⟩
   ·
    refine CS.leave ?_
    iterate 2 refine QS.then_exit ?_
    refine QS.block_exit ?_
    refine QS.then_code ?_
    refine CS.seq ?_
    refine N3 ?_
    refine WS.det rfl rfl rfl (det_assign rfl) rfl ?_
    refine N4 ?_
    refine CS.block ?_
    refine CS.loopM (σ := Int) [4, 8, 9, 118, 119, 120, 121, 122, 123, 124, 125, 126, 127, 128, 129, 130, 131, 132, 133, 134, 135, 136, 137, 138, 139, 140, 141, 142, 143, 144, 145, 146, 147, 148, 149, 150, 151, 152, 153, 154] (fun s => [(7, .int .i64 s)]) (fun _ => _) (fun s => 0 ≤ s ∧ s ≤ a.prs.l.length ∧ ∀ j : Int, 0 ≤ j → j < s → (nth a.prs.l j).e = (nth b.prs.l j).e) (fun s => (a.prs.l.length - s).toNat) 0 (fun _ _ => rfl) rfl rfl ⟨by omega, by omega, fun j _ _ => by omega⟩ ?_
    intro d t hs
    obtain ⟨hd1, hd2, hd3⟩ := hs
    refine CS.seq ?_
    refine N3 ?_
    refine WS.det rfl rfl rfl (det_move rfl) rfl ?_
    refine WS.det rfl rfl rfl ((by first | exact det_fieldAddr rfl fo31_2 | exact det_fieldAddrS rfl fo31_2)) rfl ?_
    refine WS.det rfl rfl rfl ((by first | exact det_loadb (j := 1) rfl rfl rfl tk24 | exact det_loadw rfl (by assumption) rfl tk24)) rfl ?_
    refine WS.det rfl rfl rfl (det_lenU sl24 rfl (by assumption)) rfl ?_
    refine WS.det rfl rfl rfl (det_lt rfl rfl) rfl ?_
    refine N4 ?_
    refine CS.cond rfl (fun hc6 => ?_) (fun hc6 => ?_) <;> (try simp only [bq] at hc6)
    ·
     have aw : SlT cLit w (nth a.prs.l d).wh := ha.prs.at hd1 (by omega)
     have bw : SlT cLit w (nth b.prs.l d).wh := hb.prs.at hd1 (by omega)
     refine CS.skip ?_
     refine QS.then_code ?_
     refine CS.seq ?_
     refine CS.block ?_
     refine CS.seq ?_
     refine CS.drawnAll (k := 14) mixed rfl rfl ?_
     refine AS.take 0 rfl (by kernel_rfl) (by kernel_rfl) (by kernel_rfl) rfl rfl ((by first | exact det_fieldAddr rfl fo31_2 | exact det_fieldAddrS rfl fo31_2)) rfl rfl ?_
     refine AS.take 1 rfl (by kernel_rfl) (by kernel_rfl) (by kernel_rfl) rfl rfl ((by first | exact det_loadb (j := 1) rfl rfl rfl tk24 | exact det_loadw rfl (by assumption) rfl tk24)) rfl rfl ?_
     refine AS.take 2 rfl (by kernel_rfl) (by kernel_rfl) (by kernel_rfl) rfl rfl (det_move rfl) rfl rfl ?_
     refine AS.take 3 rfl (by kernel_rfl) (by kernel_rfl) (by kernel_rfl) rfl rfl (det_idxU sl24 rfl rfl (by assumption) rfl (by omega) (by omega)) rfl rfl ?_
     refine AS.take 4 rfl (by kernel_rfl) (by kernel_rfl) (by kernel_rfl) rfl rfl ((by first | exact det_ldU rfl (by assumption) rfl ⟨(by omega), (by omega)⟩ rfl tk72)) rfl rfl ?_
     refine AS.take 5 rfl (by kernel_rfl) (by kernel_rfl) (by kernel_rfl) rfl rfl ((by first | exact det_fieldAddr rfl fo31_2 | exact det_fieldAddrS rfl fo31_2)) rfl rfl ?_
     refine AS.take 6 rfl (by kernel_rfl) (by kernel_rfl) (by kernel_rfl) rfl rfl ((by first | exact det_loadb (j := 0) rfl rfl rfl tk24 | exact det_loadw rfl (by assumption) rfl tk24)) rfl rfl ?_
     refine AS.take 7 rfl (by kernel_rfl) (by kernel_rfl) (by kernel_rfl) rfl rfl (det_move rfl) rfl rfl ?_
     refine AS.take 8 rfl (by kernel_rfl) (by kernel_rfl) (by kernel_rfl) rfl rfl (det_idxU sl24 rfl rfl (by assumption) rfl (by omega) (by omega)) rfl rfl ?_
     refine AS.take 9 rfl (by kernel_rfl) (by kernel_rfl) (by kernel_rfl) rfl rfl ((by first | exact det_ldU rfl (by assumption) rfl ⟨(by omega), (by omega)⟩ rfl tk72)) rfl rfl ?_
     refine AS.two (i := 10) (j := 11) (by kernel_rfl) rfl rfl (by first | exact fun _ h => h | exact fun _ h => h.sub (by repeat first | exact List.Sublist.refl _ | apply List.Sublist.cons_cons | apply List.Sublist.cons)) rfl rfl ?_ ?_
     ·
      refine WS.alloc zv72 (fun _ => rfl) ?_; intro b8 hb8
      refine WS.done ?_
      refine QS.then_AS ?_
      refine AS.one (i := 11) (by kernel_rfl) rfl (by first | exact fun _ h => h | exact fun _ h => h.sub (by repeat first | exact List.Sublist.refl _ | apply List.Sublist.cons_cons | apply List.Sublist.cons)) rfl ?_
      refine WS.alloc zv72 (fun _ => rfl) ?_; intro b9 hb9
      refine WS.done ?_
      refine QS.then_AS ?_
      refine AS.one (i := 12) (by kernel_rfl) rfl (by first | exact fun _ h => h | exact fun _ h => h.sub (by repeat first | exact List.Sublist.refl _ | apply List.Sublist.cons_cons | apply List.Sublist.cons)) rfl ?_
      first | refine WS.storeW (j := 1) rfl rfl rfl rfl (by first | (simp [Value.oneCell']; done) | ((repeat (refine List.forall_mem_cons.2 ⟨by first | rfl | assumption, ?_⟩)); exact fun _ h => absurd h List.not_mem_nil) | exact Cel.one _ w _ (by first | assumption | exact trivial)) tk72 rfl rfl ?_
      refine WS.done ?_
      refine QS.then_AS ?_
      refine AS.one (i := 13) (by kernel_rfl) rfl (by first | exact fun _ h => h | exact fun _ h => h.sub (by repeat first | exact List.Sublist.refl _ | apply List.Sublist.cons_cons | apply List.Sublist.cons)) rfl ?_
      first | refine WS.storeW (j := 0) rfl rfl rfl rfl (by first | (simp [Value.oneCell']; done) | ((repeat (refine List.forall_mem_cons.2 ⟨by first | rfl | assumption, ?_⟩)); exact fun _ h => absurd h List.not_mem_nil) | exact Cel.one _ w _ (by first | assumption | exact trivial)) tk72 rfl rfl ?_
      refine WS.done ?_
      refine QS.then_AS ?_
      refine AS.done (by kernel_rfl) (by first | exact fun _ h => h | exact fun _ h => h.sub (by repeat first | exact List.Sublist.refl _ | apply List.Sublist.cons_cons | apply List.Sublist.cons)) ?_
      refine QS.then_code ?_
      refine N3 ?_
      refine WS.det rfl rfl rfl ((by first | exact det_fieldAddr rfl fo72_0 | exact det_fieldAddrS rfl fo72_0)) rfl ?_
      refine WS.det rfl rfl rfl ((by first | exact det_loadb (j := 1) rfl rfl rfl tk9 | exact det_loadw rfl (by assumption) rfl tk9)) rfl ?_
      refine WS.det rfl rfl rfl ((by first | exact det_fieldAddr rfl fo72_0 | exact det_fieldAddrS rfl fo72_0)) rfl ?_
      refine WS.det rfl rfl rfl ((by first | exact det_loadb (j := 0) rfl rfl rfl tk9 | exact det_loadw rfl (by assumption) rfl tk9)) rfl ?_
      refine WS.det rfl rfl rfl (det_neStr rfl rfl) rfl ?_
      refine WS.det rfl rfl rfl (det_move rfl) rfl ?_
      refine WS.guardF rfl rfl rfl rfl (fun hg => (by first | exact det_fieldAddr rfl fo72_1 | exact det_fieldAddrS rfl fo72_1)) rfl ?_
      refine WS.guardF rfl rfl rfl rfl (fun hg => (by first | exact det_loadb (j := 1) (ev_cond hg rfl) rfl rfl tk3 | exact det_loadw (ev_cond hg rfl) (by assumption) rfl tk3)) rfl ?_
      refine WS.guardF rfl rfl rfl rfl (fun hg => (by first | exact det_fieldAddr rfl fo72_1 | exact det_fieldAddrS rfl fo72_1)) rfl ?_
      refine WS.guardF rfl rfl rfl rfl (fun hg => (by first | exact det_loadb (j := 0) (ev_cond hg rfl) rfl rfl tk3 | exact det_loadw (ev_cond hg rfl) (by assumption) rfl tk3)) rfl ?_
      refine WS.guardF rfl rfl rfl rfl (fun hg => det_ne (ev_cond hg rfl) (ev_cond hg rfl)) rfl ?_
      refine WS.det rfl rfl rfl (det_pick_or rfl rfl rfl) rfl ?_
      refine WS.det rfl rfl rfl (det_move rfl) rfl ?_
      refine WS.guardF rfl rfl rfl rfl (fun hg => (by first | exact det_fieldAddr rfl fo72_2 | exact det_fieldAddrS rfl fo72_2)) rfl ?_
      refine WS.guardF rfl rfl rfl rfl (fun hg => (by first | exact det_loadb (j := 1) (ev_cond hg rfl) rfl rfl tk29 | exact det_loadw (ev_cond hg rfl) (by assumption) rfl tk29)) rfl ?_
      refine WS.guardF rfl rfl rfl rfl (fun hg => (by first | exact det_fieldAddr rfl fo72_2 | exact det_fieldAddrS rfl fo72_2)) rfl ?_
      refine WS.guardF rfl rfl rfl rfl (fun hg => (by first | exact det_loadb (j := 0) (ev_cond hg rfl) rfl rfl tk29 | exact det_loadw (ev_cond hg rfl) (by assumption) rfl tk29)) rfl ?_
      refine WS.guardF rfl rfl rfl rfl (fun hg => det_callB rfl (evs_cons (ev_cond hg rfl) (evs_cons (ev_cond hg rfl) evs_nil)) ent65 (fun u hu => sameCond_c _ _ u (aw.st hu) (bw.st hu))) rfl ?_
      refine WS.guardF rfl rfl rfl rfl (fun hg => det_not (ev_cond hg rfl)) rfl ?_
      refine WS.det rfl rfl rfl (det_pick_or rfl rfl rfl) rfl ?_
      refine N4 ?_
      refine CS.cond rfl (fun hc7 => ?_) (fun hc7 => ?_) <;> (try simp only [bq] at hc7)
      ·
       refine N3 ?_
       refine WS.det rfl rfl rfl (det_assign rfl) rfl ?_
       refine N4 ?_
       refine CS.ret ?_
       refine QS.block_ret ?_
       iterate 2 refine QS.then_ret ?_
       refine QS.block_ret ?_
       refine QS.then_ret ?_
       exact out1 rfl rfl (retBe (by rw [clB_f (fun h => by
          have q := (alike h).pr d
          simp only [q.1, q.2.1, q.2.2, seq_self, clB_t] at hc7
          simp at hc7)]))
      ·
       refine CS.skip ?_
       refine QS.block_normal ?_
       refine QS.then_code ?_
       refine CS.region ?_
       refine WS.det rfl rfl rfl (det_move rfl) rfl ?_
       refine WS.det rfl rfl rfl (det_add rfl rfl (by omega)) rfl ?_
       refine WS.det rfl rfl rfl (det_assign rfl) rfl ?_
       refine WS.done ?_
       refine QS.sel [2, 2] rfl ?_
       exact QS.head (d + 1) rfl rfl ⟨⟨by omega, by omega, fun j h0 h1 => by
          rcases (show j < d ∨ j = d by omega) with h | h
          ·
           exact hd3 j h0 h
          ·
           rw [h]; exact pro_e (seq_iff.1 hc7.1.1) hc7.1.2 (clB_iff.1 hc7.2)⟩, by omega⟩
     ·
      refine WS.alloc zv72 (fun _ => rfl) ?_; intro b9 hb9
      refine WS.done ?_
      refine QS.then_AS ?_
      refine AS.one (i := 10) (by kernel_rfl) rfl (by first | exact fun _ h => h | exact fun _ h => h.sub (by repeat first | exact List.Sublist.refl _ | apply List.Sublist.cons_cons | apply List.Sublist.cons)) rfl ?_
      refine WS.alloc zv72 (fun _ => rfl) ?_; intro b8 hb8
      refine WS.done ?_
      refine QS.then_AS ?_
      refine AS.one (i := 12) (by kernel_rfl) rfl (by first | exact fun _ h => h | exact fun _ h => h.sub (by repeat first | exact List.Sublist.refl _ | apply List.Sublist.cons_cons | apply List.Sublist.cons)) rfl ?_
      first | refine WS.storeW (j := 0) rfl rfl rfl rfl (by first | (simp [Value.oneCell']; done) | ((repeat (refine List.forall_mem_cons.2 ⟨by first | rfl | assumption, ?_⟩)); exact fun _ h => absurd h List.not_mem_nil) | exact Cel.one _ w _ (by first | assumption | exact trivial)) tk72 rfl rfl ?_
      refine WS.done ?_
      refine QS.then_AS ?_
      refine AS.one (i := 13) (by kernel_rfl) rfl (by first | exact fun _ h => h | exact fun _ h => h.sub (by repeat first | exact List.Sublist.refl _ | apply List.Sublist.cons_cons | apply List.Sublist.cons)) rfl ?_
      first | refine WS.storeW (j := 1) rfl rfl rfl rfl (by first | (simp [Value.oneCell']; done) | ((repeat (refine List.forall_mem_cons.2 ⟨by first | rfl | assumption, ?_⟩)); exact fun _ h => absurd h List.not_mem_nil) | exact Cel.one _ w _ (by first | assumption | exact trivial)) tk72 rfl rfl ?_
      refine WS.done ?_
      refine QS.then_AS ?_
      refine AS.done (by kernel_rfl) (by first | exact fun _ h => h | exact fun _ h => h.sub (by repeat first | exact List.Sublist.refl _ | apply List.Sublist.cons_cons | apply List.Sublist.cons)) ?_
      refine QS.then_code ?_
      refine N3 ?_
      refine WS.det rfl rfl rfl ((by first | exact det_fieldAddr rfl fo72_0 | exact det_fieldAddrS rfl fo72_0)) rfl ?_
      refine WS.det rfl rfl rfl ((by first | exact det_loadb (j := 0) rfl rfl rfl tk9 | exact det_loadw rfl (by assumption) rfl tk9)) rfl ?_
      refine WS.det rfl rfl rfl ((by first | exact det_fieldAddr rfl fo72_0 | exact det_fieldAddrS rfl fo72_0)) rfl ?_
      refine WS.det rfl rfl rfl ((by first | exact det_loadb (j := 1) rfl rfl rfl tk9 | exact det_loadw rfl (by assumption) rfl tk9)) rfl ?_
      refine WS.det rfl rfl rfl (det_neStr rfl rfl) rfl ?_
      refine WS.det rfl rfl rfl (det_move rfl) rfl ?_
      refine WS.guardF rfl rfl rfl rfl (fun hg => (by first | exact det_fieldAddr rfl fo72_1 | exact det_fieldAddrS rfl fo72_1)) rfl ?_
      refine WS.guardF rfl rfl rfl rfl (fun hg => (by first | exact det_loadb (j := 0) (ev_cond hg rfl) rfl rfl tk3 | exact det_loadw (ev_cond hg rfl) (by assumption) rfl tk3)) rfl ?_
      refine WS.guardF rfl rfl rfl rfl (fun hg => (by first | exact det_fieldAddr rfl fo72_1 | exact det_fieldAddrS rfl fo72_1)) rfl ?_
      refine WS.guardF rfl rfl rfl rfl (fun hg => (by first | exact det_loadb (j := 1) (ev_cond hg rfl) rfl rfl tk3 | exact det_loadw (ev_cond hg rfl) (by assumption) rfl tk3)) rfl ?_
      refine WS.guardF rfl rfl rfl rfl (fun hg => det_ne (ev_cond hg rfl) (ev_cond hg rfl)) rfl ?_
      refine WS.det rfl rfl rfl (det_pick_or rfl rfl rfl) rfl ?_
      refine WS.det rfl rfl rfl (det_move rfl) rfl ?_
      refine WS.guardF rfl rfl rfl rfl (fun hg => (by first | exact det_fieldAddr rfl fo72_2 | exact det_fieldAddrS rfl fo72_2)) rfl ?_
      refine WS.guardF rfl rfl rfl rfl (fun hg => (by first | exact det_loadb (j := 0) (ev_cond hg rfl) rfl rfl tk29 | exact det_loadw (ev_cond hg rfl) (by assumption) rfl tk29)) rfl ?_
      refine WS.guardF rfl rfl rfl rfl (fun hg => (by first | exact det_fieldAddr rfl fo72_2 | exact det_fieldAddrS rfl fo72_2)) rfl ?_
      refine WS.guardF rfl rfl rfl rfl (fun hg => (by first | exact det_loadb (j := 1) (ev_cond hg rfl) rfl rfl tk29 | exact det_loadw (ev_cond hg rfl) (by assumption) rfl tk29)) rfl ?_
      refine WS.guardF rfl rfl rfl rfl (fun hg => det_callB rfl (evs_cons (ev_cond hg rfl) (evs_cons (ev_cond hg rfl) evs_nil)) ent65 (fun u hu => sameCond_c _ _ u (aw.st hu) (bw.st hu))) rfl ?_
      refine WS.guardF rfl rfl rfl rfl (fun hg => det_not (ev_cond hg rfl)) rfl ?_
      refine WS.det rfl rfl rfl (det_pick_or rfl rfl rfl) rfl ?_
      refine N4 ?_
      refine CS.cond rfl (fun hc7 => ?_) (fun hc7 => ?_) <;> (try simp only [bq] at hc7)
      ·
       refine N3 ?_
       refine WS.det rfl rfl rfl (det_assign rfl) rfl ?_
       refine N4 ?_
       refine CS.ret ?_
       refine QS.block_ret ?_
       iterate 2 refine QS.then_ret ?_
       refine QS.block_ret ?_
       refine QS.then_ret ?_
       exact out1 rfl rfl (retBe (by rw [clB_f (fun h => by
          have q := (alike h).pr d
          simp only [q.1, q.2.1, q.2.2, seq_self, clB_t] at hc7
          simp at hc7)]))
      ·
       refine CS.skip ?_
       refine QS.block_normal ?_
       refine QS.then_code ?_
       refine CS.region ?_
       refine WS.det rfl rfl rfl (det_move rfl) rfl ?_
       refine WS.det rfl rfl rfl (det_add rfl rfl (by omega)) rfl ?_
       refine WS.det rfl rfl rfl (det_assign rfl) rfl ?_
       refine WS.done ?_
       refine QS.sel [2, 2] rfl ?_
       exact QS.head (d + 1) rfl rfl ⟨⟨by omega, by omega, fun j h0 h1 => by
          rcases (show j < d ∨ j = d by omega) with h | h
          ·
           exact hd3 j h0 h
          ·
           rw [h]; exact pro_e (seq_iff.1 hc7.1.1) hc7.1.2 (clB_iff.1 hc7.2)⟩, by omega⟩
    ·
     refine CS.leave ?_
     iterate 2 refine QS.then_exit ?_
     refine QS.block_exit ?_
     refine QS.then_code ?_
     refine CS.seq ?_
     refine N3 ?_
     refine WS.det rfl rfl rfl (det_assign rfl) rfl ?_
     refine N4 ?_
     refine CS.block ?_
     refine CS.loopM (σ := Int) [4, 11, 12, 155, 156, 157, 158, 159, 160, 161, 162, 163, 164, 165, 166, 167, 168, 169, 170, 171, 172, 173, 174, 175, 176, 177, 178, 179, 180, 181, 182, 183, 184, 185, 186, 187, 188, 189, 190, 191] (fun s => [(10, .int .i64 s)]) (fun _ => _) (fun s => 0 ≤ s ∧ s ≤ a.wys.l.length ∧ ∀ j : Int, 0 ≤ j → j < s → (nth a.wys.l j).e = (nth b.wys.l j).e) (fun s => (a.wys.l.length - s).toNat) 0 (fun _ _ => rfl) rfl rfl ⟨by omega, by omega, fun j _ _ => by omega⟩ ?_
     intro e t hs
     obtain ⟨he1, he2, he3⟩ := hs
     refine CS.seq ?_
     refine N3 ?_
     refine WS.det rfl rfl rfl (det_move rfl) rfl ?_
     refine WS.det rfl rfl rfl ((by first | exact det_fieldAddr rfl fo31_3 | exact det_fieldAddrS rfl fo31_3)) rfl ?_
     refine WS.det rfl rfl rfl ((by first | exact det_loadb (j := 1) rfl rfl rfl tk25 | exact det_loadw rfl (by assumption) rfl tk25)) rfl ?_
     refine WS.det rfl rfl rfl (det_lenU sl25 rfl (by assumption)) rfl ?_
     refine WS.det rfl rfl rfl (det_lt rfl rfl) rfl ?_
     refine N4 ?_
     refine CS.cond rfl (fun hc8 => ?_) (fun hc8 => ?_) <;> (try simp only [bq] at hc8)
     ·
      have aw : SlT cLit w (nth a.wys.l e).wh := ha.wys.at he1 (by omega)
      have bw : SlT cLit w (nth b.wys.l e).wh := hb.wys.at he1 (by omega)
      refine CS.skip ?_
      refine QS.then_code ?_
      refine CS.seq ?_
      refine CS.block ?_
      refine CS.seq ?_
      refine CS.drawnAll (k := 14) mixed rfl rfl ?_
      refine AS.take 0 rfl (by kernel_rfl) (by kernel_rfl) (by kernel_rfl) rfl rfl ((by first | exact det_fieldAddr rfl fo31_3 | exact det_fieldAddrS rfl fo31_3)) rfl rfl ?_
      refine AS.take 1 rfl (by kernel_rfl) (by kernel_rfl) (by kernel_rfl) rfl rfl ((by first | exact det_loadb (j := 1) rfl rfl rfl tk25 | exact det_loadw rfl (by assumption) rfl tk25)) rfl rfl ?_
      refine AS.take 2 rfl (by kernel_rfl) (by kernel_rfl) (by kernel_rfl) rfl rfl (det_move rfl) rfl rfl ?_
      refine AS.take 3 rfl (by kernel_rfl) (by kernel_rfl) (by kernel_rfl) rfl rfl (det_idxU sl25 rfl rfl (by assumption) rfl (by omega) (by omega)) rfl rfl ?_
      refine AS.take 4 rfl (by kernel_rfl) (by kernel_rfl) (by kernel_rfl) rfl rfl ((by first | exact det_ldU rfl (by assumption) rfl ⟨(by omega), (by omega)⟩ rfl tk74)) rfl rfl ?_
      refine AS.take 5 rfl (by kernel_rfl) (by kernel_rfl) (by kernel_rfl) rfl rfl ((by first | exact det_fieldAddr rfl fo31_3 | exact det_fieldAddrS rfl fo31_3)) rfl rfl ?_
      refine AS.take 6 rfl (by kernel_rfl) (by kernel_rfl) (by kernel_rfl) rfl rfl ((by first | exact det_loadb (j := 0) rfl rfl rfl tk25 | exact det_loadw rfl (by assumption) rfl tk25)) rfl rfl ?_
      refine AS.take 7 rfl (by kernel_rfl) (by kernel_rfl) (by kernel_rfl) rfl rfl (det_move rfl) rfl rfl ?_
      refine AS.take 8 rfl (by kernel_rfl) (by kernel_rfl) (by kernel_rfl) rfl rfl (det_idxU sl25 rfl rfl (by assumption) rfl (by omega) (by omega)) rfl rfl ?_
      refine AS.take 9 rfl (by kernel_rfl) (by kernel_rfl) (by kernel_rfl) rfl rfl ((by first | exact det_ldU rfl (by assumption) rfl ⟨(by omega), (by omega)⟩ rfl tk74)) rfl rfl ?_
      refine AS.two (i := 10) (j := 11) (by kernel_rfl) rfl rfl (by first | exact fun _ h => h | exact fun _ h => h.sub (by repeat first | exact List.Sublist.refl _ | apply List.Sublist.cons_cons | apply List.Sublist.cons)) rfl rfl ?_ ?_
      ·
       refine WS.alloc zv74 (fun _ => rfl) ?_; intro b11 hb11
       refine WS.done ?_
       refine QS.then_AS ?_
       refine AS.one (i := 11) (by kernel_rfl) rfl (by first | exact fun _ h => h | exact fun _ h => h.sub (by repeat first | exact List.Sublist.refl _ | apply List.Sublist.cons_cons | apply List.Sublist.cons)) rfl ?_
       refine WS.alloc zv74 (fun _ => rfl) ?_; intro b12 hb12
       refine WS.done ?_
       refine QS.then_AS ?_
       refine AS.one (i := 12) (by kernel_rfl) rfl (by first | exact fun _ h => h | exact fun _ h => h.sub (by repeat first | exact List.Sublist.refl _ | apply List.Sublist.cons_cons | apply List.Sublist.cons)) rfl ?_
       first | refine WS.storeW (j := 1) rfl rfl rfl rfl (by first | (simp [Value.oneCell']; done) | ((repeat (refine List.forall_mem_cons.2 ⟨by first | rfl | assumption, ?_⟩)); exact fun _ h => absurd h List.not_mem_nil) | exact Cel.one _ w _ (by first | assumption | exact trivial)) tk74 rfl rfl ?_
       refine WS.done ?_
       refine QS.then_AS ?_
       refine AS.one (i := 13) (by kernel_rfl) rfl (by first | exact fun _ h => h | exact fun _ h => h.sub (by repeat first | exact List.Sublist.refl _ | apply List.Sublist.cons_cons | apply List.Sublist.cons)) rfl ?_
       first | refine WS.storeW (j := 0) rfl rfl rfl rfl (by first | (simp [Value.oneCell']; done) | ((repeat (refine List.forall_mem_cons.2 ⟨by first | rfl | assumption, ?_⟩)); exact fun _ h => absurd h List.not_mem_nil) | exact Cel.one _ w _ (by first | assumption | exact trivial)) tk74 rfl rfl ?_
       refine WS.done ?_
       refine QS.then_AS ?_
       refine AS.done (by kernel_rfl) (by first | exact fun _ h => h | exact fun _ h => h.sub (by repeat first | exact List.Sublist.refl _ | apply List.Sublist.cons_cons | apply List.Sublist.cons)) ?_
       refine QS.then_code ?_
       refine N3 ?_
       refine WS.det rfl rfl rfl ((by first | exact det_fieldAddr rfl fo74_0 | exact det_fieldAddrS rfl fo74_0)) rfl ?_
       refine WS.det rfl rfl rfl ((by first | exact det_loadb (j := 1) rfl rfl rfl tk3 | exact det_loadw rfl (by assumption) rfl tk3)) rfl ?_
       refine WS.det rfl rfl rfl ((by first | exact det_fieldAddr rfl fo74_0 | exact det_fieldAddrS rfl fo74_0)) rfl ?_
       refine WS.det rfl rfl rfl ((by first | exact det_loadb (j := 0) rfl rfl rfl tk3 | exact det_loadw rfl (by assumption) rfl tk3)) rfl ?_
       refine WS.det rfl rfl rfl (det_ne rfl rfl) rfl ?_
       refine WS.det rfl rfl rfl (det_move rfl) rfl ?_
       refine WS.guardF rfl rfl rfl rfl (fun hg => (by first | exact det_fieldAddr rfl fo74_1 | exact det_fieldAddrS rfl fo74_1)) rfl ?_
       refine WS.guardF rfl rfl rfl rfl (fun hg => (by first | exact det_loadb (j := 1) (ev_cond hg rfl) rfl rfl tk3 | exact det_loadw (ev_cond hg rfl) (by assumption) rfl tk3)) rfl ?_
       refine WS.guardF rfl rfl rfl rfl (fun hg => (by first | exact det_fieldAddr rfl fo74_1 | exact det_fieldAddrS rfl fo74_1)) rfl ?_
       refine WS.guardF rfl rfl rfl rfl (fun hg => (by first | exact det_loadb (j := 0) (ev_cond hg rfl) rfl rfl tk3 | exact det_loadw (ev_cond hg rfl) (by assumption) rfl tk3)) rfl ?_
       refine WS.guardF rfl rfl rfl rfl (fun hg => det_ne (ev_cond hg rfl) (ev_cond hg rfl)) rfl ?_
       refine WS.det rfl rfl rfl (det_pick_or rfl rfl rfl) rfl ?_
       refine WS.det rfl rfl rfl (det_move rfl) rfl ?_
       refine WS.guardF rfl rfl rfl rfl (fun hg => (by first | exact det_fieldAddr rfl fo74_2 | exact det_fieldAddrS rfl fo74_2)) rfl ?_
       refine WS.guardF rfl rfl rfl rfl (fun hg => (by first | exact det_loadb (j := 1) (ev_cond hg rfl) rfl rfl tk29 | exact det_loadw (ev_cond hg rfl) (by assumption) rfl tk29)) rfl ?_
       refine WS.guardF rfl rfl rfl rfl (fun hg => (by first | exact det_fieldAddr rfl fo74_2 | exact det_fieldAddrS rfl fo74_2)) rfl ?_
       refine WS.guardF rfl rfl rfl rfl (fun hg => (by first | exact det_loadb (j := 0) (ev_cond hg rfl) rfl rfl tk29 | exact det_loadw (ev_cond hg rfl) (by assumption) rfl tk29)) rfl ?_
       refine WS.guardF rfl rfl rfl rfl (fun hg => det_callB rfl (evs_cons (ev_cond hg rfl) (evs_cons (ev_cond hg rfl) evs_nil)) ent65 (fun u hu => sameCond_c _ _ u (aw.st hu) (bw.st hu))) rfl ?_
       refine WS.guardF rfl rfl rfl rfl (fun hg => det_not (ev_cond hg rfl)) rfl ?_
       refine WS.det rfl rfl rfl (det_pick_or rfl rfl rfl) rfl ?_
       refine N4 ?_
       refine CS.cond rfl (fun hc9 => ?_) (fun hc9 => ?_) <;> (try simp only [bq] at hc9)
       ·
        refine N3 ?_
        refine WS.det rfl rfl rfl (det_assign rfl) rfl ?_
        refine N4 ?_
        refine CS.ret ?_
        refine QS.block_ret ?_
        iterate 2 refine QS.then_ret ?_
        refine QS.block_ret ?_
        refine QS.then_ret ?_
        exact out1 rfl rfl (retBe (by rw [clB_f (fun h => by
           have q := (alike h).wy e
           simp only [q.1, q.2.1, q.2.2, clB_t] at hc9
           simp at hc9)]))
       ·
        refine CS.skip ?_
        refine QS.block_normal ?_
        refine QS.then_code ?_
        refine CS.region ?_
        refine WS.det rfl rfl rfl (det_move rfl) rfl ?_
        refine WS.det rfl rfl rfl (det_add rfl rfl (by omega)) rfl ?_
        refine WS.det rfl rfl rfl (det_assign rfl) rfl ?_
        refine WS.done ?_
        refine QS.sel [2, 2] rfl ?_
        exact QS.head (e + 1) rfl rfl ⟨⟨by omega, by omega, fun j h0 h1 => by
           rcases (show j < e ∨ j = e by omega) with h | h
           ·
            exact he3 j h0 h
           ·
            rw [h]; exact way_e hc9.1.1 hc9.1.2 (clB_iff.1 hc9.2)⟩, by omega⟩
      ·
       refine WS.alloc zv74 (fun _ => rfl) ?_; intro b12 hb12
       refine WS.done ?_
       refine QS.then_AS ?_
       refine AS.one (i := 10) (by kernel_rfl) rfl (by first | exact fun _ h => h | exact fun _ h => h.sub (by repeat first | exact List.Sublist.refl _ | apply List.Sublist.cons_cons | apply List.Sublist.cons)) rfl ?_
       refine WS.alloc zv74 (fun _ => rfl) ?_; intro b11 hb11
       refine WS.done ?_
       refine QS.then_AS ?_
       refine AS.one (i := 12) (by kernel_rfl) rfl (by first | exact fun _ h => h | exact fun _ h => h.sub (by repeat first | exact List.Sublist.refl _ | apply List.Sublist.cons_cons | apply List.Sublist.cons)) rfl ?_
       first | refine WS.storeW (j := 0) rfl rfl rfl rfl (by first | (simp [Value.oneCell']; done) | ((repeat (refine List.forall_mem_cons.2 ⟨by first | rfl | assumption, ?_⟩)); exact fun _ h => absurd h List.not_mem_nil) | exact Cel.one _ w _ (by first | assumption | exact trivial)) tk74 rfl rfl ?_
       refine WS.done ?_
       refine QS.then_AS ?_
       refine AS.one (i := 13) (by kernel_rfl) rfl (by first | exact fun _ h => h | exact fun _ h => h.sub (by repeat first | exact List.Sublist.refl _ | apply List.Sublist.cons_cons | apply List.Sublist.cons)) rfl ?_
       first | refine WS.storeW (j := 1) rfl rfl rfl rfl (by first | (simp [Value.oneCell']; done) | ((repeat (refine List.forall_mem_cons.2 ⟨by first | rfl | assumption, ?_⟩)); exact fun _ h => absurd h List.not_mem_nil) | exact Cel.one _ w _ (by first | assumption | exact trivial)) tk74 rfl rfl ?_
       refine WS.done ?_
       refine QS.then_AS ?_
       refine AS.done (by kernel_rfl) (by first | exact fun _ h => h | exact fun _ h => h.sub (by repeat first | exact List.Sublist.refl _ | apply List.Sublist.cons_cons | apply List.Sublist.cons)) ?_
       refine QS.then_code ?_
       refine N3 ?_
       refine WS.det rfl rfl rfl ((by first | exact det_fieldAddr rfl fo74_0 | exact det_fieldAddrS rfl fo74_0)) rfl ?_
       refine WS.det rfl rfl rfl ((by first | exact det_loadb (j := 0) rfl rfl rfl tk3 | exact det_loadw rfl (by assumption) rfl tk3)) rfl ?_
       refine WS.det rfl rfl rfl ((by first | exact det_fieldAddr rfl fo74_0 | exact det_fieldAddrS rfl fo74_0)) rfl ?_
       refine WS.det rfl rfl rfl ((by first | exact det_loadb (j := 1) rfl rfl rfl tk3 | exact det_loadw rfl (by assumption) rfl tk3)) rfl ?_
       refine WS.det rfl rfl rfl (det_ne rfl rfl) rfl ?_
       refine WS.det rfl rfl rfl (det_move rfl) rfl ?_
       refine WS.guardF rfl rfl rfl rfl (fun hg => (by first | exact det_fieldAddr rfl fo74_1 | exact det_fieldAddrS rfl fo74_1)) rfl ?_
       refine WS.guardF rfl rfl rfl rfl (fun hg => (by first | exact det_loadb (j := 0) (ev_cond hg rfl) rfl rfl tk3 | exact det_loadw (ev_cond hg rfl) (by assumption) rfl tk3)) rfl ?_
       refine WS.guardF rfl rfl rfl rfl (fun hg => (by first | exact det_fieldAddr rfl fo74_1 | exact det_fieldAddrS rfl fo74_1)) rfl ?_
       refine WS.guardF rfl rfl rfl rfl (fun hg => (by first | exact det_loadb (j := 1) (ev_cond hg rfl) rfl rfl tk3 | exact det_loadw (ev_cond hg rfl) (by assumption) rfl tk3)) rfl ?_
       refine WS.guardF rfl rfl rfl rfl (fun hg => det_ne (ev_cond hg rfl) (ev_cond hg rfl)) rfl ?_
       refine WS.det rfl rfl rfl (det_pick_or rfl rfl rfl) rfl ?_
       refine WS.det rfl rfl rfl (det_move rfl) rfl ?_
       refine WS.guardF rfl rfl rfl rfl (fun hg => (by first | exact det_fieldAddr rfl fo74_2 | exact det_fieldAddrS rfl fo74_2)) rfl ?_
       refine WS.guardF rfl rfl rfl rfl (fun hg => (by first | exact det_loadb (j := 0) (ev_cond hg rfl) rfl rfl tk29 | exact det_loadw (ev_cond hg rfl) (by assumption) rfl tk29)) rfl ?_
       refine WS.guardF rfl rfl rfl rfl (fun hg => (by first | exact det_fieldAddr rfl fo74_2 | exact det_fieldAddrS rfl fo74_2)) rfl ?_
       refine WS.guardF rfl rfl rfl rfl (fun hg => (by first | exact det_loadb (j := 1) (ev_cond hg rfl) rfl rfl tk29 | exact det_loadw (ev_cond hg rfl) (by assumption) rfl tk29)) rfl ?_
       refine WS.guardF rfl rfl rfl rfl (fun hg => det_callB rfl (evs_cons (ev_cond hg rfl) (evs_cons (ev_cond hg rfl) evs_nil)) ent65 (fun u hu => sameCond_c _ _ u (aw.st hu) (bw.st hu))) rfl ?_
       refine WS.guardF rfl rfl rfl rfl (fun hg => det_not (ev_cond hg rfl)) rfl ?_
       refine WS.det rfl rfl rfl (det_pick_or rfl rfl rfl) rfl ?_
       refine N4 ?_
       refine CS.cond rfl (fun hc9 => ?_) (fun hc9 => ?_) <;> (try simp only [bq] at hc9)
       ·
        refine N3 ?_
        refine WS.det rfl rfl rfl (det_assign rfl) rfl ?_
        refine N4 ?_
        refine CS.ret ?_
        refine QS.block_ret ?_
        iterate 2 refine QS.then_ret ?_
        refine QS.block_ret ?_
        refine QS.then_ret ?_
        exact out1 rfl rfl (retBe (by rw [clB_f (fun h => by
           have q := (alike h).wy e
           simp only [q.1, q.2.1, q.2.2, clB_t] at hc9
           simp at hc9)]))
       ·
        refine CS.skip ?_
        refine QS.block_normal ?_
        refine QS.then_code ?_
        refine CS.region ?_
        refine WS.det rfl rfl rfl (det_move rfl) rfl ?_
        refine WS.det rfl rfl rfl (det_add rfl rfl (by omega)) rfl ?_
        refine WS.det rfl rfl rfl (det_assign rfl) rfl ?_
        refine WS.done ?_
        refine QS.sel [2, 2] rfl ?_
        exact QS.head (e + 1) rfl rfl ⟨⟨by omega, by omega, fun j h0 h1 => by
           rcases (show j < e ∨ j = e by omega) with h | h
           ·
            exact he3 j h0 h
           ·
            rw [h]; exact way_e hc9.1.1 hc9.1.2 (clB_iff.1 hc9.2)⟩, by omega⟩
     ·
      refine CS.leave ?_
      iterate 2 refine QS.then_exit ?_
      refine QS.block_exit ?_
      refine QS.then_code ?_
      refine CS.seq ?_
      refine N3 ?_
      refine WS.det rfl rfl rfl (det_assign rfl) rfl ?_
      refine N4 ?_
      refine CS.block ?_
      refine CS.loopM (σ := Int) [4, 192, 193, 194, 195, 196, 197, 198, 199, 200, 201, 202, 203, 204, 205, 206, 207, 208, 209, 210] (fun s => [(13, .int .i64 s)]) (fun _ => _) (fun s => 0 ≤ s ∧ s ≤ a.acs.l.length ∧ ∀ j : Int, 0 ≤ j → j < s → (nth a.acs.l j).e = (nth b.acs.l j).e) (fun s => (a.acs.l.length - s).toNat) 0 (fun _ _ => rfl) rfl rfl ⟨by omega, by omega, fun j _ _ => by omega⟩ ?_
      intro f t hs
      obtain ⟨hf1, hf2, hf3⟩ := hs
      refine CS.seq ?_
      refine N3 ?_
      refine WS.det rfl rfl rfl (det_move rfl) rfl ?_
      refine WS.det rfl rfl rfl ((by first | exact det_fieldAddr rfl fo31_4 | exact det_fieldAddrS rfl fo31_4)) rfl ?_
      refine WS.det rfl rfl rfl ((by first | exact det_loadb (j := 1) rfl rfl rfl tk26 | exact det_loadw rfl (by assumption) rfl tk26)) rfl ?_
      refine WS.det rfl rfl rfl (det_lenU sl26 rfl (by assumption)) rfl ?_
      refine WS.det rfl rfl rfl (det_lt rfl rfl) rfl ?_
      refine N4 ?_
      refine CS.cond rfl (fun hc10 => ?_) (fun hc10 => ?_) <;> (try simp only [bq] at hc10)
      ·
       have aw : ActOk w (nth a.acs.l f) := ha.acs.at hf1 (by omega)
       have bw : ActOk w (nth b.acs.l f) := hb.acs.at hf1 (by omega)
       refine CS.skip ?_
       refine QS.then_code ?_
       refine CS.seq ?_
       refine CS.block ?_
       refine CS.seq ?_
       refine CS.draw mixed (by kernel_rfl) (by kernel_rfl) ?_
       refine DS.det rfl rfl ((by first | exact det_fieldAddr rfl fo31_4 | exact det_fieldAddrS rfl fo31_4)) rfl ?_
       refine DS.det rfl rfl ((by first | exact det_loadb (j := 1) rfl rfl rfl tk26 | exact det_loadw rfl (by assumption) rfl tk26)) rfl ?_
       refine DS.det rfl rfl (det_move rfl) rfl ?_
       refine DS.det rfl rfl (det_idxU sl26 rfl rfl (by assumption) rfl (by omega) (by omega)) rfl ?_
       refine DS.det rfl rfl ((by first | exact det_ldU rfl (by assumption) rfl ⟨(by omega), (by omega)⟩ rfl tk77)) rfl ?_
       refine DS.det rfl rfl ((by first | exact det_fieldAddr rfl fo31_4 | exact det_fieldAddrS rfl fo31_4)) rfl ?_
       refine DS.det rfl rfl ((by first | exact det_loadb (j := 0) rfl rfl rfl tk26 | exact det_loadw rfl (by assumption) rfl tk26)) rfl ?_
       refine DS.det rfl rfl (det_move rfl) rfl ?_
       refine DS.det rfl rfl (det_idxU sl26 rfl rfl (by assumption) rfl (by omega) (by omega)) rfl ?_
       refine DS.det rfl rfl ((by first | exact det_ldU rfl (by assumption) rfl ⟨(by omega), (by omega)⟩ rfl tk77)) rfl ?_
       refine DS.det rfl rfl (det_callB rfl rfl ent66 (fun u hu => sameAct_c (nth a.acs.l f) (nth b.acs.l f) u (cAct.ext _ _ _ aw hu.below) (cAct.ext _ _ _ bw hu.below))) rfl ?_
       refine DS.det rfl rfl (det_not rfl) rfl ?_
       refine DS.done ?_
       refine QS.then_code ?_
       refine CS.cond rfl (fun hc11 => ?_) (fun hc11 => ?_) <;> (try simp only [bq] at hc11)
       ·
        refine N3 ?_
        refine WS.det rfl rfl rfl (det_assign rfl) rfl ?_
        refine N4 ?_
        refine CS.ret ?_
        refine QS.block_ret ?_
        iterate 2 refine QS.then_ret ?_
        refine QS.block_ret ?_
        refine QS.then_ret ?_
        exact out1 rfl rfl (retBe (by rw [clB_f (fun h => by rw [clB_t ((alike h).ac f)] at hc11; cases hc11)]))
       ·
        refine CS.skip ?_
        refine QS.block_normal ?_
        refine QS.then_code ?_
        refine CS.region ?_
        refine WS.det rfl rfl rfl (det_move rfl) rfl ?_
        refine WS.det rfl rfl rfl (det_add rfl rfl (by omega)) rfl ?_
        refine WS.det rfl rfl rfl (det_assign rfl) rfl ?_
        refine WS.done ?_
        exact QS.head (f + 1) rfl rfl ⟨⟨by omega, by omega, fun j h0 h1 => by
           rcases (show j < f ∨ j = f by omega) with h | h
           ·
            exact hf3 j h0 h
           ·
            rw [h]; exact clB_iff.1 hc11⟩, by omega⟩
      ·
       refine CS.leave ?_
       iterate 2 refine QS.then_exit ?_
       refine QS.block_exit ?_
       refine QS.then_code ?_
       refine CS.seq ?_
       refine N3 ?_
       refine WS.det rfl rfl rfl (det_assign rfl) rfl ?_
       refine N4 ?_
       refine CS.block ?_
       refine CS.loopM (σ := Int) [4, 211, 212, 213, 214, 215, 216, 217, 218, 219, 220, 221, 222, 223, 224, 225, 226, 227, 228, 229, 230, 231, 232, 233, 234, 235, 236, 237, 238, 239, 240, 241, 242, 243, 244, 245, 246] (fun s => [(14, .int .i64 s)]) (fun _ => _) (fun s => 0 ≤ s ∧ s ≤ a.aus.l.length ∧ ∀ j : Int, 0 ≤ j → j < s → (nth a.aus.l j).e = (nth b.aus.l j).e) (fun s => (a.aus.l.length - s).toNat) 0 (fun _ _ => rfl) rfl rfl ⟨by omega, by omega, fun j _ _ => by omega⟩ ?_
       intro k t hs
       obtain ⟨hk1, hk2, hk3⟩ := hs
       refine CS.seq ?_
       refine N3 ?_
       refine WS.det rfl rfl rfl (det_move rfl) rfl ?_
       refine WS.det rfl rfl rfl ((by first | exact det_fieldAddr rfl fo31_5 | exact det_fieldAddrS rfl fo31_5)) rfl ?_
       refine WS.det rfl rfl rfl ((by first | exact det_loadb (j := 1) rfl rfl rfl tk27 | exact det_loadw rfl (by assumption) rfl tk27)) rfl ?_
       refine WS.det rfl rfl rfl (det_lenU sl27 rfl (by assumption)) rfl ?_
       refine WS.det rfl rfl rfl (det_lt rfl rfl) rfl ?_
       refine N4 ?_
       refine CS.cond rfl (fun hc12 => ?_) (fun hc12 => ?_) <;> (try simp only [bq] at hc12)
       ·
        have aw : SlT cLit w (nth a.aus.l k).wh := ha.aus.at hk1 (by omega)
        have bw : SlT cLit w (nth b.aus.l k).wh := hb.aus.at hk1 (by omega)
        refine CS.skip ?_
        refine QS.then_code ?_
        refine CS.seq ?_
        refine CS.block ?_
        refine CS.seq ?_
        refine CS.draw mixed (by kernel_rfl) (by kernel_rfl) ?_
        refine DS.det rfl rfl ((by first | exact det_fieldAddr rfl fo31_5 | exact det_fieldAddrS rfl fo31_5)) rfl ?_
        refine DS.det rfl rfl ((by first | exact det_loadb (j := 1) rfl rfl rfl tk27 | exact det_loadw rfl (by assumption) rfl tk27)) rfl ?_
        refine DS.det rfl rfl (det_move rfl) rfl ?_
        refine DS.det rfl rfl (det_idxU sl27 rfl rfl (by assumption) rfl (by omega) (by omega)) rfl ?_
        refine DS.det rfl rfl ((by first | exact det_fieldAddr rfl fo81_1 | exact det_fieldAddrS rfl fo81_1)) rfl ?_
        refine DS.det rfl rfl (det_ldUs 3 1 2 rfl aaus rfl ⟨by omega, by omega⟩ rfl rfl tk79) rfl ?_
        refine DS.det rfl rfl ((by first | exact det_fieldAddr rfl fo31_5 | exact det_fieldAddrS rfl fo31_5)) rfl ?_
        refine DS.det rfl rfl ((by first | exact det_loadb (j := 0) rfl rfl rfl tk27 | exact det_loadw rfl (by assumption) rfl tk27)) rfl ?_
        refine DS.det rfl rfl (det_move rfl) rfl ?_
        refine DS.det rfl rfl (det_idxU sl27 rfl rfl (by assumption) rfl (by omega) (by omega)) rfl ?_
        refine DS.det rfl rfl ((by first | exact det_fieldAddr rfl fo81_1 | exact det_fieldAddrS rfl fo81_1)) rfl ?_
        refine DS.det rfl rfl (det_ldUs 3 1 2 rfl baus rfl ⟨by omega, by omega⟩ rfl rfl tk79) rfl ?_
        refine DS.det rfl rfl (det_neAgg agPut rfl rfl (@putp_eq (nth a.aus.l k) (nth b.aus.l k))) rfl ?_
        refine DS.det rfl rfl (det_move rfl) rfl ?_
        refine DS.guardF rfl rfl rfl (fun hg => (by first | exact det_fieldAddr rfl fo31_5 | exact det_fieldAddrS rfl fo31_5)) rfl ?_
        refine DS.guardF rfl rfl rfl (fun hg => (by first | exact det_loadb (j := 1) (ev_cond hg rfl) rfl rfl tk27 | exact det_loadw (ev_cond hg rfl) (by assumption) rfl tk27)) rfl ?_
        refine DS.guardF rfl rfl rfl (fun hg => det_move rfl) rfl ?_
        refine DS.guardF rfl rfl rfl (fun hg => det_idxU sl27 (ev_cond hg rfl) (ev_cond hg rfl) (by assumption) rfl (by (try simp only [bq] at hg); omega) (by (try simp only [bq] at hg); omega)) rfl ?_
        refine DS.guardF rfl rfl rfl (fun hg => (by first | exact det_fieldAddr (ev_cond hg rfl) fo81_0 | exact det_fieldAddrS (ev_cond hg rfl) fo81_0)) rfl ?_
        refine DS.guardF rfl rfl rfl (fun hg => (by first | exact det_ldUc 3 0 (ev_cond hg rfl) (by assumption) rfl ⟨(by (try simp only [bq] at hg); omega), (by (try simp only [bq] at hg); omega)⟩ (by decide) rfl tk29)) rfl ?_
        refine DS.guardF rfl rfl rfl (fun hg => (by first | exact det_fieldAddr rfl fo31_5 | exact det_fieldAddrS rfl fo31_5)) rfl ?_
        refine DS.guardF rfl rfl rfl (fun hg => (by first | exact det_loadb (j := 0) (ev_cond hg rfl) rfl rfl tk27 | exact det_loadw (ev_cond hg rfl) (by assumption) rfl tk27)) rfl ?_
        refine DS.guardF rfl rfl rfl (fun hg => det_move rfl) rfl ?_
        refine DS.guardF rfl rfl rfl (fun hg => det_idxU sl27 (ev_cond hg rfl) (ev_cond hg rfl) (by assumption) rfl (by (try simp only [bq] at hg); omega) (by (try simp only [bq] at hg); omega)) rfl ?_
        refine DS.guardF rfl rfl rfl (fun hg => (by first | exact det_fieldAddr (ev_cond hg rfl) fo81_0 | exact det_fieldAddrS (ev_cond hg rfl) fo81_0)) rfl ?_
        refine DS.guardF rfl rfl rfl (fun hg => (by first | exact det_ldUc 3 0 (ev_cond hg rfl) (by assumption) rfl ⟨(by (try simp only [bq] at hg); omega), (by (try simp only [bq] at hg); omega)⟩ (by decide) rfl tk29)) rfl ?_
        refine DS.guardF rfl rfl rfl (fun hg => det_callB rfl (evs_cons (ev_cond hg rfl) (evs_cons (ev_cond hg rfl) evs_nil)) ent65 (fun u hu => sameCond_c _ _ u (aw.st hu) (bw.st hu))) rfl ?_
        refine DS.guardF rfl rfl rfl (fun hg => det_not (ev_cond hg rfl)) rfl ?_
        refine DS.det rfl rfl (det_pick_or rfl rfl rfl) rfl ?_
        refine DS.done ?_
        refine QS.then_code ?_
        refine CS.cond rfl (fun hc13 => ?_) (fun hc13 => ?_) <;> (try simp only [bq] at hc13)
        ·
         refine N3 ?_
         refine WS.det rfl rfl rfl (det_assign rfl) rfl ?_
         refine N4 ?_
         refine CS.ret ?_
         refine QS.block_ret ?_
         iterate 2 refine QS.then_ret ?_
         refine QS.block_ret ?_
         refine QS.then_ret ?_
         exact out1 rfl rfl (retBe (by rw [clB_f (fun h => by
            have q := (alike h).au k
            simp only [q.1, q.2.1, q.2.2, clB_t] at hc13
            simp at hc13)]))
        ·
         refine CS.skip ?_
         refine QS.block_normal ?_
         refine QS.then_code ?_
         refine CS.region ?_
         refine WS.det rfl rfl rfl (det_move rfl) rfl ?_
         refine WS.det rfl rfl rfl (det_add rfl rfl (by omega)) rfl ?_
         refine WS.det rfl rfl rfl (det_assign rfl) rfl ?_
         refine WS.done ?_
         exact QS.head (k + 1) rfl rfl ⟨⟨by omega, by omega, fun j h0 h1 => by
            rcases (show j < k ∨ j = k by omega) with h | h
            ·
             exact hk3 j h0 h
            ·
             rw [h]; exact auto_e hc13.1.1 hc13.1.2 (clB_iff.1 hc13.2)⟩, by omega⟩
       ·
        refine CS.leave ?_
        iterate 2 refine QS.then_exit ?_
        refine QS.block_exit ?_
        refine QS.then_code ?_
        refine N3 ?_
        refine WS.det rfl rfl rfl (det_assign rfl) rfl ?_
        refine N4 ?_
        refine CS.ret ?_
        exact out1 rfl rfl (retBe (by rw [clB_t (room_e (eq_nth hc2 (by omega) ha_3) (eq_nth hc4 (by omega) hb_3) (map_eq_nth Pro.e hc6 (by omega) hd3) (map_eq_nth Way.e hc8 (by omega) he3) (map_eq_nth Actn.e hc10 (by omega) hf3) (map_eq_nth Auto.e hc12 (by omega) hk3) (by omega) hgl)]))
end Go.Proofs.YtgbofmnbakfalaaDoor
