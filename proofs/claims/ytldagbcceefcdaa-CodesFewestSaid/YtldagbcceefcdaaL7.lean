/- Contracts of functions, printed by a program of the prover (gen.py). -/
import Derived.Test.YtldagbcceefcdaaL6
import Derived.Test.YtldagbcceefcdaaLeft
namespace Go.Proofs.Ytldagbcceefcdaa
open Go.RowKit Go.Proofs
set_option maxRecDepth 100000
set_option linter.unusedVariables false
set_option linter.unusedSimpArgs false

theorem before_c (xs ys : List Int) (v1 v2 : Value) (w : World) (h1 : SlI w v1 xs) (h2 : SlI w v2 ys) :
    Calls Try.prog 36 #[v1, v2] w (RetB w (.bool (beforeB xs ys))) := by
  have hl1 := h1.le
  have hl2 := h2.le
  refine enter Try.func36 rfl rfl (Nat.le_of_ble_eq_true rfl) ?_
  refine CS.seq ?_
  refine CS.region ?_
  refine WS.det rfl rfl rfl (det_assign rfl) rfl ?_ -- r0.0 outright.go:54
  refine WS.done ?_
  refine QS.then_code ?_
  refine CS.seq ?_
  refine CS.seq ?_
  refine CS.region ?_
  refine WS.det rfl rfl rfl (det_assign rfl) rfl ?_ -- r1.0 outright.go:55
  refine WS.done ?_
  refine QS.then_code ?_
  refine CS.block ?_
  refine CS.loopM (σ := Int) [4, 6, 7, 8, 9, 10, 11, 12, 13, 14, 15, 16, 17, 18, 19, 20, 21, 22, 23, 24, 25, 26, 27, 28, 29, 30, 31, 32, 33, 34, 35] (fun s => [(5, .int .i64 s)]) (fun _ => _) (fun s => 0 ≤ s ∧ s ≤ xs.length ∧ beforeB xs ys = beforeB (xs.drop s.toNat) (ys.drop s.toNat)) (fun s => (xs.length - s).toNat) 0 (fun _ _ => rfl) rfl rfl ⟨by omega, by omega, rfl⟩ ?_
  intro s t hs
  obtain ⟨hs1, hs2, hs3⟩ := hs
  refine CS.seq ?_
  refine CS.seq ?_
  refine CS.region ?_
  refine WS.det rfl rfl rfl (det_move rfl) rfl ?_ -- r2.0 outright.go:55
  refine WS.det rfl rfl rfl (det_move rfl) rfl ?_ -- r2.1 outright.go:55
  refine WS.det rfl rfl rfl ((by first | exact det_lenS sl24 rfl (by assumption) | exact det_lenS sl24 rfl (by first | exact SlL.sp (by assumption) | exact ClS.sp (by assumption)) | exact det_lenO sl24 rfl | exact det_lenV sl24 rfl ⟨_, _, rfl⟩)) rfl ?_ -- r2.2 outright.go:55
  refine WS.det rfl rfl rfl (det_lt rfl rfl) rfl ?_ -- r2.3 outright.go:55
  refine WS.det rfl rfl rfl (det_move rfl) rfl ?_ -- r2.4 outright.go:55
  refine WS.guardT rfl rfl rfl rfl (fun hg => det_move rfl) rfl ?_ -- r2.5 outright.go:55
  refine WS.guardT rfl rfl rfl rfl (fun hg => det_move rfl) rfl ?_ -- r2.6 outright.go:55
  refine WS.guardT rfl rfl rfl rfl (fun hg => (by first | exact det_lenS sl24 (ev_cond hg rfl) (by assumption) | exact det_lenS sl24 (ev_cond hg rfl) (by first | exact SlL.sp (by assumption) | exact ClS.sp (by assumption)) | exact det_lenO sl24 (ev_cond hg rfl) | exact det_lenV sl24 (ev_cond hg rfl) ⟨_, _, rfl⟩)) rfl ?_ -- r2.7 outright.go:55
  refine WS.guardT rfl rfl rfl rfl (fun hg => det_lt (ev_cond hg rfl) (ev_cond hg rfl)) rfl ?_ -- r2.8 outright.go:55
  refine WS.det rfl rfl rfl (det_pick_and rfl rfl rfl) rfl ?_ -- r2.9 outright.go:55
  refine WS.done ?_
  refine QS.then_code ?_
  refine CS.cond rfl (fun hc1 => ?_) (fun hc1 => ?_) <;> (try simp only [decide_eq_true_eq, decide_eq_false_iff_not, Bool.and_eq_true, Bool.or_eq_true, Bool.and_eq_false_iff, Bool.or_eq_false_iff, Bool.not_eq_true', Bool.not_eq_false', ne_eq, Decidable.not_not, Bool.not_true, Bool.not_false, bne_iff_ne, bne_eq_false_iff_eq, beq_iff_eq, beq_eq_false_iff_ne] at hc1)
  · skip
    refine CS.skip ?_
    refine QS.then_code ?_
    refine CS.seq ?_
    refine CS.block ?_
    refine CS.seq ?_
    refine CS.draw mixed (by kernel_rfl) (by kernel_rfl) ?_
    refine DS.det rfl rfl (det_move rfl) rfl ?_ -- r4.0 outright.go:56
    refine DS.det rfl rfl (det_move rfl) rfl ?_ -- r4.1 outright.go:56
    refine DS.det rfl rfl ((by first | exact det_idxI sl24 rfl rfl (by assumption) (by omega) (by omega) | exact det_idxO sl24 rfl rfl (by omega) (by omega))) rfl ?_ -- r4.2 outright.go:56
    refine DS.det rfl rfl ((by first | exact det_ldI rfl (by assumption) (by omega) tk3 | exact det_loadb (j := 0) rfl rfl rfl tk3 | exact det_loadb (j := 1) rfl rfl rfl tk3 | exact det_loadb (j := 2) rfl rfl rfl tk3 | exact det_loadb (j := 3) rfl rfl rfl tk3 | exact det_loadw rfl (by assumption) rfl tk3)) rfl ?_ -- r4.3 outright.go:56
    refine DS.det rfl rfl (det_move rfl) rfl ?_ -- r4.4 outright.go:56
    refine DS.det rfl rfl (det_move rfl) rfl ?_ -- r4.5 outright.go:56
    refine DS.det rfl rfl ((by first | exact det_idxI sl24 rfl rfl (by assumption) (by omega) (by omega) | exact det_idxO sl24 rfl rfl (by omega) (by omega))) rfl ?_ -- r4.6 outright.go:56
    refine DS.det rfl rfl ((by first | exact det_ldI rfl (by assumption) (by omega) tk3 | exact det_loadb (j := 0) rfl rfl rfl tk3 | exact det_loadb (j := 1) rfl rfl rfl tk3 | exact det_loadb (j := 2) rfl rfl rfl tk3 | exact det_loadb (j := 3) rfl rfl rfl tk3 | exact det_loadw rfl (by assumption) rfl tk3)) rfl ?_ -- r4.7 outright.go:56
    refine DS.det rfl rfl (det_ne rfl rfl) rfl ?_ -- r4.8 outright.go:56
    refine DS.done ?_
    refine QS.then_code ?_
    refine CS.cond rfl (fun hc2 => ?_) (fun hc2 => ?_) <;> (try simp only [decide_eq_true_eq, decide_eq_false_iff_not, Bool.and_eq_true, Bool.or_eq_true, Bool.and_eq_false_iff, Bool.or_eq_false_iff, Bool.not_eq_true', Bool.not_eq_false', ne_eq, Decidable.not_not, Bool.not_true, Bool.not_false, bne_iff_ne, bne_eq_false_iff_eq, beq_iff_eq, beq_eq_false_iff_ne] at hc2)
    · skip
      refine CS.seq ?_
      refine CS.draw mixed (by kernel_rfl) (by kernel_rfl) ?_
      refine DS.det rfl rfl (det_move rfl) rfl ?_ -- r5.0 outright.go:57
      refine DS.det rfl rfl (det_move rfl) rfl ?_ -- r5.1 outright.go:57
      refine DS.det rfl rfl ((by first | exact det_idxI sl24 rfl rfl (by assumption) (by omega) (by omega) | exact det_idxO sl24 rfl rfl (by omega) (by omega))) rfl ?_ -- r5.2 outright.go:57
      refine DS.det rfl rfl ((by first | exact det_ldI rfl (by assumption) (by omega) tk3 | exact det_loadb (j := 0) rfl rfl rfl tk3 | exact det_loadb (j := 1) rfl rfl rfl tk3 | exact det_loadb (j := 2) rfl rfl rfl tk3 | exact det_loadb (j := 3) rfl rfl rfl tk3 | exact det_loadw rfl (by assumption) rfl tk3)) rfl ?_ -- r5.3 outright.go:57
      refine DS.det rfl rfl (det_move rfl) rfl ?_ -- r5.4 outright.go:57
      refine DS.det rfl rfl (det_move rfl) rfl ?_ -- r5.5 outright.go:57
      refine DS.det rfl rfl ((by first | exact det_idxI sl24 rfl rfl (by assumption) (by omega) (by omega) | exact det_idxO sl24 rfl rfl (by omega) (by omega))) rfl ?_ -- r5.6 outright.go:57
      refine DS.det rfl rfl ((by first | exact det_ldI rfl (by assumption) (by omega) tk3 | exact det_loadb (j := 0) rfl rfl rfl tk3 | exact det_loadb (j := 1) rfl rfl rfl tk3 | exact det_loadb (j := 2) rfl rfl rfl tk3 | exact det_loadb (j := 3) rfl rfl rfl tk3 | exact det_loadw rfl (by assumption) rfl tk3)) rfl ?_ -- r5.7 outright.go:57
      refine DS.det rfl rfl (det_lt rfl rfl) rfl ?_ -- r5.8 outright.go:57
      refine DS.det rfl rfl (det_assign rfl) rfl ?_ -- r5.9 outright.go:57
      refine DS.done ?_
      refine QS.then_code ?_
      refine CS.ret ?_
      refine QS.block_ret ?_
      refine QS.then_ret ?_
      refine QS.then_ret ?_
      refine QS.block_ret ?_
      refine QS.then_ret ?_
      exact out1 rfl rfl (retBe (by rw [hs3, before_step hs1 (by omega) (by omega), if_neg hc2])) -- ret 1
    · skip
      refine CS.skip ?_
      refine QS.block_normal ?_
      refine QS.then_code ?_
      refine CS.region ?_
      refine WS.det rfl rfl rfl (det_move rfl) rfl ?_ -- r3.0 outright.go:55
      refine WS.det rfl rfl rfl (det_add rfl rfl (by omega)) rfl ?_ -- r3.1 outright.go:55
      refine WS.det rfl rfl rfl (det_assign rfl) rfl ?_ -- r3.2 outright.go:55
      refine WS.done ?_
      exact QS.head (s + 1) rfl rfl ⟨⟨by omega, by omega, by rw [hs3, before_step hs1 (by omega) (by omega), if_pos hc2]⟩, by omega⟩
  · skip
    refine CS.leave ?_
    refine QS.then_exit ?_
    refine QS.then_exit ?_
    refine QS.block_exit ?_
    refine QS.then_code ?_
    refine CS.seq ?_
    refine CS.region ?_
    refine WS.det rfl rfl rfl (det_assign rfl) rfl ?_ -- r6.0 outright.go:60
    refine WS.done ?_
    refine QS.then_code ?_
    refine CS.ret ?_
    exact out1 rfl rfl (retBe (by rw [hs3, before_out (by omega)])) -- ret 2

set_option maxHeartbeats 1000000 in
theorem CodesExact_c (lw ls : Int) (cs : List Clue) (gs : List Value) (cv : Value) (c : Clue) (gv : Value) (xs : List Int) (xv : Value) (w : World) (hk : ClS w cv cs gs) (hg1 : SlI w gv c.g) (h2 : SlI w xv xs) :
    Calls Try.prog 8 #[.agg #[.int .i64 lw, .int .i64 ls], cv, .agg #[.int .i64 c.k, .int .i64 c.a, .int .i64 c.b, .int .i64 c.n, .int .i64 c.m, gv, .bool c.nt, xv]] w (RetB w (.bool true)) := by
  obtain ⟨hgn, p, cap, rfl, hcap, hp⟩ := hg1
  have hg1 : SlI w (.slice p c.g.length cap) c.g := ⟨hgn, p, cap, rfl, hcap, hp⟩
  clear hgn hcap hp
  have hkl := hk.le
  have hal := clFlat_one (cs := cs) hk.one
  refine enter Try.func8 rfl rfl (Nat.le_of_ble_eq_true rfl) ?_
  refine CS.seq ?_
  refine CS.region ?_
  refine WS.box rfl rfl (fun _ => rfl) ?_; intro b3 hb3 -- r0.0 outright.go:18
  refine WS.box rfl rfl (fun _ => rfl) ?_; intro b5 hb5 -- r0.1 outright.go:18
  refine WS.det rfl rfl rfl (det_assign rfl) rfl ?_ -- r0.2 outright.go:18
  refine WS.done ?_
  refine QS.then_code ?_
  refine CS.seq ?_
  refine CS.seq ?_
  refine CS.region ?_
  refine WS.det rfl rfl rfl ((by first | exact det_loadb0 (j := 1) rfl rfl tk23 | exact det_loadbN (j := 1) rfl rfl (by rfl) tk23 | exact det_loadwN rfl (by assumption) (by rfl) tk23 | exact det_loadbK (n := 2) (j := 1) rfl rfl rfl rfl tk23)) rfl ?_ -- r1.0 outright.go:19
  refine WS.det rfl rfl rfl (det_move rfl) rfl ?_ -- r1.1 outright.go:19
  refine WS.det rfl rfl rfl (det_callB rfl rfl ent33 (fun u hu => RCheckClues_c _ _ _ _ _ u (hk.st hu))) rfl ?_ -- r1.2 outright.go:19
  refine WS.det rfl rfl rfl (det_ne rfl rfl) rfl ?_ -- r1.3 outright.go:19
  refine WS.det rfl rfl rfl (det_move rfl) rfl ?_ -- r1.4 outright.go:19
  refine WS.guardF rfl rfl rfl rfl (fun hg => (by first | exact det_loadb0 (j := 1) rfl rfl tk23 | exact det_loadbN (j := 1) rfl rfl (by rfl) tk23 | exact det_loadwN rfl (by assumption) (by rfl) tk23 | exact det_loadbK (n := 2) (j := 1) rfl rfl rfl rfl tk23)) rfl ?_ -- r1.5 outright.go:19
  refine WS.guardF rfl rfl rfl rfl (fun hg => (by first | exact det_fieldAddr rfl fo47_0 | exact det_fieldAddrS rfl fo47_0)) rfl ?_ -- r1.6 outright.go:19
  refine WS.guardF rfl rfl rfl rfl (fun hg => (by first | exact det_ldCl (ev_cond hg rfl) (by assumption) (by (try simp only [decide_eq_true_eq, decide_eq_false_iff_not, Bool.and_eq_true, Bool.or_eq_true, Bool.and_eq_false_iff, Bool.or_eq_false_iff, Bool.not_eq_true', Bool.not_eq_false', ne_eq, Decidable.not_not, Bool.not_true, Bool.not_false, bne_iff_ne, bne_eq_false_iff_eq, beq_iff_eq, beq_eq_false_iff_ne] at hg); omega) tk36 | exact det_loadb0 (j := 0) (ev_cond hg rfl) rfl tk36 | exact det_loadbN (j := 0) (ev_cond hg rfl) rfl (by rfl) tk36 | exact det_loadwN (ev_cond hg rfl) (by assumption) (by rfl) tk36 | exact det_loadbK (n := 7) (j := 0) (ev_cond hg rfl) rfl rfl rfl tk36)) rfl ?_ -- r1.7 outright.go:19
  refine WS.guardF rfl rfl rfl rfl (fun hg => det_callB rfl (evs_cons (ev_cond hg rfl) (evs_cons (ev_cond hg rfl) evs_nil)) ent26 (fun u hu => RCheckClue_c _ _ _ _ u (hg1.st hu))) rfl ?_ -- r1.8 outright.go:19
  refine WS.guardF rfl rfl rfl rfl (fun hg => det_ne (ev_cond hg rfl) rfl) rfl ?_ -- r1.9 outright.go:19
  refine WS.det rfl rfl rfl (det_pick_or rfl rfl rfl) rfl ?_ -- r1.10 outright.go:19
  refine WS.det rfl rfl rfl (det_move rfl) rfl ?_ -- r1.11 outright.go:19
  refine WS.guardF rfl rfl rfl rfl (fun hg => det_move rfl) rfl ?_ -- r1.12 outright.go:19
  refine WS.guardF rfl rfl rfl rfl (fun hg => (by first | exact det_lenS sl31 (ev_cond hg rfl) (by assumption) | exact det_lenS sl31 (ev_cond hg rfl) (by first | exact SlL.sp (by assumption) | exact ClS.sp (by assumption)) | exact det_lenO sl31 (ev_cond hg rfl) | exact det_lenV sl31 (ev_cond hg rfl) ⟨_, _, rfl⟩)) rfl ?_ -- r1.13 outright.go:19
  refine WS.guardF rfl rfl rfl rfl (fun hg => det_ge (ev_cond hg rfl) rfl) rfl ?_ -- r1.14 outright.go:19
  refine WS.det rfl rfl rfl (det_pick_or rfl rfl rfl) rfl ?_ -- r1.15 outright.go:19
  refine WS.done ?_
  refine QS.then_code ?_
  refine CS.cond rfl (fun hc1 => ?_) (fun hc1 => ?_) <;> (try simp only [decide_eq_true_eq, decide_eq_false_iff_not, Bool.and_eq_true, Bool.or_eq_true, Bool.and_eq_false_iff, Bool.or_eq_false_iff, Bool.not_eq_true', Bool.not_eq_false', ne_eq, Decidable.not_not, Bool.not_true, Bool.not_false, bne_iff_ne, bne_eq_false_iff_eq, beq_iff_eq, beq_eq_false_iff_ne] at hc1)
  · skip
    refine CS.seq ?_
    refine CS.region ?_
    refine WS.det rfl rfl rfl (det_callB rfl rfl ent19 (fun u hu => works_c u)) rfl ?_ -- r2.0 outright.go:20
    refine WS.det rfl rfl rfl (det_assign rfl) rfl ?_ -- r2.1 outright.go:20
    refine WS.done ?_
    refine QS.then_code ?_
    refine CS.ret ?_
    refine QS.then_ret ?_
    exact out1 rfl rfl (retBe rfl) -- ret 1
  · skip
    have hce : cluesE lw ls cs = 0 := hc1.1.1
    have hcl := clueE_clue hc1.1.2
    have hL := cluesE_lock hce
    have hC := cluesE_clue hce
    have hs1 := cluesE_snoc hce hcl (by omega)
    have hs2 := cluesE_snoc hce (show clueB lw ls (opp c) = true from hcl) (by omega)
    have hsp := read_split lw ls cs c
    have hrb := readL_le hL cs
    have hz0 : (if cluesE lw ls cs = 0 then ((readL lw ls cs).length : Int) else 0) = (readL lw ls cs).length := if_pos hce
    have hz1 : (if cluesE lw ls (cs ++ [c]) = 0 then ((readL lw ls (cs ++ [c])).length : Int) else 0) = (readL lw ls (cs ++ [c])).length := if_pos hs1
    have hz2 : (if cluesE lw ls (cs ++ [opp c]) = 0 then ((readL lw ls (cs ++ [opp c])).length : Int) else 0) = (readL lw ls (cs ++ [opp c])).length := if_pos hs2
    have hre : rdE lw ls cs 64 = 0 := by simp [rdE, hce, within]
    have htl : ((readL lw ls cs).take (64 : Int).toNat).length = min (64 : Int).toNat (readL lw ls cs).length := List.length_take
    refine CS.skip ?_
    refine QS.then_code ?_
    refine CS.seq ?_
    refine CS.region ?_
    refine WS.det rfl rfl rfl ((by first | exact det_fieldAddr rfl fo47_0 | exact det_fieldAddrS rfl fo47_0)) rfl ?_ -- r3.0 outright.go:22
    refine WS.det rfl rfl rfl ((by first | exact det_ldCl rfl (by assumption) (by omega) tk36 | exact det_loadb0 (j := 0) rfl rfl tk36 | exact det_loadbN (j := 0) rfl rfl (by rfl) tk36 | exact det_loadwN rfl (by assumption) (by rfl) tk36 | exact det_loadbK (n := 7) (j := 0) rfl rfl rfl rfl tk36)) rfl ?_ -- r3.1 outright.go:22
    refine WS.alloc zv36 (fun _ => rfl) ?_; intro b7 hb7 -- r3.2 outright.go:22
    first | refine WS.storeW (j := 0) rfl rfl rfl rfl (by simp [Value.oneCell']) tk36 rfl rfl ?_ -- r3.3 outright.go:22
    refine WS.done ?_
    refine QS.then_code ?_
    refine CS.seq ?_
    refine CS.region ?_
    refine WS.det rfl rfl rfl ((by first | exact det_fieldAddr rfl fo36_6 | exact det_fieldAddrS rfl fo36_6)) rfl ?_ -- r4.0 outright.go:23
    refine WS.det rfl rfl rfl ((by first | exact det_loadb (j := 0) rfl rfl rfl tk4 | exact det_loadw rfl (by assumption) rfl tk4)) rfl ?_ -- r4.1 outright.go:23
    refine WS.det rfl rfl rfl (det_not rfl) rfl ?_ -- r4.2 outright.go:23
    refine WS.det rfl rfl rfl ((by first | exact det_fieldAddr rfl fo36_6 | exact det_fieldAddrS rfl fo36_6)) rfl ?_ -- r4.3 outright.go:23
    first | refine WS.store (j := 0) rfl rfl (by first | decide | omega | (simp; done) | (simp; omega)) rfl (by first | rfl | assumption) tk4 rfl rfl ?_ | refine WS.store (j := 0) rfl rfl (by first | decide | omega | (simp; done) | (simp; omega)) rfl (by first | rfl | assumption) tk4 (lset_eq _ _ _) rfl ?_ -- r4.4 outright.go:23
    refine WS.done ?_
    refine QS.then_code ?_
    refine CS.seq ?_
    refine CS.region ?_
    refine WS.det rfl rfl rfl ((by first | exact det_loadb0 (j := 2) rfl rfl tk23 | exact det_loadbN (j := 2) rfl rfl (by rfl) tk23 | exact det_loadwN rfl (by assumption) (by rfl) tk23 | exact det_loadbK (n := 2) (j := 2) rfl rfl rfl rfl tk23)) rfl ?_ -- r5.0 outright.go:24
    refine WS.det rfl rfl rfl (det_move rfl) rfl ?_ -- r5.1 outright.go:24
    refine WS.det rfl rfl rfl (det_callB rfl rfl ent34 (fun u hu => Count_c _ _ _ _ _ u (hk.st hu))) rfl ?_ -- r5.2 outright.go:24
    refine WS.det rfl rfl rfl (det_move rfl) rfl ?_ -- r5.3 outright.go:24
    refine WS.det rfl rfl rfl (det_extract rfl rfl) rfl ?_ -- r5.4 outright.go:24
    refine WS.det rfl rfl rfl (det_extract rfl rfl) rfl ?_ -- r5.5 outright.go:24
    refine WS.det rfl rfl rfl (det_assign rfl) rfl ?_ -- r5.6 outright.go:24
    refine WS.det rfl rfl rfl (det_assign rfl) rfl ?_ -- r5.7 outright.go:24
    refine WS.done ?_
    refine QS.then_code ?_
    refine CS.cut (σ := Unit) [53, 54, 55, 56, 57, 58, 59, 60, 61, 62, 63] (fun s => [(10, .int .i64 (if cluesE lw ls (cs ++ [c]) = 0 then ((readL lw ls (cs ++ [c])).length : Int) else 0)), (11, .int .i64 (cluesE lw ls (cs ++ [c])))]) (fun s => [blk b7 [.int .i64 c.k, .int .i64 c.a, .int .i64 c.b, .int .i64 c.n, .int .i64 c.m, .slice p c.g.length cap, .bool (!c.nt)] 36, blk b5 [.int .i64 c.k, .int .i64 c.a, .int .i64 c.b, .int .i64 c.n, .int .i64 c.m, .slice p c.g.length cap, .bool c.nt, xv] 47, blk b3 [.int .i64 lw, .int .i64 ls] 23]) (fun s => True) (fun _ _ => rfl) ?_ ?_
    · skip
      refine CS.drawnAll (k := 13) mixed rfl rfl ?_
      refine AS.take 0 rfl (by kernel_rfl) (by kernel_rfl) (by kernel_rfl) rfl rfl ((by first | exact det_loadb0 (j := 2) rfl rfl tk23 | exact det_loadbN (j := 2) rfl rfl (by rfl) tk23 | exact det_loadwN rfl (by assumption) (by rfl) tk23 | exact det_loadbK (n := 2) (j := 2) rfl rfl rfl rfl tk23)) rfl rfl ?_ -- r6.0 outright.go:25
      refine AS.take 1 rfl (by kernel_rfl) (by kernel_rfl) (by kernel_rfl) rfl rfl (det_move rfl) rfl rfl ?_ -- r6.1 outright.go:25
      refine AS.take 3 rfl (by kernel_rfl) (by kernel_rfl) (by kernel_rfl) rfl rfl ((by first | exact det_fieldAddr rfl fo47_0 | exact det_fieldAddrS rfl fo47_0)) rfl rfl ?_ -- r6.3 outright.go:25
      refine AS.take 4 rfl (by kernel_rfl) (by kernel_rfl) (by kernel_rfl) rfl rfl ((by first | exact det_ldCl rfl (by assumption) (by omega) tk36 | exact det_loadb0 (j := 1) rfl rfl tk36 | exact det_loadbN (j := 1) rfl rfl (by rfl) tk36 | exact det_loadwN rfl (by assumption) (by rfl) tk36 | exact det_loadbK (n := 7) (j := 1) rfl rfl rfl rfl tk36)) rfl rfl ?_ -- r6.4 outright.go:25
      refine AS.two (i := 2) (j := 5) (by kernel_rfl) rfl rfl (by first | exact fun _ h => h | exact fun _ h => h.sub (by repeat first | exact List.Sublist.refl _ | apply List.Sublist.cons_cons | apply List.Sublist.cons)) rfl rfl ?_ ?_
      · skip
        refine WS.appendNil (news := clFlat cs gs) sl31 zv36 rfl (by decide) rfl rfl (fun u hu => (hk.st hu).sp) hal (by omega) (by omega) (fun _ => rfl) ?_; intro v56 hv56 -- r6.2 outright.go:25
        refine WS.done ?_
        refine QS.then_AS ?_
        refine AS.one (i := 5) (by kernel_rfl) rfl (by first | exact fun _ h => h | exact fun _ h => h.sub (by repeat first | exact List.Sublist.refl _ | apply List.Sublist.cons_cons | apply List.Sublist.cons)) rfl ?_
        refine WS.buildC1 sl31 zv36 (c := c) (gv := .slice p c.g.length cap) rfl (fun _ => rfl) ?_; intro v59 -- r6.5 outright.go:25
        refine WS.done ?_
        refine QS.then_AS ?_
        refine AS.one (i := 6) (by kernel_rfl) rfl (by first | exact fun _ h => h | exact fun _ h => h.sub (by repeat first | exact List.Sublist.refl _ | apply List.Sublist.cons_cons | apply List.Sublist.cons)) rfl ?_
        refine WS.appendCl (j := 1) (jz := 0) sl31 zv36 rfl rfl rfl hk.len rfl rfl rfl (by omega) (by omega) (fun _ => rfl) (fun _ => rfl) ?_; intro v60 hv60 -- r6.6 outright.go:25
        refine WS.done ?_
        refine QS.then_AS ?_
        refine AS.one (i := 7) (by kernel_rfl) rfl (by first | exact fun _ h => h | exact fun _ h => h.sub (by repeat first | exact List.Sublist.refl _ | apply List.Sublist.cons_cons | apply List.Sublist.cons)) rfl ?_
        refine WS.det rfl rfl rfl (det_callB rfl rfl ent34 (fun u hu => Count_c _ _ _ _ _ u (ClS.snoc (c := c) (hk.st hu) (hg1.st hu) (osl_SlC hu (j := 1) rfl)))) rfl ?_ -- r6.7 outright.go:25
        refine WS.done ?_
        refine QS.then_AS ?_
        refine AS.take 8 rfl (by kernel_rfl) (by kernel_rfl) (by kernel_rfl) rfl rfl (det_move rfl) rfl rfl ?_ -- r6.8 outright.go:25
        refine AS.take 9 rfl (by kernel_rfl) (by kernel_rfl) (by kernel_rfl) rfl rfl (det_extract rfl rfl) rfl rfl ?_ -- r6.9 outright.go:25
        refine AS.take 10 rfl (by kernel_rfl) (by kernel_rfl) (by kernel_rfl) rfl rfl (det_extract rfl rfl) rfl rfl ?_ -- r6.10 outright.go:25
        refine AS.take 11 rfl (by kernel_rfl) (by kernel_rfl) (by kernel_rfl) rfl rfl (det_assign rfl) rfl rfl ?_ -- r6.11 outright.go:25
        refine AS.take 12 rfl (by kernel_rfl) (by kernel_rfl) (by kernel_rfl) rfl rfl (det_assign rfl) rfl rfl ?_ -- r6.12 outright.go:25
        refine AS.done (by kernel_rfl) (by first | exact fun _ h => h | exact fun _ h => h.sub (by repeat first | exact List.Sublist.refl _ | apply List.Sublist.cons_cons | apply List.Sublist.cons)) ?_
        refine QS.sel [2, 2, 2] rfl ?_
        exact QS.head (()) rfl rfl trivial
      · skip
        refine WS.buildC1 sl31 zv36 (c := c) (gv := .slice p c.g.length cap) rfl (fun _ => rfl) ?_; intro v59 -- r6.5 outright.go:25
        refine WS.done ?_
        refine QS.then_AS ?_
        refine AS.one (i := 2) (by kernel_rfl) rfl (by first | exact fun _ h => h | exact fun _ h => h.sub (by repeat first | exact List.Sublist.refl _ | apply List.Sublist.cons_cons | apply List.Sublist.cons)) rfl ?_
        refine WS.appendNil (news := clFlat cs gs) sl31 zv36 rfl (by decide) rfl rfl (fun u hu => (hk.st hu).sp) hal (by omega) (by omega) (fun _ => rfl) ?_; intro v56 hv56 -- r6.2 outright.go:25
        refine WS.done ?_
        refine QS.then_AS ?_
        refine AS.one (i := 6) (by kernel_rfl) rfl (by first | exact fun _ h => h | exact fun _ h => h.sub (by repeat first | exact List.Sublist.refl _ | apply List.Sublist.cons_cons | apply List.Sublist.cons)) rfl ?_
        refine WS.appendCl (j := 0) (jz := 1) sl31 zv36 rfl rfl rfl hk.len rfl rfl rfl (by omega) (by omega) (fun _ => rfl) (fun _ => rfl) ?_; intro v60 hv60 -- r6.6 outright.go:25
        refine WS.done ?_
        refine QS.then_AS ?_
        refine AS.one (i := 7) (by kernel_rfl) rfl (by first | exact fun _ h => h | exact fun _ h => h.sub (by repeat first | exact List.Sublist.refl _ | apply List.Sublist.cons_cons | apply List.Sublist.cons)) rfl ?_
        refine WS.det rfl rfl rfl (det_callB rfl rfl ent34 (fun u hu => Count_c _ _ _ _ _ u (ClS.snoc (c := c) (hk.st hu) (hg1.st hu) (osl_SlC hu (j := 0) rfl)))) rfl ?_ -- r6.7 outright.go:25
        refine WS.done ?_
        refine QS.then_AS ?_
        refine AS.take 8 rfl (by kernel_rfl) (by kernel_rfl) (by kernel_rfl) rfl rfl (det_move rfl) rfl rfl ?_ -- r6.8 outright.go:25
        refine AS.take 9 rfl (by kernel_rfl) (by kernel_rfl) (by kernel_rfl) rfl rfl (det_extract rfl rfl) rfl rfl ?_ -- r6.9 outright.go:25
        refine AS.take 10 rfl (by kernel_rfl) (by kernel_rfl) (by kernel_rfl) rfl rfl (det_extract rfl rfl) rfl rfl ?_ -- r6.10 outright.go:25
        refine AS.take 11 rfl (by kernel_rfl) (by kernel_rfl) (by kernel_rfl) rfl rfl (det_assign rfl) rfl rfl ?_ -- r6.11 outright.go:25
        refine AS.take 12 rfl (by kernel_rfl) (by kernel_rfl) (by kernel_rfl) rfl rfl (det_assign rfl) rfl rfl ?_ -- r6.12 outright.go:25
        refine AS.done (by kernel_rfl) (by first | exact fun _ h => h | exact fun _ h => h.sub (by repeat first | exact List.Sublist.refl _ | apply List.Sublist.cons_cons | apply List.Sublist.cons)) ?_
        refine QS.sel [2, 2, 2] rfl ?_
        exact QS.head (()) rfl rfl trivial
    · intro s t hs
      refine CS.cut (σ := Unit) [64, 65, 66, 67, 68, 69, 70, 71, 72, 73] (fun s => [(12, .int .i64 (if cluesE lw ls (cs ++ [(opp c)]) = 0 then ((readL lw ls (cs ++ [(opp c)])).length : Int) else 0)), (13, .int .i64 (cluesE lw ls (cs ++ [(opp c)])))]) (fun s => [blk b7 [.int .i64 c.k, .int .i64 c.a, .int .i64 c.b, .int .i64 c.n, .int .i64 c.m, .slice p c.g.length cap, .bool (!c.nt)] 36, blk b5 [.int .i64 c.k, .int .i64 c.a, .int .i64 c.b, .int .i64 c.n, .int .i64 c.m, .slice p c.g.length cap, .bool c.nt, xv] 47, blk b3 [.int .i64 lw, .int .i64 ls] 23]) (fun s => True) (fun _ _ => rfl) ?_ ?_
      · skip
        refine CS.drawnAll (k := 12) mixed rfl rfl ?_
        refine AS.take 0 rfl (by kernel_rfl) (by kernel_rfl) (by kernel_rfl) rfl rfl ((by first | exact det_loadb0 (j := 2) rfl rfl tk23 | exact det_loadbN (j := 2) rfl rfl (by rfl) tk23 | exact det_loadwN rfl (by assumption) (by rfl) tk23 | exact det_loadbK (n := 2) (j := 2) rfl rfl rfl rfl tk23)) rfl rfl ?_ -- r7.0 outright.go:26
        refine AS.take 1 rfl (by kernel_rfl) (by kernel_rfl) (by kernel_rfl) rfl rfl (det_move rfl) rfl rfl ?_ -- r7.1 outright.go:26
        refine AS.take 3 rfl (by kernel_rfl) (by kernel_rfl) (by kernel_rfl) rfl rfl ((by first | exact det_ldCl rfl (by assumption) (by omega) tk36 | exact det_loadb0 (j := 0) rfl rfl tk36 | exact det_loadbN (j := 0) rfl rfl (by rfl) tk36 | exact det_loadwN rfl (by assumption) (by rfl) tk36 | exact det_loadbK (n := 7) (j := 0) rfl rfl rfl rfl tk36)) rfl rfl ?_ -- r7.3 outright.go:26
        refine AS.two (i := 2) (j := 4) (by kernel_rfl) rfl rfl (by first | exact fun _ h => h | exact fun _ h => h.sub (by repeat first | exact List.Sublist.refl _ | apply List.Sublist.cons_cons | apply List.Sublist.cons)) rfl rfl ?_ ?_
        · skip
          refine WS.appendNil (news := clFlat cs gs) sl31 zv36 rfl (by decide) rfl rfl (fun u hu => (hk.st hu).sp) hal (by omega) (by omega) (fun _ => rfl) ?_; intro v67 hv67 -- r7.2 outright.go:26
          refine WS.done ?_
          refine QS.then_AS ?_
          refine AS.one (i := 4) (by kernel_rfl) rfl (by first | exact fun _ h => h | exact fun _ h => h.sub (by repeat first | exact List.Sublist.refl _ | apply List.Sublist.cons_cons | apply List.Sublist.cons)) rfl ?_
          refine WS.buildC1 sl31 zv36 (c := (opp c)) (gv := .slice p c.g.length cap) rfl (fun _ => rfl) ?_; intro v69 -- r7.4 outright.go:26
          refine WS.done ?_
          refine QS.then_AS ?_
          refine AS.one (i := 5) (by kernel_rfl) rfl (by first | exact fun _ h => h | exact fun _ h => h.sub (by repeat first | exact List.Sublist.refl _ | apply List.Sublist.cons_cons | apply List.Sublist.cons)) rfl ?_
          refine WS.appendCl (j := 1) (jz := 0) sl31 zv36 rfl rfl rfl hk.len rfl rfl rfl (by omega) (by omega) (fun _ => rfl) (fun _ => rfl) ?_; intro v70 hv70 -- r7.5 outright.go:26
          refine WS.done ?_
          refine QS.then_AS ?_
          refine AS.one (i := 6) (by kernel_rfl) rfl (by first | exact fun _ h => h | exact fun _ h => h.sub (by repeat first | exact List.Sublist.refl _ | apply List.Sublist.cons_cons | apply List.Sublist.cons)) rfl ?_
          refine WS.det rfl rfl rfl (det_callB rfl rfl ent34 (fun u hu => Count_c _ _ _ _ _ u (ClS.snoc (c := (opp c)) (hk.st hu) (hg1.st hu) (osl_SlC hu (j := 1) rfl)))) rfl ?_ -- r7.6 outright.go:26
          refine WS.done ?_
          refine QS.then_AS ?_
          refine AS.take 7 rfl (by kernel_rfl) (by kernel_rfl) (by kernel_rfl) rfl rfl (det_move rfl) rfl rfl ?_ -- r7.7 outright.go:26
          refine AS.take 8 rfl (by kernel_rfl) (by kernel_rfl) (by kernel_rfl) rfl rfl (det_extract rfl rfl) rfl rfl ?_ -- r7.8 outright.go:26
          refine AS.take 9 rfl (by kernel_rfl) (by kernel_rfl) (by kernel_rfl) rfl rfl (det_extract rfl rfl) rfl rfl ?_ -- r7.9 outright.go:26
          refine AS.take 10 rfl (by kernel_rfl) (by kernel_rfl) (by kernel_rfl) rfl rfl (det_assign rfl) rfl rfl ?_ -- r7.10 outright.go:26
          refine AS.take 11 rfl (by kernel_rfl) (by kernel_rfl) (by kernel_rfl) rfl rfl (det_assign rfl) rfl rfl ?_ -- r7.11 outright.go:26
          refine AS.done (by kernel_rfl) (by first | exact fun _ h => h | exact fun _ h => h.sub (by repeat first | exact List.Sublist.refl _ | apply List.Sublist.cons_cons | apply List.Sublist.cons)) ?_
          refine QS.sel [2, 2, 2] rfl ?_
          exact QS.head (()) rfl rfl trivial
        · skip
          refine WS.buildC1 sl31 zv36 (c := (opp c)) (gv := .slice p c.g.length cap) rfl (fun _ => rfl) ?_; intro v69 -- r7.4 outright.go:26
          refine WS.done ?_
          refine QS.then_AS ?_
          refine AS.one (i := 2) (by kernel_rfl) rfl (by first | exact fun _ h => h | exact fun _ h => h.sub (by repeat first | exact List.Sublist.refl _ | apply List.Sublist.cons_cons | apply List.Sublist.cons)) rfl ?_
          refine WS.appendNil (news := clFlat cs gs) sl31 zv36 rfl (by decide) rfl rfl (fun u hu => (hk.st hu).sp) hal (by omega) (by omega) (fun _ => rfl) ?_; intro v67 hv67 -- r7.2 outright.go:26
          refine WS.done ?_
          refine QS.then_AS ?_
          refine AS.one (i := 5) (by kernel_rfl) rfl (by first | exact fun _ h => h | exact fun _ h => h.sub (by repeat first | exact List.Sublist.refl _ | apply List.Sublist.cons_cons | apply List.Sublist.cons)) rfl ?_
          refine WS.appendCl (j := 0) (jz := 1) sl31 zv36 rfl rfl rfl hk.len rfl rfl rfl (by omega) (by omega) (fun _ => rfl) (fun _ => rfl) ?_; intro v70 hv70 -- r7.5 outright.go:26
          refine WS.done ?_
          refine QS.then_AS ?_
          refine AS.one (i := 6) (by kernel_rfl) rfl (by first | exact fun _ h => h | exact fun _ h => h.sub (by repeat first | exact List.Sublist.refl _ | apply List.Sublist.cons_cons | apply List.Sublist.cons)) rfl ?_
          refine WS.det rfl rfl rfl (det_callB rfl rfl ent34 (fun u hu => Count_c _ _ _ _ _ u (ClS.snoc (c := (opp c)) (hk.st hu) (hg1.st hu) (osl_SlC hu (j := 0) rfl)))) rfl ?_ -- r7.6 outright.go:26
          refine WS.done ?_
          refine QS.then_AS ?_
          refine AS.take 7 rfl (by kernel_rfl) (by kernel_rfl) (by kernel_rfl) rfl rfl (det_move rfl) rfl rfl ?_ -- r7.7 outright.go:26
          refine AS.take 8 rfl (by kernel_rfl) (by kernel_rfl) (by kernel_rfl) rfl rfl (det_extract rfl rfl) rfl rfl ?_ -- r7.8 outright.go:26
          refine AS.take 9 rfl (by kernel_rfl) (by kernel_rfl) (by kernel_rfl) rfl rfl (det_extract rfl rfl) rfl rfl ?_ -- r7.9 outright.go:26
          refine AS.take 10 rfl (by kernel_rfl) (by kernel_rfl) (by kernel_rfl) rfl rfl (det_assign rfl) rfl rfl ?_ -- r7.10 outright.go:26
          refine AS.take 11 rfl (by kernel_rfl) (by kernel_rfl) (by kernel_rfl) rfl rfl (det_assign rfl) rfl rfl ?_ -- r7.11 outright.go:26
          refine AS.done (by kernel_rfl) (by first | exact fun _ h => h | exact fun _ h => h.sub (by repeat first | exact List.Sublist.refl _ | apply List.Sublist.cons_cons | apply List.Sublist.cons)) ?_
          refine QS.sel [2, 2, 2] rfl ?_
          exact QS.head (()) rfl rfl trivial
      · intro s t hs
        refine CS.seq ?_
        refine CS.seq ?_
        refine CS.region ?_
        refine WS.det rfl rfl rfl (det_move rfl) rfl ?_ -- r8.0 outright.go:27
        refine WS.det rfl rfl rfl (det_ne rfl rfl) rfl ?_ -- r8.1 outright.go:27
        refine WS.det rfl rfl rfl (det_move rfl) rfl ?_ -- r8.2 outright.go:27
        refine WS.guardF rfl rfl rfl rfl (fun hg => det_move rfl) rfl ?_ -- r8.3 outright.go:27
        refine WS.guardF rfl rfl rfl rfl (fun hg => det_ne (ev_cond hg rfl) rfl) rfl ?_ -- r8.4 outright.go:27
        refine WS.det rfl rfl rfl (det_pick_or rfl rfl rfl) rfl ?_ -- r8.5 outright.go:27
        refine WS.det rfl rfl rfl (det_move rfl) rfl ?_ -- r8.6 outright.go:27
        refine WS.guardF rfl rfl rfl rfl (fun hg => det_move rfl) rfl ?_ -- r8.7 outright.go:27
        refine WS.guardF rfl rfl rfl rfl (fun hg => det_ne (ev_cond hg rfl) rfl) rfl ?_ -- r8.8 outright.go:27
        refine WS.det rfl rfl rfl (det_pick_or rfl rfl rfl) rfl ?_ -- r8.9 outright.go:27
        refine WS.det rfl rfl rfl (det_move rfl) rfl ?_ -- r8.10 outright.go:27
        refine WS.guardF rfl rfl rfl rfl (fun hg => det_move rfl) rfl ?_ -- r8.11 outright.go:27
        refine WS.guardF rfl rfl rfl rfl (fun hg => det_move rfl) rfl ?_ -- r8.12 outright.go:27
        refine WS.guardF rfl rfl rfl rfl (fun hg => det_add (ev_cond hg rfl) (ev_cond hg rfl) (by (try simp only [decide_eq_true_eq, decide_eq_false_iff_not, Bool.and_eq_true, Bool.or_eq_true, Bool.and_eq_false_iff, Bool.or_eq_false_iff, Bool.not_eq_true', Bool.not_eq_false', ne_eq, Decidable.not_not, Bool.not_true, Bool.not_false, bne_iff_ne, bne_eq_false_iff_eq, beq_iff_eq, beq_eq_false_iff_ne] at hg); omega)) rfl ?_ -- r8.13 outright.go:27
        refine WS.guardF rfl rfl rfl rfl (fun hg => det_move rfl) rfl ?_ -- r8.14 outright.go:27
        refine WS.guardF rfl rfl rfl rfl (fun hg => det_ne (ev_cond hg rfl) (ev_cond hg rfl)) rfl ?_ -- r8.15 outright.go:27
        refine WS.det rfl rfl rfl (det_pick_or rfl rfl rfl) rfl ?_ -- r8.16 outright.go:27
        refine WS.det rfl rfl rfl (det_move rfl) rfl ?_ -- r8.17 outright.go:27
        refine WS.guardF rfl rfl rfl rfl (fun hg => det_move rfl) rfl ?_ -- r8.18 outright.go:27
        refine WS.guardF rfl rfl rfl rfl (fun hg => det_move rfl) rfl ?_ -- r8.19 outright.go:27
        refine WS.guardF rfl rfl rfl rfl (fun hg => det_gt (ev_cond hg rfl) (ev_cond hg rfl)) rfl ?_ -- r8.20 outright.go:27
        refine WS.det rfl rfl rfl (det_pick_or rfl rfl rfl) rfl ?_ -- r8.21 outright.go:27
        refine WS.done ?_
        refine QS.then_code ?_
        refine CS.cond rfl (fun hc2 => ?_) (fun hc2 => ?_) <;> (try simp only [decide_eq_true_eq, decide_eq_false_iff_not, Bool.and_eq_true, Bool.or_eq_true, Bool.and_eq_false_iff, Bool.or_eq_false_iff, Bool.not_eq_true', Bool.not_eq_false', ne_eq, Decidable.not_not, Bool.not_true, Bool.not_false, bne_iff_ne, bne_eq_false_iff_eq, beq_iff_eq, beq_eq_false_iff_ne] at hc2)
        · skip
          omega
        · skip
          refine CS.skip ?_
          refine QS.then_code ?_
          refine CS.seq ?_
          refine CS.region ?_
          refine WS.det rfl rfl rfl ((by first | exact det_loadb0 (j := 2) rfl rfl tk23 | exact det_loadbN (j := 2) rfl rfl (by rfl) tk23 | exact det_loadwN rfl (by assumption) (by rfl) tk23 | exact det_loadbK (n := 2) (j := 2) rfl rfl rfl rfl tk23)) rfl ?_ -- r10.0 outright.go:30
          refine WS.det rfl rfl rfl (det_move rfl) rfl ?_ -- r10.1 outright.go:30
          refine WS.callF rfl rfl ent35 (fun u hu => (by have h := Readings_c lw ls cs gs cv 64 u (hk.st hu); simp only [hre, if_true] at h; exact h)) (fun _ => rfl) ?_; rintro ⟨vx, gx⟩ ⟨ux, hvx⟩ -- r10.2 outright.go:30
          refine WS.det rfl rfl rfl (det_move rfl) rfl ?_ -- r10.3 outright.go:30
          refine WS.det rfl rfl rfl (det_extract rfl rfl) rfl ?_ -- r10.4 outright.go:30
          refine WS.det rfl rfl rfl (det_extract rfl rfl) rfl ?_ -- r10.5 outright.go:30
          refine WS.det rfl rfl rfl (det_assign rfl) rfl ?_ -- r10.6 outright.go:30
          refine WS.det rfl rfl rfl (det_assign rfl) rfl ?_ -- r10.7 outright.go:30
          refine WS.done ?_
          refine QS.then_code ?_
          refine CS.seq ?_
          refine CS.seq ?_
          refine CS.region ?_
          refine WS.det rfl rfl rfl (det_move rfl) rfl ?_ -- r11.0 outright.go:31
          refine WS.det rfl rfl rfl (det_ne rfl rfl) rfl ?_ -- r11.1 outright.go:31
          refine WS.det rfl rfl rfl (det_move rfl) rfl ?_ -- r11.2 outright.go:31
          refine WS.guardF rfl rfl rfl rfl (fun hg => det_move rfl) rfl ?_ -- r11.3 outright.go:31
          refine WS.guardF rfl rfl rfl rfl (fun hg => (by first | exact det_lenS sl51 (ev_cond hg rfl) (by assumption) | exact det_lenS sl51 (ev_cond hg rfl) (by first | exact SlL.sp (by assumption) | exact ClS.sp (by assumption)) | exact det_lenO sl51 (ev_cond hg rfl) | exact det_lenV sl51 (ev_cond hg rfl) ⟨_, _, rfl⟩)) rfl ?_ -- r11.4 outright.go:31
          refine WS.guardF rfl rfl rfl rfl (fun hg => det_move rfl) rfl ?_ -- r11.5 outright.go:31
          refine WS.guardF rfl rfl rfl rfl (fun hg => det_min (ev_cond hg rfl) rfl) rfl ?_ -- r11.6 outright.go:31
          refine WS.guardF rfl rfl rfl rfl (fun hg => det_ne (ev_cond hg rfl) (ev_cond hg rfl)) rfl ?_ -- r11.7 outright.go:31
          refine WS.det rfl rfl rfl (det_pick_or rfl rfl rfl) rfl ?_ -- r11.8 outright.go:31
          refine WS.done ?_
          refine QS.then_code ?_
          refine CS.cond rfl (fun hc3 => ?_) (fun hc3 => ?_) <;> (try simp only [decide_eq_true_eq, decide_eq_false_iff_not, Bool.and_eq_true, Bool.or_eq_true, Bool.and_eq_false_iff, Bool.or_eq_false_iff, Bool.not_eq_true', Bool.not_eq_false', ne_eq, Decidable.not_not, Bool.not_true, Bool.not_false, bne_iff_ne, bne_eq_false_iff_eq, beq_iff_eq, beq_eq_false_iff_ne] at hc3)
          · skip
            simp only [not_true_eq_false, false_or] at hc3; omega
          · skip
            refine CS.skip ?_
            refine QS.then_code ?_
            refine CS.seq ?_
            refine CS.seq ?_
            refine CS.region ?_
            refine WS.det rfl rfl rfl (det_assign rfl) rfl ?_ -- r13.0 outright.go:34
            refine WS.done ?_
            refine QS.then_code ?_
            refine CS.block ?_
            refine CS.loopM (σ := Int) [6, 16, 17, 18, 111, 112, 113, 114, 115, 116, 117, 118, 119, 120, 121, 122, 123, 124, 125, 126, 127, 128, 129, 130, 131, 132, 133, 134, 135, 136, 137, 138, 139, 140, 141, 142, 143, 144, 145, 146, 147, 148, 149, 150, 151, 152, 153, 154] (fun s => [(15, .int .i64 s)]) (fun _ => _) (fun s => 0 ≤ s ∧ s ≤ ((readL lw ls cs).take (64 : Int).toNat).length) (fun s => (((readL lw ls cs).take (64 : Int).toNat).length - s).toNat) 0 (fun _ _ => rfl) rfl rfl ⟨by omega, by omega⟩ ?_
            intro s t hs
            obtain ⟨hs1', hs2'⟩ := hs
            refine CS.seq ?_
            refine CS.seq ?_
            refine CS.region ?_
            refine WS.det rfl rfl rfl (det_move rfl) rfl ?_ -- r14.0 outright.go:34
            refine WS.det rfl rfl rfl (det_move rfl) rfl ?_ -- r14.1 outright.go:34
            refine WS.det rfl rfl rfl ((by first | exact det_lenS sl51 rfl (by assumption) | exact det_lenS sl51 rfl (by first | exact SlL.sp (by assumption) | exact ClS.sp (by assumption)) | exact det_lenO sl51 rfl | exact det_lenV sl51 rfl ⟨_, _, rfl⟩)) rfl ?_ -- r14.2 outright.go:34
            refine WS.det rfl rfl rfl (det_lt rfl rfl) rfl ?_ -- r14.3 outright.go:34
            refine WS.done ?_
            refine QS.then_code ?_
            refine CS.cond rfl (fun hc4 => ?_) (fun hc4 => ?_) <;> (try simp only [decide_eq_true_eq, decide_eq_false_iff_not, Bool.and_eq_true, Bool.or_eq_true, Bool.and_eq_false_iff, Bool.or_eq_false_iff, Bool.not_eq_true', Bool.not_eq_false', ne_eq, Decidable.not_not, Bool.not_true, Bool.not_false, bne_iff_ne, bne_eq_false_iff_eq, beq_iff_eq, beq_eq_false_iff_ne] at hc4)
            · skip
              have hnt := nth_take (readL lw ls cs) (m := (64 : Int).toNat) hs1' (show s < (((readL lw ls cs).take (64 : Int).toNat).length : Int) by omega)
              have hxb := readL_nth (cs := cs) hL hs1' (show s < (readL lw ls cs).length by omega)
              rw [← hnt] at hxb
              have hff : failsT cs (nth ((readL lw ls cs).take (64 : Int).toNat) s) < 0 := by rw [hnt]; exact (readL_mem hL (nth_mem hs1' (by omega))).2
              have hfe : fitsE lw ls cs (nth ((readL lw ls cs).take (64 : Int).toNat) s) = 0 := by unfold fitsE; rw [if_pos hce, codeE_of hL hxb]
              have hfm := idxF_m1 hff
              have hfm : failsT cs (nth ((readL lw ls cs).take (64 : Int).toNat) s) = -1 := hfm
              refine CS.skip ?_
              refine QS.then_code ?_
              refine CS.seq ?_
              refine CS.block ?_
              refine CS.seq ?_
              refine CS.draw mixed (by kernel_rfl) (by kernel_rfl) ?_
              refine DS.det rfl rfl ((by first | exact det_loadb0 (j := 3) rfl rfl tk23 | exact det_loadbN (j := 3) rfl rfl (by rfl) tk23 | exact det_loadwN rfl (by assumption) (by rfl) tk23 | exact det_loadbK (n := 2) (j := 3) rfl rfl rfl rfl tk23)) rfl ?_ -- r16.0 outright.go:35
              refine DS.det rfl rfl (det_move rfl) rfl ?_ -- r16.1 outright.go:35
              refine DS.det rfl rfl (det_move rfl) rfl ?_ -- r16.2 outright.go:35
              refine DS.det rfl rfl (det_move rfl) rfl ?_ -- r16.3 outright.go:35
              refine DS.det rfl rfl ((by first | exact det_idxL sl51 rfl rfl (by assumption) (by omega) (by omega) | exact det_idxO sl51 rfl rfl (by omega) (by omega))) rfl ?_ -- r16.4 outright.go:35
              refine DS.det rfl rfl ((by first | exact det_ldL rfl (by assumption) (by omega) tk24 | exact det_ldLR (j := 0) rfl rfl (by assumption) (by omega) tk24 | exact det_loadb (j := 0) rfl rfl rfl tk24 | exact det_loadb (j := 1) rfl rfl rfl tk24 | exact det_loadb (j := 2) rfl rfl rfl tk24 | exact det_loadb (j := 3) rfl rfl rfl tk24 | exact det_loadw rfl (by assumption) rfl tk24)) rfl ?_ -- r16.5 outright.go:35
              refine DS.det rfl rfl (det_callB rfl rfl ent21 (fun u hu => Fits_c _ _ _ _ _ _ _ u (hk.st hu) ((hu.roL (j := 0) rfl).el s (by omega) (by omega)))) rfl ?_ -- r16.6 outright.go:35
              refine DS.det rfl rfl (det_move rfl) rfl ?_ -- r16.7 outright.go:35
              refine DS.det rfl rfl (det_extract rfl rfl) rfl ?_ -- r16.8 outright.go:35
              refine DS.det rfl rfl (det_extract rfl rfl) rfl ?_ -- r16.9 outright.go:35
              refine DS.det rfl rfl (det_extract rfl rfl) rfl ?_ -- r16.10 outright.go:35
              refine DS.det rfl rfl (det_assign rfl) rfl ?_ -- r16.11 outright.go:35
              refine DS.det rfl rfl (det_assign rfl) rfl ?_ -- r16.12 outright.go:35
              refine DS.det rfl rfl (det_assign rfl) rfl ?_ -- r16.13 outright.go:35
              refine DS.done ?_
              refine QS.then_code ?_
              refine CS.seq ?_
              refine CS.draw mixed (by kernel_rfl) (by kernel_rfl) ?_
              refine DS.det rfl rfl (det_move rfl) rfl ?_ -- r17.0 outright.go:36
              refine DS.det rfl rfl (det_ne rfl rfl) rfl ?_ -- r17.1 outright.go:36
              refine DS.det rfl rfl (det_move rfl) rfl ?_ -- r17.2 outright.go:36
              refine DS.guardF rfl rfl rfl (fun hg => det_move rfl) rfl ?_ -- r17.3 outright.go:36
              refine DS.guardF rfl rfl rfl (fun hg => det_not (ev_cond hg rfl)) rfl ?_ -- r17.4 outright.go:36
              refine DS.det rfl rfl (det_pick_or rfl rfl rfl) rfl ?_ -- r17.5 outright.go:36
              refine DS.det rfl rfl (det_move rfl) rfl ?_ -- r17.6 outright.go:36
              refine DS.guardF rfl rfl rfl (fun hg => det_move rfl) rfl ?_ -- r17.7 outright.go:36
              refine DS.guardF rfl rfl rfl (fun hg => det_ne (ev_cond hg rfl) rfl) rfl ?_ -- r17.8 outright.go:36
              refine DS.det rfl rfl (det_pick_or rfl rfl rfl) rfl ?_ -- r17.9 outright.go:36
              refine DS.det rfl rfl (det_move rfl) rfl ?_ -- r17.10 outright.go:36
              refine DS.guardF rfl rfl rfl (fun hg => det_move rfl) rfl ?_ -- r17.11 outright.go:36
              refine DS.guardF rfl rfl rfl (fun hg => det_gt (ev_cond hg rfl) rfl) rfl ?_ -- r17.12 outright.go:36
              refine DS.guardF rfl rfl rfl (fun hg => det_move (ev_cond hg rfl)) rfl ?_ -- r17.13 outright.go:36
              refine DS.guardN rfl rfl rfl rfl (fun hg => det_move rfl) rfl ?_ -- r17.14 outright.go:36
              refine DS.guardN rfl rfl rfl rfl (fun hg => det_move rfl) rfl ?_ -- r17.15 outright.go:36
              refine DS.guardN rfl rfl rfl rfl (fun hg => det_sub (ev_cond hg rfl) rfl (by (try simp only [decide_eq_true_eq, decide_eq_false_iff_not, Bool.and_eq_true, Bool.or_eq_true, Bool.and_eq_false_iff, Bool.or_eq_false_iff, Bool.not_eq_true', Bool.not_eq_false', ne_eq, Decidable.not_not, Bool.not_true, Bool.not_false, bne_iff_ne, bne_eq_false_iff_eq, beq_iff_eq, beq_eq_false_iff_ne] at hg); omega)) rfl ?_ -- r17.16 outright.go:36
              refine DS.guardN rfl rfl rfl rfl (fun hg => (by first | exact det_idxL sl51 (ev_cond hg rfl) (ev_cond hg rfl) (by assumption) (by (try simp only [decide_eq_true_eq, decide_eq_false_iff_not, Bool.and_eq_true, Bool.or_eq_true, Bool.and_eq_false_iff, Bool.or_eq_false_iff, Bool.not_eq_true', Bool.not_eq_false', ne_eq, Decidable.not_not, Bool.not_true, Bool.not_false, bne_iff_ne, bne_eq_false_iff_eq, beq_iff_eq, beq_eq_false_iff_ne] at hg); omega) (by (try simp only [decide_eq_true_eq, decide_eq_false_iff_not, Bool.and_eq_true, Bool.or_eq_true, Bool.and_eq_false_iff, Bool.or_eq_false_iff, Bool.not_eq_true', Bool.not_eq_false', ne_eq, Decidable.not_not, Bool.not_true, Bool.not_false, bne_iff_ne, bne_eq_false_iff_eq, beq_iff_eq, beq_eq_false_iff_ne] at hg); omega) | exact det_idxO sl51 (ev_cond hg rfl) (ev_cond hg rfl) (by (try simp only [decide_eq_true_eq, decide_eq_false_iff_not, Bool.and_eq_true, Bool.or_eq_true, Bool.and_eq_false_iff, Bool.or_eq_false_iff, Bool.not_eq_true', Bool.not_eq_false', ne_eq, Decidable.not_not, Bool.not_true, Bool.not_false, bne_iff_ne, bne_eq_false_iff_eq, beq_iff_eq, beq_eq_false_iff_ne] at hg); omega) (by (try simp only [decide_eq_true_eq, decide_eq_false_iff_not, Bool.and_eq_true, Bool.or_eq_true, Bool.and_eq_false_iff, Bool.or_eq_false_iff, Bool.not_eq_true', Bool.not_eq_false', ne_eq, Decidable.not_not, Bool.not_true, Bool.not_false, bne_iff_ne, bne_eq_false_iff_eq, beq_iff_eq, beq_eq_false_iff_ne] at hg); omega))) rfl ?_ -- r17.17 outright.go:36
              refine DS.guardN rfl rfl rfl rfl (fun hg => (by first | exact det_ldL (ev_cond hg rfl) (by assumption) (by (try simp only [decide_eq_true_eq, decide_eq_false_iff_not, Bool.and_eq_true, Bool.or_eq_true, Bool.and_eq_false_iff, Bool.or_eq_false_iff, Bool.not_eq_true', Bool.not_eq_false', ne_eq, Decidable.not_not, Bool.not_true, Bool.not_false, bne_iff_ne, bne_eq_false_iff_eq, beq_iff_eq, beq_eq_false_iff_ne] at hg); omega) tk24 | exact det_ldLR (j := 0) (ev_cond hg rfl) rfl (by assumption) (by (try simp only [decide_eq_true_eq, decide_eq_false_iff_not, Bool.and_eq_true, Bool.or_eq_true, Bool.and_eq_false_iff, Bool.or_eq_false_iff, Bool.not_eq_true', Bool.not_eq_false', ne_eq, Decidable.not_not, Bool.not_true, Bool.not_false, bne_iff_ne, bne_eq_false_iff_eq, beq_iff_eq, beq_eq_false_iff_ne] at hg); omega) tk24 | exact det_loadb (j := 0) (ev_cond hg rfl) rfl rfl tk24 | exact det_loadb (j := 1) (ev_cond hg rfl) rfl rfl tk24 | exact det_loadb (j := 2) (ev_cond hg rfl) rfl rfl tk24 | exact det_loadb (j := 3) (ev_cond hg rfl) rfl rfl tk24 | exact det_loadw (ev_cond hg rfl) (by assumption) rfl tk24)) rfl ?_ -- r17.18 outright.go:36
              refine DS.guardN rfl rfl rfl rfl (fun hg => det_move rfl) rfl ?_ -- r17.19 outright.go:36
              refine DS.guardN rfl rfl rfl rfl (fun hg => det_move rfl) rfl ?_ -- r17.20 outright.go:36
              refine DS.guardN rfl rfl rfl rfl (fun hg => (by first | exact det_idxL sl51 (ev_cond hg rfl) (ev_cond hg rfl) (by assumption) (by (try simp only [decide_eq_true_eq, decide_eq_false_iff_not, Bool.and_eq_true, Bool.or_eq_true, Bool.and_eq_false_iff, Bool.or_eq_false_iff, Bool.not_eq_true', Bool.not_eq_false', ne_eq, Decidable.not_not, Bool.not_true, Bool.not_false, bne_iff_ne, bne_eq_false_iff_eq, beq_iff_eq, beq_eq_false_iff_ne] at hg); omega) (by (try simp only [decide_eq_true_eq, decide_eq_false_iff_not, Bool.and_eq_true, Bool.or_eq_true, Bool.and_eq_false_iff, Bool.or_eq_false_iff, Bool.not_eq_true', Bool.not_eq_false', ne_eq, Decidable.not_not, Bool.not_true, Bool.not_false, bne_iff_ne, bne_eq_false_iff_eq, beq_iff_eq, beq_eq_false_iff_ne] at hg); omega) | exact det_idxO sl51 (ev_cond hg rfl) (ev_cond hg rfl) (by (try simp only [decide_eq_true_eq, decide_eq_false_iff_not, Bool.and_eq_true, Bool.or_eq_true, Bool.and_eq_false_iff, Bool.or_eq_false_iff, Bool.not_eq_true', Bool.not_eq_false', ne_eq, Decidable.not_not, Bool.not_true, Bool.not_false, bne_iff_ne, bne_eq_false_iff_eq, beq_iff_eq, beq_eq_false_iff_ne] at hg); omega) (by (try simp only [decide_eq_true_eq, decide_eq_false_iff_not, Bool.and_eq_true, Bool.or_eq_true, Bool.and_eq_false_iff, Bool.or_eq_false_iff, Bool.not_eq_true', Bool.not_eq_false', ne_eq, Decidable.not_not, Bool.not_true, Bool.not_false, bne_iff_ne, bne_eq_false_iff_eq, beq_iff_eq, beq_eq_false_iff_ne] at hg); omega))) rfl ?_ -- r17.21 outright.go:36
              refine DS.guardN rfl rfl rfl rfl (fun hg => (by first | exact det_ldL (ev_cond hg rfl) (by assumption) (by (try simp only [decide_eq_true_eq, decide_eq_false_iff_not, Bool.and_eq_true, Bool.or_eq_true, Bool.and_eq_false_iff, Bool.or_eq_false_iff, Bool.not_eq_true', Bool.not_eq_false', ne_eq, Decidable.not_not, Bool.not_true, Bool.not_false, bne_iff_ne, bne_eq_false_iff_eq, beq_iff_eq, beq_eq_false_iff_ne] at hg); omega) tk24 | exact det_ldLR (j := 0) (ev_cond hg rfl) rfl (by assumption) (by (try simp only [decide_eq_true_eq, decide_eq_false_iff_not, Bool.and_eq_true, Bool.or_eq_true, Bool.and_eq_false_iff, Bool.or_eq_false_iff, Bool.not_eq_true', Bool.not_eq_false', ne_eq, Decidable.not_not, Bool.not_true, Bool.not_false, bne_iff_ne, bne_eq_false_iff_eq, beq_iff_eq, beq_eq_false_iff_ne] at hg); omega) tk24 | exact det_loadb (j := 0) (ev_cond hg rfl) rfl rfl tk24 | exact det_loadb (j := 1) (ev_cond hg rfl) rfl rfl tk24 | exact det_loadb (j := 2) (ev_cond hg rfl) rfl rfl tk24 | exact det_loadb (j := 3) (ev_cond hg rfl) rfl rfl tk24 | exact det_loadw (ev_cond hg rfl) (by assumption) rfl tk24)) rfl ?_ -- r17.22 outright.go:36
              refine DS.guardN rfl rfl rfl rfl (fun hg => det_callB rfl (evs_cons (ev_cond hg rfl) (evs_cons (ev_cond hg rfl) evs_nil)) ent36 (fun u hu => before_c _ _ _ _ u ((hu.roL (j := 0) rfl).el (s - 1) (by (try simp only [decide_eq_true_eq, decide_eq_false_iff_not, Bool.and_eq_true, Bool.or_eq_true, Bool.and_eq_false_iff, Bool.or_eq_false_iff, Bool.not_eq_true', Bool.not_eq_false', ne_eq, Decidable.not_not, Bool.not_true, Bool.not_false, bne_iff_ne, bne_eq_false_iff_eq, beq_iff_eq, beq_eq_false_iff_ne] at hg); omega) (by (try simp only [decide_eq_true_eq, decide_eq_false_iff_not, Bool.and_eq_true, Bool.or_eq_true, Bool.and_eq_false_iff, Bool.or_eq_false_iff, Bool.not_eq_true', Bool.not_eq_false', ne_eq, Decidable.not_not, Bool.not_true, Bool.not_false, bne_iff_ne, bne_eq_false_iff_eq, beq_iff_eq, beq_eq_false_iff_ne] at hg); omega)) ((hu.roL (j := 0) rfl).el s (by (try simp only [decide_eq_true_eq, decide_eq_false_iff_not, Bool.and_eq_true, Bool.or_eq_true, Bool.and_eq_false_iff, Bool.or_eq_false_iff, Bool.not_eq_true', Bool.not_eq_false', ne_eq, Decidable.not_not, Bool.not_true, Bool.not_false, bne_iff_ne, bne_eq_false_iff_eq, beq_iff_eq, beq_eq_false_iff_ne] at hg); omega) (by (try simp only [decide_eq_true_eq, decide_eq_false_iff_not, Bool.and_eq_true, Bool.or_eq_true, Bool.and_eq_false_iff, Bool.or_eq_false_iff, Bool.not_eq_true', Bool.not_eq_false', ne_eq, Decidable.not_not, Bool.not_true, Bool.not_false, bne_iff_ne, bne_eq_false_iff_eq, beq_iff_eq, beq_eq_false_iff_ne] at hg); omega)))) rfl ?_ -- r17.23 outright.go:36
              refine DS.guardN rfl rfl rfl rfl (fun hg => det_not (ev_cond hg rfl)) rfl ?_ -- r17.24 outright.go:36
              refine DS.guardF rfl rfl rfl (fun hg => det_pick_and (ev_cond hg rfl) (ev_nestT hg rfl) rfl) rfl ?_ -- r17.25 outright.go:36
              refine DS.det rfl rfl (det_pick_or rfl rfl rfl) rfl ?_ -- r17.26 outright.go:36
              refine DS.done ?_
              refine QS.then_code ?_
              refine CS.cond rfl (fun hc5 => ?_) (fun hc5 => ?_) <;> (try simp only [decide_eq_true_eq, decide_eq_false_iff_not, Bool.and_eq_true, Bool.or_eq_true, Bool.and_eq_false_iff, Bool.or_eq_false_iff, Bool.not_eq_true', Bool.not_eq_false', ne_eq, Decidable.not_not, Bool.not_true, Bool.not_false, bne_iff_ne, bne_eq_false_iff_eq, beq_iff_eq, beq_eq_false_iff_ne] at hc5)
              · skip
                exfalso
                have hz3 : (if fitsE lw ls cs (nth ((readL lw ls cs).take (64 : Int).toNat) s) = 0 then failsT cs (nth ((readL lw ls cs).take (64 : Int).toNat) s) else 0) = -1 := by rw [if_pos hfe, hfm]
                have hz4 : (if fitsE lw ls cs (nth ((readL lw ls cs).take (64 : Int).toNat) s) = 0 then decide (failsT cs (nth ((readL lw ls cs).take (64 : Int).toNat) s) < 0) else false) = true := by rw [if_pos hfe]; simpa using hff
                have hz5 : 0 < s → beforeB (nth ((readL lw ls cs).take (64 : Int).toNat) (s - 1)) (nth ((readL lw ls cs).take (64 : Int).toNat) s) = true := fun h => by
                  rw [nth_take _ (by omega) (by omega), nth_take _ (by omega) (by omega)]
                  exact readL_before hL cs (by omega) (by omega) (by omega)
                rw [hz3, hz4, hfe] at hc5
                rcases hc5 with ((h | h) | h) | h
                · exact h rfl
                · cases h
                · exact h rfl
                · rw [hz5 h.1] at h; cases h.2
              · skip
                refine CS.skip ?_
                refine QS.block_normal ?_
                refine QS.then_code ?_
                refine CS.region ?_
                refine WS.det rfl rfl rfl (det_move rfl) rfl ?_ -- r15.0 outright.go:34
                refine WS.det rfl rfl rfl (det_add rfl rfl (by omega)) rfl ?_ -- r15.1 outright.go:34
                refine WS.det rfl rfl rfl (det_assign rfl) rfl ?_ -- r15.2 outright.go:34
                refine WS.done ?_
                exact QS.head (s + 1) rfl rfl ⟨⟨by omega, by omega⟩, by omega⟩
            · skip
              refine CS.leave ?_
              refine QS.then_exit ?_
              refine QS.then_exit ?_
              refine QS.block_exit ?_
              refine QS.then_code ?_
              refine CS.seq ?_
              refine CS.seq ?_
              refine CS.region ?_
              refine WS.det rfl rfl rfl ((by first | exact det_loadb0 (j := 3) rfl rfl tk23 | exact det_loadbN (j := 3) rfl rfl (by rfl) tk23 | exact det_loadwN rfl (by assumption) (by rfl) tk23 | exact det_loadbK (n := 2) (j := 3) rfl rfl rfl rfl tk23)) rfl ?_ -- r19.0 outright.go:40
              refine WS.det rfl rfl rfl ((by first | exact det_fieldAddr rfl fo47_1 | exact det_fieldAddrS rfl fo47_1)) rfl ?_ -- r19.1 outright.go:40
              refine WS.det rfl rfl rfl ((by first | exact det_loadb (j := 2) rfl rfl rfl tk24 | exact det_loadw rfl (by assumption) rfl tk24)) rfl ?_ -- r19.2 outright.go:40
              refine WS.det rfl rfl rfl (det_callB rfl rfl ent28 (fun u hu => RCheckCode_c _ _ _ _ u (h2.st hu))) rfl ?_ -- r19.3 outright.go:40
              refine WS.det rfl rfl rfl (det_ne rfl rfl) rfl ?_ -- r19.4 outright.go:40
              refine WS.done ?_
              refine QS.then_code ?_
              refine CS.cond rfl (fun hc6 => ?_) (fun hc6 => ?_) <;> (try simp only [decide_eq_true_eq, decide_eq_false_iff_not, Bool.and_eq_true, Bool.or_eq_true, Bool.and_eq_false_iff, Bool.or_eq_false_iff, Bool.not_eq_true', Bool.not_eq_false', ne_eq, Decidable.not_not, Bool.not_true, Bool.not_false, bne_iff_ne, bne_eq_false_iff_eq, beq_iff_eq, beq_eq_false_iff_ne] at hc6)
              · skip
                refine CS.seq ?_
                refine CS.region ?_
                refine WS.det rfl rfl rfl (det_callB rfl rfl ent19 (fun u hu => works_c u)) rfl ?_ -- r20.0 outright.go:41
                refine WS.det rfl rfl rfl (det_assign rfl) rfl ?_ -- r20.1 outright.go:41
                refine WS.done ?_
                refine QS.then_code ?_
                refine CS.ret ?_
                refine QS.then_ret ?_
                exact out1 rfl rfl (retBe rfl) -- ret 2
              · skip
                have hxb := codeE_code hc6
                refine CS.skip ?_
                refine QS.then_code ?_
                refine CS.seq ?_
                refine CS.region ?_
                refine WS.det rfl rfl rfl ((by first | exact det_loadb0 (j := 3) rfl rfl tk23 | exact det_loadbN (j := 3) rfl rfl (by rfl) tk23 | exact det_loadwN rfl (by assumption) (by rfl) tk23 | exact det_loadbK (n := 2) (j := 3) rfl rfl rfl rfl tk23)) rfl ?_ -- r21.0 outright.go:43
                refine WS.det rfl rfl rfl (det_move rfl) rfl ?_ -- r21.1 outright.go:43
                refine WS.det rfl rfl rfl ((by first | exact det_fieldAddr rfl fo47_1 | exact det_fieldAddrS rfl fo47_1)) rfl ?_ -- r21.2 outright.go:43
                refine WS.det rfl rfl rfl ((by first | exact det_loadb (j := 2) rfl rfl rfl tk24 | exact det_loadw rfl (by assumption) rfl tk24)) rfl ?_ -- r21.3 outright.go:43
                refine WS.det rfl rfl rfl (det_callB rfl rfl ent21 (fun u hu => Fits_c _ _ _ _ _ _ _ u (hk.st hu) (h2.st hu))) rfl ?_ -- r21.4 outright.go:43
                refine WS.det rfl rfl rfl (det_move rfl) rfl ?_ -- r21.5 outright.go:43
                refine WS.det rfl rfl rfl (det_extract rfl rfl) rfl ?_ -- r21.6 outright.go:43
                refine WS.det rfl rfl rfl (det_extract rfl rfl) rfl ?_ -- r21.7 outright.go:43
                refine WS.det rfl rfl rfl (det_extract rfl rfl) rfl ?_ -- r21.8 outright.go:43
                refine WS.det rfl rfl rfl (det_assign rfl) rfl ?_ -- r21.9 outright.go:43
                refine WS.det rfl rfl rfl (det_assign rfl) rfl ?_ -- r21.10 outright.go:43
                refine WS.det rfl rfl rfl (det_assign rfl) rfl ?_ -- r21.11 outright.go:43
                refine WS.done ?_
                refine QS.then_code ?_
                refine CS.seq ?_
                refine CS.region ?_
                refine WS.det rfl rfl rfl (det_assign rfl) rfl ?_ -- r22.0 outright.go:44
                refine WS.done ?_
                refine QS.then_code ?_
                refine CS.seq ?_
                refine CS.seq ?_
                refine CS.region ?_
                refine WS.det rfl rfl rfl (det_assign rfl) rfl ?_ -- r23.0 outright.go:45
                refine WS.done ?_
                refine QS.then_code ?_
                refine CS.block ?_
                refine CS.loopM (σ := Bool × Int) [170, 171, 172, 173, 174, 175, 176, 177, 178, 179, 180, 181, 182, 183, 184, 185] (fun s => [(21, .bool s.1), (22, .int .i64 s.2)]) (fun _ => _) (fun s => 0 ≤ s.2 ∧ s.2 ≤ ((readL lw ls cs).take (64 : Int).toNat).length ∧ s.1 = (((readL lw ls cs).take (64 : Int).toNat).take s.2.toNat).any (fun y => decide (y = xs))) (fun s => (((readL lw ls cs).take (64 : Int).toNat).length - s.2).toNat) (false, 0) (fun _ _ => rfl) rfl rfl ⟨by simp, by simp, by simp⟩ ?_
                intro q t hs
                obtain ⟨hq1, hq2, hq4⟩ := hs
                refine CS.seq ?_
                refine CS.seq ?_
                refine CS.region ?_
                refine WS.det rfl rfl rfl (det_move rfl) rfl ?_ -- r24.0 outright.go:45
                refine WS.det rfl rfl rfl (det_move rfl) rfl ?_ -- r24.1 outright.go:45
                refine WS.det rfl rfl rfl ((by first | exact det_lenS sl51 rfl (by assumption) | exact det_lenS sl51 rfl (by first | exact SlL.sp (by assumption) | exact ClS.sp (by assumption)) | exact det_lenO sl51 rfl | exact det_lenV sl51 rfl ⟨_, _, rfl⟩)) rfl ?_ -- r24.2 outright.go:45
                refine WS.det rfl rfl rfl (det_lt rfl rfl) rfl ?_ -- r24.3 outright.go:45
                refine WS.done ?_
                refine QS.then_code ?_
                refine CS.cond rfl (fun hc7 => ?_) (fun hc7 => ?_) <;> (try simp only [decide_eq_true_eq, decide_eq_false_iff_not, Bool.and_eq_true, Bool.or_eq_true, Bool.and_eq_false_iff, Bool.or_eq_false_iff, Bool.not_eq_true', Bool.not_eq_false', ne_eq, Decidable.not_not, Bool.not_true, Bool.not_false, bne_iff_ne, bne_eq_false_iff_eq, beq_iff_eq, beq_eq_false_iff_ne] at hc7)
                · skip
                  have hq3 : q.2 < (((readL lw ls cs).take (64 : Int).toNat).length : Int) := by omega
                  refine CS.skip ?_
                  refine QS.then_code ?_
                  refine CS.seq ?_
                  refine CS.block ?_
                  refine CS.draw mixed (by kernel_rfl) (by kernel_rfl) ?_
                  refine DS.det rfl rfl (det_move rfl) rfl ?_ -- r26.0 outright.go:46
                  refine DS.det rfl rfl (det_move rfl) rfl ?_ -- r26.1 outright.go:46
                  refine DS.guardF rfl rfl rfl (fun hg => det_move rfl) rfl ?_ -- r26.2 outright.go:46
                  refine DS.guardF rfl rfl rfl (fun hg => det_move rfl) rfl ?_ -- r26.3 outright.go:46
                  refine DS.guardF rfl rfl rfl (fun hg => (by first | exact det_idxL sl51 (ev_cond hg rfl) (ev_cond hg rfl) (by assumption) (by (try simp only [decide_eq_true_eq, decide_eq_false_iff_not, Bool.and_eq_true, Bool.or_eq_true, Bool.and_eq_false_iff, Bool.or_eq_false_iff, Bool.not_eq_true', Bool.not_eq_false', ne_eq, Decidable.not_not, Bool.not_true, Bool.not_false, bne_iff_ne, bne_eq_false_iff_eq, beq_iff_eq, beq_eq_false_iff_ne] at hg); omega) (by (try simp only [decide_eq_true_eq, decide_eq_false_iff_not, Bool.and_eq_true, Bool.or_eq_true, Bool.and_eq_false_iff, Bool.or_eq_false_iff, Bool.not_eq_true', Bool.not_eq_false', ne_eq, Decidable.not_not, Bool.not_true, Bool.not_false, bne_iff_ne, bne_eq_false_iff_eq, beq_iff_eq, beq_eq_false_iff_ne] at hg); omega) | exact det_idxO sl51 (ev_cond hg rfl) (ev_cond hg rfl) (by (try simp only [decide_eq_true_eq, decide_eq_false_iff_not, Bool.and_eq_true, Bool.or_eq_true, Bool.and_eq_false_iff, Bool.or_eq_false_iff, Bool.not_eq_true', Bool.not_eq_false', ne_eq, Decidable.not_not, Bool.not_true, Bool.not_false, bne_iff_ne, bne_eq_false_iff_eq, beq_iff_eq, beq_eq_false_iff_ne] at hg); omega) (by (try simp only [decide_eq_true_eq, decide_eq_false_iff_not, Bool.and_eq_true, Bool.or_eq_true, Bool.and_eq_false_iff, Bool.or_eq_false_iff, Bool.not_eq_true', Bool.not_eq_false', ne_eq, Decidable.not_not, Bool.not_true, Bool.not_false, bne_iff_ne, bne_eq_false_iff_eq, beq_iff_eq, beq_eq_false_iff_ne] at hg); omega))) rfl ?_ -- r26.4 outright.go:46
                  refine DS.guardF rfl rfl rfl (fun hg => (by first | exact det_ldL (ev_cond hg rfl) (by assumption) (by (try simp only [decide_eq_true_eq, decide_eq_false_iff_not, Bool.and_eq_true, Bool.or_eq_true, Bool.and_eq_false_iff, Bool.or_eq_false_iff, Bool.not_eq_true', Bool.not_eq_false', ne_eq, Decidable.not_not, Bool.not_true, Bool.not_false, bne_iff_ne, bne_eq_false_iff_eq, beq_iff_eq, beq_eq_false_iff_ne] at hg); omega) tk24 | exact det_ldLR (j := 0) (ev_cond hg rfl) rfl (by assumption) (by (try simp only [decide_eq_true_eq, decide_eq_false_iff_not, Bool.and_eq_true, Bool.or_eq_true, Bool.and_eq_false_iff, Bool.or_eq_false_iff, Bool.not_eq_true', Bool.not_eq_false', ne_eq, Decidable.not_not, Bool.not_true, Bool.not_false, bne_iff_ne, bne_eq_false_iff_eq, beq_iff_eq, beq_eq_false_iff_ne] at hg); omega) tk24 | exact det_loadb (j := 0) (ev_cond hg rfl) rfl rfl tk24 | exact det_loadb (j := 1) (ev_cond hg rfl) rfl rfl tk24 | exact det_loadb (j := 2) (ev_cond hg rfl) rfl rfl tk24 | exact det_loadb (j := 3) (ev_cond hg rfl) rfl rfl tk24 | exact det_loadw (ev_cond hg rfl) (by assumption) rfl tk24)) rfl ?_ -- r26.5 outright.go:46
                  refine DS.guardF rfl rfl rfl (fun hg => (by first | exact det_fieldAddr rfl fo47_1 | exact det_fieldAddrS rfl fo47_1)) rfl ?_ -- r26.6 outright.go:46
                  refine DS.guardF rfl rfl rfl (fun hg => (by first | exact det_loadb (j := 2) (ev_cond hg rfl) rfl rfl tk24 | exact det_loadw (ev_cond hg rfl) (by assumption) rfl tk24)) rfl ?_ -- r26.7 outright.go:46
                  refine DS.guardF rfl rfl rfl (fun hg => det_callB rfl (evs_cons (ev_cond hg rfl) (evs_cons (ev_cond hg rfl) evs_nil)) ent20 (fun u hu => SameInts_c _ _ _ _ u ((hu.roL (j := 0) rfl).el q.2 (by omega) (by omega)) (h2.st hu))) rfl ?_ -- r26.8 outright.go:46
                  refine DS.det rfl rfl (det_pick_or rfl rfl rfl) rfl ?_ -- r26.9 outright.go:46
                  refine DS.det rfl rfl (det_assign rfl) rfl ?_ -- r26.10 outright.go:46
                  refine DS.done ?_
                  refine QS.block_normal ?_
                  refine QS.then_code ?_
                  refine CS.region ?_
                  refine WS.det rfl rfl rfl (det_move rfl) rfl ?_ -- r25.0 outright.go:45
                  refine WS.det rfl rfl rfl (det_add rfl rfl (by omega)) rfl ?_ -- r25.1 outright.go:45
                  refine WS.det rfl rfl rfl (det_assign rfl) rfl ?_ -- r25.2 outright.go:45
                  refine WS.done ?_
                  exact QS.head ((q.1 || decide (nth ((readL lw ls cs).take (64 : Int).toNat) q.2 = xs), q.2 + 1)) rfl rfl ⟨⟨by simp; omega, by simp; omega, by simp only; rw [take_snocI _ hq1 hq3, List.any_append, ← hq4]; simp⟩, by simp; omega⟩
                · skip
                  rw [take_all _ (show (((readL lw ls cs).take (64 : Int).toNat).length : Int) ≤ q.2 by omega)] at hq4
                  refine CS.leave ?_
                  refine QS.then_exit ?_
                  refine QS.then_exit ?_
                  refine QS.block_exit ?_
                  refine QS.then_code ?_
                  refine CS.seq ?_
                  refine CS.draw mixed (by kernel_rfl) (by kernel_rfl) ?_
                  refine DS.det rfl rfl (det_move rfl) rfl ?_ -- r27.0 outright.go:49
                  refine DS.det rfl rfl (det_move rfl) rfl ?_ -- r27.1 outright.go:49
                  refine DS.det rfl rfl ((by first | exact det_lenS sl51 rfl (by assumption) | exact det_lenS sl51 rfl (by first | exact SlL.sp (by assumption) | exact ClS.sp (by assumption)) | exact det_lenO sl51 rfl | exact det_lenV sl51 rfl ⟨_, _, rfl⟩)) rfl ?_ -- r27.2 outright.go:49
                  refine DS.det rfl rfl (det_gt rfl rfl) rfl ?_ -- r27.3 outright.go:49
                  refine DS.det rfl rfl (det_move rfl) rfl ?_ -- r27.4 outright.go:49
                  refine DS.guardT rfl rfl rfl (fun hg => (by first | exact det_fieldAddr rfl fo47_1 | exact det_fieldAddrS rfl fo47_1)) rfl ?_ -- r27.5 outright.go:49
                  refine DS.guardT rfl rfl rfl (fun hg => (by first | exact det_loadb (j := 2) (ev_cond hg rfl) rfl rfl tk24 | exact det_loadw (ev_cond hg rfl) (by assumption) rfl tk24)) rfl ?_ -- r27.6 outright.go:49
                  refine DS.guardT rfl rfl rfl (fun hg => det_move rfl) rfl ?_ -- r27.7 outright.go:49
                  refine DS.guardT rfl rfl rfl (fun hg => det_move rfl) rfl ?_ -- r27.8 outright.go:49
                  refine DS.guardT rfl rfl rfl (fun hg => (by first | exact det_lenS sl51 (ev_cond hg rfl) (by assumption) | exact det_lenS sl51 (ev_cond hg rfl) (by first | exact SlL.sp (by assumption) | exact ClS.sp (by assumption)) | exact det_lenO sl51 (ev_cond hg rfl) | exact det_lenV sl51 (ev_cond hg rfl) ⟨_, _, rfl⟩)) rfl ?_ -- r27.9 outright.go:49
                  refine DS.guardT rfl rfl rfl (fun hg => det_sub (ev_cond hg rfl) rfl (by (try simp only [decide_eq_true_eq, decide_eq_false_iff_not, Bool.and_eq_true, Bool.or_eq_true, Bool.and_eq_false_iff, Bool.or_eq_false_iff, Bool.not_eq_true', Bool.not_eq_false', ne_eq, Decidable.not_not, Bool.not_true, Bool.not_false, bne_iff_ne, bne_eq_false_iff_eq, beq_iff_eq, beq_eq_false_iff_ne] at hg); omega)) rfl ?_ -- r27.10 outright.go:49
                  refine DS.guardT rfl rfl rfl (fun hg => (by first | exact det_idxL sl51 (ev_cond hg rfl) (ev_cond hg rfl) (by assumption) (by (try simp only [decide_eq_true_eq, decide_eq_false_iff_not, Bool.and_eq_true, Bool.or_eq_true, Bool.and_eq_false_iff, Bool.or_eq_false_iff, Bool.not_eq_true', Bool.not_eq_false', ne_eq, Decidable.not_not, Bool.not_true, Bool.not_false, bne_iff_ne, bne_eq_false_iff_eq, beq_iff_eq, beq_eq_false_iff_ne] at hg); omega) (by (try simp only [decide_eq_true_eq, decide_eq_false_iff_not, Bool.and_eq_true, Bool.or_eq_true, Bool.and_eq_false_iff, Bool.or_eq_false_iff, Bool.not_eq_true', Bool.not_eq_false', ne_eq, Decidable.not_not, Bool.not_true, Bool.not_false, bne_iff_ne, bne_eq_false_iff_eq, beq_iff_eq, beq_eq_false_iff_ne] at hg); omega) | exact det_idxO sl51 (ev_cond hg rfl) (ev_cond hg rfl) (by (try simp only [decide_eq_true_eq, decide_eq_false_iff_not, Bool.and_eq_true, Bool.or_eq_true, Bool.and_eq_false_iff, Bool.or_eq_false_iff, Bool.not_eq_true', Bool.not_eq_false', ne_eq, Decidable.not_not, Bool.not_true, Bool.not_false, bne_iff_ne, bne_eq_false_iff_eq, beq_iff_eq, beq_eq_false_iff_ne] at hg); omega) (by (try simp only [decide_eq_true_eq, decide_eq_false_iff_not, Bool.and_eq_true, Bool.or_eq_true, Bool.and_eq_false_iff, Bool.or_eq_false_iff, Bool.not_eq_true', Bool.not_eq_false', ne_eq, Decidable.not_not, Bool.not_true, Bool.not_false, bne_iff_ne, bne_eq_false_iff_eq, beq_iff_eq, beq_eq_false_iff_ne] at hg); omega))) rfl ?_ -- r27.11 outright.go:49
                  refine DS.guardT rfl rfl rfl (fun hg => (by first | exact det_ldL (ev_cond hg rfl) (by assumption) (by (try simp only [decide_eq_true_eq, decide_eq_false_iff_not, Bool.and_eq_true, Bool.or_eq_true, Bool.and_eq_false_iff, Bool.or_eq_false_iff, Bool.not_eq_true', Bool.not_eq_false', ne_eq, Decidable.not_not, Bool.not_true, Bool.not_false, bne_iff_ne, bne_eq_false_iff_eq, beq_iff_eq, beq_eq_false_iff_ne] at hg); omega) tk24 | exact det_ldLR (j := 0) (ev_cond hg rfl) rfl (by assumption) (by (try simp only [decide_eq_true_eq, decide_eq_false_iff_not, Bool.and_eq_true, Bool.or_eq_true, Bool.and_eq_false_iff, Bool.or_eq_false_iff, Bool.not_eq_true', Bool.not_eq_false', ne_eq, Decidable.not_not, Bool.not_true, Bool.not_false, bne_iff_ne, bne_eq_false_iff_eq, beq_iff_eq, beq_eq_false_iff_ne] at hg); omega) tk24 | exact det_loadb (j := 0) (ev_cond hg rfl) rfl rfl tk24 | exact det_loadb (j := 1) (ev_cond hg rfl) rfl rfl tk24 | exact det_loadb (j := 2) (ev_cond hg rfl) rfl rfl tk24 | exact det_loadb (j := 3) (ev_cond hg rfl) rfl rfl tk24 | exact det_loadw (ev_cond hg rfl) (by assumption) rfl tk24)) rfl ?_ -- r27.12 outright.go:49
                  refine DS.guardT rfl rfl rfl (fun hg => det_callB rfl (evs_cons (ev_cond hg rfl) (evs_cons (ev_cond hg rfl) evs_nil)) ent36 (fun u hu => before_c _ _ _ _ u (h2.st hu) ((hu.roL (j := 0) rfl).el (((readL lw ls cs).take (64 : Int).toNat).length - 1) (by (try simp only [decide_eq_true_eq, decide_eq_false_iff_not, Bool.and_eq_true, Bool.or_eq_true, Bool.and_eq_false_iff, Bool.or_eq_false_iff, Bool.not_eq_true', Bool.not_eq_false', ne_eq, Decidable.not_not, Bool.not_true, Bool.not_false, bne_iff_ne, bne_eq_false_iff_eq, beq_iff_eq, beq_eq_false_iff_ne] at hg); omega) (by (try simp only [decide_eq_true_eq, decide_eq_false_iff_not, Bool.and_eq_true, Bool.or_eq_true, Bool.and_eq_false_iff, Bool.or_eq_false_iff, Bool.not_eq_true', Bool.not_eq_false', ne_eq, Decidable.not_not, Bool.not_true, Bool.not_false, bne_iff_ne, bne_eq_false_iff_eq, beq_iff_eq, beq_eq_false_iff_ne] at hg); omega)))) rfl ?_ -- r27.13 outright.go:49
                  refine DS.guardT rfl rfl rfl (fun hg => det_not (ev_cond hg rfl)) rfl ?_ -- r27.14 outright.go:49
                  refine DS.det rfl rfl (det_pick_and rfl rfl rfl) rfl ?_ -- r27.15 outright.go:49
                  refine DS.det rfl rfl (det_assign rfl) rfl ?_ -- r27.16 outright.go:49
                  refine DS.done ?_
                  refine QS.then_code ?_
                  refine CS.seq ?_
                  refine CS.region ?_
                  refine WS.det rfl rfl rfl (det_move rfl) rfl ?_ -- r28.0 outright.go:50
                  refine WS.det rfl rfl rfl (det_eq rfl rfl) rfl ?_ -- r28.1 outright.go:50
                  refine WS.det rfl rfl rfl (det_move rfl) rfl ?_ -- r28.2 outright.go:50
                  refine WS.guardT rfl rfl rfl rfl (fun hg => det_move rfl) rfl ?_ -- r28.3 outright.go:50
                  refine WS.guardT rfl rfl rfl rfl (fun hg => det_move rfl) rfl ?_ -- r28.4 outright.go:50
                  refine WS.guardT rfl rfl rfl rfl (fun hg => det_eqb (ev_cond hg rfl) (ev_cond hg rfl) Try.underlying4) rfl ?_ -- r28.5 outright.go:50
                  refine WS.guardT rfl rfl rfl rfl (fun hg => det_move (ev_cond hg rfl)) rfl ?_ -- r28.6 outright.go:50
                  refine WS.guardN rfl rfl rfl rfl rfl (fun hg => det_move rfl) rfl ?_ -- r28.7 outright.go:50
                  refine WS.guardN rfl rfl rfl rfl rfl (fun hg => det_move (ev_cond hg rfl)) rfl ?_ -- r28.8 outright.go:50
                  refine WS.guardN rfl rfl rfl rfl rfl (fun hg => det_move rfl) rfl ?_ -- r28.9 outright.go:50
                  refine WS.guardN rfl rfl rfl rfl rfl (fun hg => det_pick_and (ev_cond hg rfl) (ev_nestT hg rfl) rfl) rfl ?_ -- r28.10 outright.go:50
                  refine WS.guardT rfl rfl rfl rfl (fun hg => det_pick_or (ev_cond hg rfl) (ev_nestF hg rfl) rfl) rfl ?_ -- r28.11 outright.go:50
                  refine WS.det rfl rfl rfl (det_pick_and rfl rfl rfl) rfl ?_ -- r28.12 outright.go:50
                  refine WS.det rfl rfl rfl (det_move rfl) rfl ?_ -- r28.13 outright.go:50
                  refine WS.guardT rfl rfl rfl rfl (fun hg => det_callB rfl rfl ent19 (fun u hu => works_c u)) rfl ?_ -- r28.14 outright.go:50
                  refine WS.det rfl rfl rfl (det_pick_and rfl rfl rfl) rfl ?_ -- r28.15 outright.go:50
                  refine WS.det rfl rfl rfl (det_assign rfl) rfl ?_ -- r28.16 outright.go:50
                  refine WS.done ?_
                  refine QS.then_code ?_
                  refine CS.ret ?_
                  exact out1 rfl rfl (retBe (by have hfe : fitsE lw ls cs xs = 0 := (by unfold fitsE; rw [if_pos hce]; exact hc6); have hx := exact_end (m := (64 : Int).toNat) (cs := cs) (by decide) hL hxb; rw [← hq4] at hx; simp only [hfe, hz0, if_true, decide_true, Bool.true_and, Bool.and_true]; exact congrArg Value.bool hx)) -- ret 3

end Go.Proofs.Ytldagbcceefcdaa
