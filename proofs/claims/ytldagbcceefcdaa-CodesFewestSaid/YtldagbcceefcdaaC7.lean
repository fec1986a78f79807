/- Contracts of functions, printed by a program of the prover (gen.py). -/
import Derived.Test.YtldagbcceefcdaaC6
import Derived.Test.YtldagbcceefcdaaClue
import Derived.Test.YtldagbcceefcdaaIter
namespace Go.Proofs.Ytldagbcceefcdaa
open Go.RowKit Go.Proofs
set_option maxRecDepth 100000
set_option linter.unusedVariables false
set_option linter.unusedSimpArgs false

theorem codesI_c (lw ls : Int) (w0 : World) (b : Nat) (hL : lockB lw ls = true) :
    Iter Try.prog w0 93 [.pointer (some ⟨b, 0, none⟩)] [blk b [.int .i64 lw, .int .i64 ls] 77] (fun v x => oints 3 v x) (allC lw ls) := by
  intro lp C Cx hy u hu
  have hl := lock_of hL
  have hp := manyC_pow (w := lw) hl.2.2.1
  refine enterI hu Try.func93 rfl rfl (Nat.le_of_ble_eq_true rfl) ?_
  refine CS.seq ?_
  refine CS.region ?_
  refine WS.det rfl rfl rfl ((by first | exact det_fieldAddr rfl fo77_0 | exact det_fieldAddrS rfl fo77_0)) rfl ?_ -- r0.0 codes.go:190
  refine WS.det rfl rfl rfl ((by first | exact det_loadb (j := 1) rfl rfl rfl tk3 | exact det_loadw rfl (by assumption) rfl tk3)) rfl ?_ -- r0.1 codes.go:190
  refine WS.makeInts sl24 rfl rfl zv3 (by omega) (by omega) (by omega) (fun _ => rfl) ?_; intro v7 -- r0.2 codes.go:190
  refine WS.det rfl rfl rfl (det_assign rfl) rfl ?_ -- r0.3 codes.go:190
  refine WS.done ?_
  refine QS.then_code ?_
  refine CS.block ?_
  refine CS.loopM (σ := Nat) [4, 8, 9, 10, 11, 12, 13, 14, 15, 16, 17, 18, 19, 20, 21, 22, 23, 24, 25, 26, 27, 28, 29, 30, 31, 32, 33, 34, 35, 36, 37, 38, 39] (fun s => []) (fun s => [oints 3 v7 (codeAt lw ls s), C ((allC lw ls).take s), blk b [.int .i64 lw, .int .i64 ls] 77]) (fun s => s < manyC lw ls) (fun s => manyC lw ls - s) 0 (fun _ _ => rfl) rfl (by simp [codeAt_zero]) (manyC_pos hL) ?_
  intro n t hs
  have hn := hs
  refine CS.block ?_
  refine CS.seq ?_
  refine CS.seq ?_
  refine CS.region ?_
  refine WS.det rfl rfl rfl (det_move rfl) rfl ?_ -- r1.0 codes.go:192
  refine WS.det rfl rfl rfl (det_move rfl) rfl ?_ -- r1.1 codes.go:192
  refine WS.yield (L' := fun b' => [oints 3 v7 (codeAt lw ls n), cond b' (C ((allC lw ls).take (n + 1))) (Cx ((allC lw ls).take (n + 1))), blk b [.int .i64 lw, .int .i64 ls] 77]) rfl rfl rfl (fun u hu => by rw [allC_take hn]; exact yield_lent (hy _ _ _ (allC_split hn) _ _ u (hu.perm (.swap _ _ _)))) (fun _ => rfl) ?_; intro b' -- r1.2 codes.go:192
  refine WS.det rfl rfl rfl (det_not rfl) rfl ?_ -- r1.3 codes.go:192
  refine WS.done ?_
  refine QS.then_code ?_
  refine CS.cond rfl (fun hc1 => ?_) (fun hc1 => ?_) <;> (try simp only [decide_eq_true_eq, decide_eq_false_iff_not, Bool.and_eq_true, Bool.or_eq_true, Bool.and_eq_false_iff, Bool.or_eq_false_iff, Bool.not_eq_true', Bool.not_eq_false', ne_eq, Decidable.not_not, Bool.not_true, Bool.not_false, bne_iff_ne, bne_eq_false_iff_eq, beq_iff_eq, beq_eq_false_iff_ne] at hc1)
  · skip
    subst hc1
    refine CS.ret ?_
    refine QS.then_ret ?_
    refine QS.block_ret ?_
    refine QS.then_ret ?_
    refine QS.block_ret ?_
    exact out0 (Or.inl rfl) rfl (fun u hu => ⟨⟨_, rfl⟩, .inr ⟨_, _, _, allC_split hn, by rw [← allC_take hn]; exact hu.tail⟩⟩) -- ret 1
  · skip
    subst hc1
    refine CS.skip ?_
    refine QS.then_code ?_
    refine CS.seq ?_
    refine CS.region ?_
    refine WS.det rfl rfl rfl ((by first | exact det_fieldAddr rfl fo77_0 | exact det_fieldAddrS rfl fo77_0)) rfl ?_ -- r2.0 codes.go:195
    refine WS.det rfl rfl rfl ((by first | exact det_loadb (j := 2) rfl rfl rfl tk3 | exact det_loadw rfl (by assumption) rfl tk3)) rfl ?_ -- r2.1 codes.go:195
    refine WS.det rfl rfl rfl (det_sub rfl rfl (by omega)) rfl ?_ -- r2.2 codes.go:195
    refine WS.det rfl rfl rfl (det_assign rfl) rfl ?_ -- r2.3 codes.go:195
    refine WS.done ?_
    refine QS.then_code ?_
    refine CS.seq ?_
    refine CS.block ?_
    refine CS.loopM (σ := Int × Int × List Int) [15, 16, 17, 18, 19, 20, 21, 22, 23, 24, 25, 26, 27, 28, 29, 30, 31] (fun s => [(4, .int .i64 s.1)]) (fun s => [oints 3 v7 s.2.2, C ((allC lw ls).take (n + 1)), blk b [.int .i64 lw, .int .i64 ls] 77]) (fun s => Odo lw.toNat ls n s.1 s.2.1 s.2.2) (fun s => (s.1 + 1).toNat) (lw - 1, n, codeAt lw ls n) (fun _ _ => rfl) rfl rfl (Odo.start' (by omega) (by omega)) ?_
    intro q t hs
    have hq := hs.len
    have hq2 := hs.lo
    have hq3 := hs.hi
    refine CS.seq ?_
    refine CS.seq ?_
    refine CS.draw mixed (by kernel_rfl) (by kernel_rfl) ?_
    refine DS.det rfl rfl (det_move rfl) rfl ?_ -- r3.0 codes.go:196
    refine DS.det rfl rfl (det_ge rfl rfl) rfl ?_ -- r3.1 codes.go:196
    refine DS.det rfl rfl (det_move rfl) rfl ?_ -- r3.2 codes.go:196
    refine DS.guardT rfl rfl rfl (fun hg => det_move rfl) rfl ?_ -- r3.3 codes.go:196
    refine DS.guardT rfl rfl rfl (fun hg => det_move rfl) rfl ?_ -- r3.4 codes.go:196
    refine DS.guardT rfl rfl rfl (fun hg => det_idxOI (j := 0) sl24 (ev_cond hg rfl) (ev_cond hg rfl) rfl (by (try simp only [decide_eq_true_eq, decide_eq_false_iff_not, Bool.and_eq_true, Bool.or_eq_true, Bool.and_eq_false_iff, Bool.or_eq_false_iff, Bool.not_eq_true', Bool.not_eq_false', ne_eq, Decidable.not_not, Bool.not_true, Bool.not_false, bne_iff_ne, bne_eq_false_iff_eq, beq_iff_eq, beq_eq_false_iff_ne] at hg); omega) (by (try simp only [decide_eq_true_eq, decide_eq_false_iff_not, Bool.and_eq_true, Bool.or_eq_true, Bool.and_eq_false_iff, Bool.or_eq_false_iff, Bool.not_eq_true', Bool.not_eq_false', ne_eq, Decidable.not_not, Bool.not_true, Bool.not_false, bne_iff_ne, bne_eq_false_iff_eq, beq_iff_eq, beq_eq_false_iff_ne] at hg); omega)) rfl ?_ -- r3.5 codes.go:196
    refine DS.guardT rfl rfl rfl (fun hg => det_ldOI (j := 0) (ev_cond hg rfl) rfl (by (try simp only [decide_eq_true_eq, decide_eq_false_iff_not, Bool.and_eq_true, Bool.or_eq_true, Bool.and_eq_false_iff, Bool.or_eq_false_iff, Bool.not_eq_true', Bool.not_eq_false', ne_eq, Decidable.not_not, Bool.not_true, Bool.not_false, bne_iff_ne, bne_eq_false_iff_eq, beq_iff_eq, beq_eq_false_iff_ne] at hg); omega) tk3) rfl ?_ -- r3.6 codes.go:196
    refine DS.guardT rfl rfl rfl (fun hg => (by first | exact det_fieldAddr rfl fo77_1 | exact det_fieldAddrS rfl fo77_1)) rfl ?_ -- r3.7 codes.go:196
    refine DS.guardT rfl rfl rfl (fun hg => (by first | exact det_loadb (j := 2) (ev_cond hg rfl) rfl rfl tk3 | exact det_loadw (ev_cond hg rfl) (by assumption) rfl tk3)) rfl ?_ -- r3.8 codes.go:196
    refine DS.guardT rfl rfl rfl (fun hg => det_sub (ev_cond hg rfl) rfl (by (try simp only [decide_eq_true_eq, decide_eq_false_iff_not, Bool.and_eq_true, Bool.or_eq_true, Bool.and_eq_false_iff, Bool.or_eq_false_iff, Bool.not_eq_true', Bool.not_eq_false', ne_eq, Decidable.not_not, Bool.not_true, Bool.not_false, bne_iff_ne, bne_eq_false_iff_eq, beq_iff_eq, beq_eq_false_iff_ne] at hg); omega)) rfl ?_ -- r3.9 codes.go:196
    refine DS.guardT rfl rfl rfl (fun hg => det_eq (ev_cond hg rfl) (ev_cond hg rfl)) rfl ?_ -- r3.10 codes.go:196
    refine DS.det rfl rfl (det_pick_and rfl rfl rfl) rfl ?_ -- r3.11 codes.go:196
    refine DS.done ?_
    refine QS.then_code ?_
    refine CS.cond rfl (fun hc2 => ?_) (fun hc2 => ?_) <;> (try simp only [decide_eq_true_eq, decide_eq_false_iff_not, Bool.and_eq_true, Bool.or_eq_true, Bool.and_eq_false_iff, Bool.or_eq_false_iff, Bool.not_eq_true', Bool.not_eq_false', ne_eq, Decidable.not_not, Bool.not_true, Bool.not_false, bne_iff_ne, bne_eq_false_iff_eq, beq_iff_eq, beq_eq_false_iff_ne] at hc2)
    · skip
      refine CS.skip ?_
      refine QS.then_code ?_
      refine CS.block ?_
      refine CS.seq ?_
      refine CS.region ?_
      refine WS.det rfl rfl rfl (det_move rfl) rfl ?_ -- r4.0 codes.go:197
      refine WS.det rfl rfl rfl (det_move rfl) rfl ?_ -- r4.1 codes.go:197
      refine WS.det rfl rfl rfl (det_idxOI (j := 0) sl24 rfl rfl rfl (by omega) (by omega)) rfl ?_ -- r4.2 codes.go:197
      refine WS.storeOI (j := 0) rfl rfl (by omega) rfl tk3 rfl ?_ -- r4.3 codes.go:197
      refine WS.done ?_
      refine QS.then_code ?_
      refine CS.region ?_
      refine WS.det rfl rfl rfl (det_move rfl) rfl ?_ -- r5.0 codes.go:198
      refine WS.det rfl rfl rfl (det_sub rfl rfl (by omega)) rfl ?_ -- r5.1 codes.go:198
      refine WS.det rfl rfl rfl (det_assign rfl) rfl ?_ -- r5.2 codes.go:198
      refine WS.done ?_
      refine QS.block_normal ?_
      exact QS.head ((q.1 - 1, q.2.1 / ls, q.2.2.set q.1.toNat 0)) rfl rfl ⟨hs.back hc2.1 (by omega) hc2.2, by simp; omega⟩
    · skip
      refine CS.leave ?_
      refine QS.then_exit ?_
      refine QS.then_exit ?_
      refine QS.block_exit ?_
      refine QS.then_code ?_
      refine CS.seq ?_
      refine CS.seq ?_
      refine CS.region ?_
      refine WS.det rfl rfl rfl (det_move rfl) rfl ?_ -- r6.0 codes.go:200
      refine WS.det rfl rfl rfl (det_lt rfl rfl) rfl ?_ -- r6.1 codes.go:200
      refine WS.done ?_
      refine QS.then_code ?_
      refine CS.cond rfl (fun hc3 => ?_) (fun hc3 => ?_) <;> (try simp only [decide_eq_true_eq, decide_eq_false_iff_not, Bool.and_eq_true, Bool.or_eq_true, Bool.and_eq_false_iff, Bool.or_eq_false_iff, Bool.not_eq_true', Bool.not_eq_false', ne_eq, Decidable.not_not, Bool.not_true, Bool.not_false, bne_iff_ne, bne_eq_false_iff_eq, beq_iff_eq, beq_eq_false_iff_ne] at hc3)
      · skip
        have he := hs.end_ hc3 (by omega) (by omega)
        refine CS.ret ?_
        refine QS.then_ret ?_
        refine QS.block_ret ?_
        refine QS.then_ret ?_
        refine QS.block_ret ?_
        exact out0 (Or.inl rfl) rfl (fun u hu => ⟨⟨_, rfl⟩, .inl (by have e := allC_all (w := lw) (s := ls) (n := n + 1) (by omega); rw [e] at hu; exact hu.tail)⟩) -- ret 2
      · skip
        have hd : ¬ nth q.2.2 q.1 = ls - 1 := by omega
        have hbd := hs.bd (by omega) (by omega)
        refine CS.skip ?_
        refine QS.then_code ?_
        refine CS.region ?_
        refine WS.det rfl rfl rfl (det_move rfl) rfl ?_ -- r7.0 codes.go:203
        refine WS.det rfl rfl rfl (det_move rfl) rfl ?_ -- r7.1 codes.go:203
        refine WS.det rfl rfl rfl (det_idxOI (j := 0) sl24 rfl rfl rfl (by omega) (by omega)) rfl ?_ -- r7.2 codes.go:203
        refine WS.det rfl rfl rfl (det_ldOI (j := 0) rfl rfl (by omega) tk3) rfl ?_ -- r7.3 codes.go:203
        refine WS.det rfl rfl rfl (det_add rfl rfl (by omega)) rfl ?_ -- r7.4 codes.go:203
        refine WS.det rfl rfl rfl (det_idxOI (j := 0) sl24 rfl rfl rfl (by omega) (by omega)) rfl ?_ -- r7.5 codes.go:203
        refine WS.storeOI (j := 0) rfl rfl (by omega) rfl tk3 rfl ?_ -- r7.6 codes.go:203
        refine WS.done ?_
        refine QS.block_normal ?_
        exact QS.head (n + 1) rfl (by rw [hs.next (by omega) (by omega) hd]; rfl) ⟨by have := hs.more (by omega) (by omega) hd (by omega); omega, by omega⟩

end Go.Proofs.Ytldagbcceefcdaa
