/- Contracts of functions, printed by a program of the prover (gen.py). -/
import Derived.Test.YtldagbcceefcdaaC2
import Derived.Test.YtldagbcceefcdaaClue
namespace Go.Proofs.Ytldagbcceefcdaa
open Go.RowKit Go.Proofs
set_option maxRecDepth 100000
set_option linter.unusedVariables false
set_option linter.unusedSimpArgs false

set_option maxHeartbeats 2000000 in
theorem plain_c (lw ls : Int) (c : Clue) (gv : Value) (xs : List Int) (v : Value) (w : World) (hU : Use lw ls c xs) (hg1 : SlI w gv c.g) (h1 : SlI w v xs) :
    Calls Try.prog 91 #[.agg #[.int .i64 c.k, .int .i64 c.a, .int .i64 c.b, .int .i64 c.n, .int .i64 c.m, gv, .bool c.nt], v] w (RetB w (.bool (plainT c xs))) := by
  have hl1 := h1.le
  have hln := hU.len
  obtain ⟨f1, f2, f3, f7, fk1, fk2, fn⟩ := hU.facts
  obtain ⟨hgn, p, cap, rfl, hcap, hp⟩ := hg1
  have hg1 : SlI w (.slice p c.g.length cap) c.g := ⟨hgn, p, cap, rfl, hcap, hp⟩
  clear hgn hcap hp
  refine enter Try.func91 rfl rfl (Nat.le_of_ble_eq_true rfl) ?_
  refine CS.seq ?_
  refine CS.region ?_
  refine WS.box rfl rfl (fun _ => rfl) ?_; intro b2 hb2 -- r0.0 codes.go:127
  refine WS.det rfl rfl rfl (det_assign rfl) rfl ?_ -- r0.1 codes.go:127
  refine WS.done ?_
  refine QS.then_code ?_
  refine CS.seq ?_
  refine CS.seq ?_
  refine CS.region ?_
  refine WS.det rfl rfl rfl ((by first | exact det_fieldAddr rfl fo36_0 | exact det_fieldAddrS rfl fo36_0)) rfl ?_ -- r1.0 codes.go:128
  refine WS.det rfl rfl rfl ((by first | exact det_loadb (j := 0) rfl rfl rfl tk3 | exact det_loadw rfl (by assumption) rfl tk3)) rfl ?_ -- r1.1 codes.go:128
  refine WS.done ?_
  refine QS.then_code ?_
  refine CS.block ?_
  refine CS.seq ?_
  refine CS.region ?_
  refine WS.det rfl rfl rfl (det_eq rfl rfl) rfl ?_ -- r2.0 codes.go:129
  refine WS.det rfl rfl rfl (det_assign rfl) rfl ?_ -- r2.1 codes.go:129
  refine WS.done ?_
  refine QS.then_code ?_
  refine CS.cond rfl (fun hc1 => ?_) (fun hc1 => ?_) <;> (try simp only [decide_eq_true_eq, decide_eq_false_iff_not, Bool.and_eq_true, Bool.or_eq_true, Bool.and_eq_false_iff, Bool.or_eq_false_iff, Bool.not_eq_true', Bool.not_eq_false', ne_eq, Decidable.not_not, Bool.not_true, Bool.not_false, bne_iff_ne, bne_eq_false_iff_eq, beq_iff_eq, beq_eq_false_iff_ne] at hc1)
  · skip
    refine CS.seq ?_
    refine CS.draw mixed (by kernel_rfl) (by kernel_rfl) ?_
    refine DS.det rfl rfl (det_move rfl) rfl ?_ -- r3.0 codes.go:130
    refine DS.det rfl rfl ((by first | exact det_fieldAddr rfl fo36_1 | exact det_fieldAddrS rfl fo36_1)) rfl ?_ -- r3.1 codes.go:130
    refine DS.det rfl rfl ((by first | exact det_loadb (j := 0) rfl rfl rfl tk3 | exact det_loadw rfl (by assumption) rfl tk3)) rfl ?_ -- r3.2 codes.go:130
    refine DS.det rfl rfl ((by first | exact det_idxI sl24 rfl rfl (by assumption) (by omega) (by omega) | exact det_idxO sl24 rfl rfl (by omega) (by omega))) rfl ?_ -- r3.3 codes.go:130
    refine DS.det rfl rfl ((by first | exact det_ldI rfl (by assumption) (by omega) tk3 | exact det_loadb (j := 0) rfl rfl rfl tk3 | exact det_loadb (j := 1) rfl rfl rfl tk3 | exact det_loadb (j := 2) rfl rfl rfl tk3 | exact det_loadb (j := 3) rfl rfl rfl tk3 | exact det_loadw rfl (by assumption) rfl tk3)) rfl ?_ -- r3.4 codes.go:130
    refine DS.det rfl rfl ((by first | exact det_fieldAddr rfl fo36_3 | exact det_fieldAddrS rfl fo36_3)) rfl ?_ -- r3.5 codes.go:130
    refine DS.det rfl rfl ((by first | exact det_loadb (j := 0) rfl rfl rfl tk3 | exact det_loadw rfl (by assumption) rfl tk3)) rfl ?_ -- r3.6 codes.go:130
    refine DS.det rfl rfl (det_eq rfl rfl) rfl ?_ -- r3.7 codes.go:130
    refine DS.det rfl rfl (det_assign rfl) rfl ?_ -- r3.8 codes.go:130
    refine DS.done ?_
    refine QS.then_code ?_
    refine CS.ret ?_
    refine QS.block_ret ?_
    refine QS.then_ret ?_
    exact out1 rfl rfl (retBe (by simp [plainT, hc1])) -- ret 1
  · skip
    refine CS.seq ?_
    refine CS.region ?_
    refine WS.det rfl rfl rfl (det_eq rfl rfl) rfl ?_ -- r4.0 codes.go:131
    refine WS.det rfl rfl rfl (det_assign rfl) rfl ?_ -- r4.1 codes.go:131
    refine WS.done ?_
    refine QS.then_code ?_
    refine CS.cond rfl (fun hc2 => ?_) (fun hc2 => ?_) <;> (try simp only [decide_eq_true_eq, decide_eq_false_iff_not, Bool.and_eq_true, Bool.or_eq_true, Bool.and_eq_false_iff, Bool.or_eq_false_iff, Bool.not_eq_true', Bool.not_eq_false', ne_eq, Decidable.not_not, Bool.not_true, Bool.not_false, bne_iff_ne, bne_eq_false_iff_eq, beq_iff_eq, beq_eq_false_iff_ne] at hc2)
    · skip
      have fk := f2 hc2
      have h2 := h1.sub (lo := c.a.toNat) (hi := (c.b + 1).toNat) (by omega) (by omega)
      have hpl := part_len fk.1 fk.2.1 fk.2.2
      change SlI w _ (part xs c.a c.b) at h2
      refine CS.seq ?_
      refine CS.region ?_
      refine WS.det rfl rfl rfl (det_assign rfl) rfl ?_ -- r5.0 codes.go:132
      refine WS.done ?_
      refine QS.then_code ?_
      refine CS.seq ?_
      refine CS.seq ?_
      refine CS.region ?_
      refine WS.det rfl rfl rfl (det_move rfl) rfl ?_ -- r6.0 codes.go:133
      refine WS.det rfl rfl rfl ((by first | exact det_fieldAddr rfl fo36_1 | exact det_fieldAddrS rfl fo36_1)) rfl ?_ -- r6.1 codes.go:133
      refine WS.det rfl rfl rfl ((by first | exact det_loadb (j := 0) rfl rfl rfl tk3 | exact det_loadw rfl (by assumption) rfl tk3)) rfl ?_ -- r6.2 codes.go:133
      refine WS.det rfl rfl rfl ((by first | exact det_fieldAddr rfl fo36_2 | exact det_fieldAddrS rfl fo36_2)) rfl ?_ -- r6.3 codes.go:133
      refine WS.det rfl rfl rfl ((by first | exact det_loadb (j := 0) rfl rfl rfl tk3 | exact det_loadw rfl (by assumption) rfl tk3)) rfl ?_ -- r6.4 codes.go:133
      refine WS.det rfl rfl rfl (det_add rfl rfl (by omega)) rfl ?_ -- r6.5 codes.go:133
      refine WS.det rfl rfl rfl (det_subs sl24 rfl rfl rfl h1 (by omega) (by omega) (by omega)) rfl ?_ -- r6.6 codes.go:133
      refine WS.det rfl rfl rfl ((by first | exact det_lenS sl24 rfl (by assumption) | exact det_lenS sl24 rfl (by first | exact SlL.sp (by assumption) | exact ClS.sp (by assumption)) | exact det_lenO sl24 rfl | exact det_lenV sl24 rfl ⟨_, _, rfl⟩)) rfl ?_ -- r6.7 codes.go:133
      refine WS.det rfl rfl rfl (det_move rfl) rfl ?_ -- r6.8 codes.go:133
      refine WS.done ?_
      refine QS.then_code ?_
      refine CS.block ?_
      refine CS.loopM (σ := Int × Int) [7, 36, 37, 38, 39, 40, 41, 42] (fun s => [(5, .int .i64 s.2), (35, .int .i64 s.1)]) (fun _ => _) (fun s => 0 ≤ s.1 ∧ s.1 ≤ (part xs c.a c.b).length ∧ s.2 = lsum ((part xs c.a c.b).take s.1.toNat)) (fun s => ((part xs c.a c.b).length - s.1).toNat) (0, 0) (fun _ _ => rfl) rfl rfl ⟨by simp, by simp, rfl⟩ ?_
      intro s t hs
      obtain ⟨hs1, hs2, hs3⟩ := hs
      refine CS.seq ?_
      refine CS.region ?_
      refine WS.det rfl rfl rfl (det_lt rfl rfl) rfl ?_ -- r7.0 codes.go:133
      refine WS.done ?_
      refine QS.then_code ?_
      refine CS.seq ?_
      refine CS.cond rfl (fun hc3 => ?_) (fun hc3 => ?_) <;> (try simp only [decide_eq_true_eq, decide_eq_false_iff_not, Bool.and_eq_true, Bool.or_eq_true, Bool.and_eq_false_iff, Bool.or_eq_false_iff, Bool.not_eq_true', Bool.not_eq_false', ne_eq, Decidable.not_not, Bool.not_true, Bool.not_false, bne_iff_ne, bne_eq_false_iff_eq, beq_iff_eq, beq_eq_false_iff_ne] at hc3)
      · skip
        have hb1 := hU.psum s.1.toNat
        have hb2 := hU.nth (i := c.a + s.1) (by omega) (by omega)
        have hb3 := part_nth fk.1 (i := c.a + s.1) (by omega) (b := c.b) (by omega) fk.2.2
        have e3 : c.a + s.1 - c.a = s.1 := by omega
        rw [e3] at hb3
        refine CS.skip ?_
        refine QS.then_code ?_
        refine CS.seq ?_
        refine CS.block ?_
        refine CS.seq ?_
        refine CS.region ?_
        refine WS.det rfl rfl rfl ((by first | exact det_idxI sl24 rfl rfl (by assumption) (by omega) (by omega) | exact det_idxO sl24 rfl rfl (by omega) (by omega))) rfl ?_ -- r8.0 codes.go:133
        refine WS.det rfl rfl rfl ((by first | exact det_ldI rfl (by assumption) (by omega) tk3 | exact det_loadb (j := 0) rfl rfl rfl tk3 | exact det_loadb (j := 1) rfl rfl rfl tk3 | exact det_loadb (j := 2) rfl rfl rfl tk3 | exact det_loadb (j := 3) rfl rfl rfl tk3 | exact det_loadw rfl (by assumption) rfl tk3)) rfl ?_ -- r8.1 codes.go:133
        refine WS.det rfl rfl rfl (det_assign rfl) rfl ?_ -- r8.2 codes.go:133
        refine WS.done ?_
        refine QS.then_code ?_
        refine CS.region ?_
        refine WS.det rfl rfl rfl (det_move rfl) rfl ?_ -- r9.0 codes.go:134
        refine WS.det rfl rfl rfl (det_move rfl) rfl ?_ -- r9.1 codes.go:134
        refine WS.det rfl rfl rfl (det_add rfl rfl (by omega)) rfl ?_ -- r9.2 codes.go:134
        refine WS.det rfl rfl rfl (det_assign rfl) rfl ?_ -- r9.3 codes.go:134
        refine WS.done ?_
        refine QS.block_normal ?_
        refine QS.then_code ?_
        refine CS.region ?_
        refine WS.det rfl rfl rfl (det_add rfl rfl (by omega)) rfl ?_ -- r10.0 codes.go:133
        refine WS.det rfl rfl rfl (det_move rfl) rfl ?_ -- r10.1 codes.go:133
        refine WS.done ?_
        exact QS.head ((s.1 + 1, s.2 + nth (part xs c.a c.b) s.1)) rfl rfl ⟨⟨by simp; omega, by simp; omega, by simp only; rw [take_snocI _ hs1 (by omega), lsum_snoc, hs3]⟩, by simp; omega⟩
      · skip
        refine CS.leave ?_
        refine QS.then_exit ?_
        refine QS.then_exit ?_
        refine QS.block_exit ?_
        refine QS.then_code ?_
        refine CS.seq ?_
        refine CS.region ?_
        refine WS.det rfl rfl rfl (det_move rfl) rfl ?_ -- r11.0 codes.go:136
        refine WS.det rfl rfl rfl ((by first | exact det_fieldAddr rfl fo36_3 | exact det_fieldAddrS rfl fo36_3)) rfl ?_ -- r11.1 codes.go:136
        refine WS.det rfl rfl rfl ((by first | exact det_loadb (j := 0) rfl rfl rfl tk3 | exact det_loadw rfl (by assumption) rfl tk3)) rfl ?_ -- r11.2 codes.go:136
        refine WS.det rfl rfl rfl (det_eq rfl rfl) rfl ?_ -- r11.3 codes.go:136
        refine WS.det rfl rfl rfl (det_assign rfl) rfl ?_ -- r11.4 codes.go:136
        refine WS.done ?_
        refine QS.then_code ?_
        refine CS.ret ?_
        refine QS.block_ret ?_
        refine QS.then_ret ?_
        exact out1 rfl rfl (retBe (by rw [hs3, lsum_all _ (by omega)]; simp [plainT, hc2])) -- ret 2
    · skip
      refine CS.seq ?_
      refine CS.region ?_
      refine WS.det rfl rfl rfl (det_eq rfl rfl) rfl ?_ -- r12.0 codes.go:137
      refine WS.det rfl rfl rfl (det_assign rfl) rfl ?_ -- r12.1 codes.go:137
      refine WS.done ?_
      refine QS.then_code ?_
      refine CS.cond rfl (fun hc4 => ?_) (fun hc4 => ?_) <;> (try simp only [decide_eq_true_eq, decide_eq_false_iff_not, Bool.and_eq_true, Bool.or_eq_true, Bool.and_eq_false_iff, Bool.or_eq_false_iff, Bool.not_eq_true', Bool.not_eq_false', ne_eq, Decidable.not_not, Bool.not_true, Bool.not_false, bne_iff_ne, bne_eq_false_iff_eq, beq_iff_eq, beq_eq_false_iff_ne] at hc4)
      · skip
        refine CS.seq ?_
        refine CS.draw mixed (by kernel_rfl) (by kernel_rfl) ?_
        refine DS.det rfl rfl (det_move rfl) rfl ?_ -- r13.0 codes.go:138
        refine DS.det rfl rfl ((by first | exact det_fieldAddr rfl fo36_1 | exact det_fieldAddrS rfl fo36_1)) rfl ?_ -- r13.1 codes.go:138
        refine DS.det rfl rfl ((by first | exact det_loadb (j := 0) rfl rfl rfl tk3 | exact det_loadw rfl (by assumption) rfl tk3)) rfl ?_ -- r13.2 codes.go:138
        refine DS.det rfl rfl ((by first | exact det_idxI sl24 rfl rfl (by assumption) (by omega) (by omega) | exact det_idxO sl24 rfl rfl (by omega) (by omega))) rfl ?_ -- r13.3 codes.go:138
        refine DS.det rfl rfl ((by first | exact det_ldI rfl (by assumption) (by omega) tk3 | exact det_loadb (j := 0) rfl rfl rfl tk3 | exact det_loadb (j := 1) rfl rfl rfl tk3 | exact det_loadb (j := 2) rfl rfl rfl tk3 | exact det_loadb (j := 3) rfl rfl rfl tk3 | exact det_loadw rfl (by assumption) rfl tk3)) rfl ?_ -- r13.4 codes.go:138
        refine DS.det rfl rfl (det_move rfl) rfl ?_ -- r13.5 codes.go:138
        refine DS.det rfl rfl ((by first | exact det_fieldAddr rfl fo36_2 | exact det_fieldAddrS rfl fo36_2)) rfl ?_ -- r13.6 codes.go:138
        refine DS.det rfl rfl ((by first | exact det_loadb (j := 0) rfl rfl rfl tk3 | exact det_loadw rfl (by assumption) rfl tk3)) rfl ?_ -- r13.7 codes.go:138
        refine DS.det rfl rfl ((by first | exact det_idxI sl24 rfl rfl (by assumption) (by omega) (by omega) | exact det_idxO sl24 rfl rfl (by omega) (by omega))) rfl ?_ -- r13.8 codes.go:138
        refine DS.det rfl rfl ((by first | exact det_ldI rfl (by assumption) (by omega) tk3 | exact det_loadb (j := 0) rfl rfl rfl tk3 | exact det_loadb (j := 1) rfl rfl rfl tk3 | exact det_loadb (j := 2) rfl rfl rfl tk3 | exact det_loadb (j := 3) rfl rfl rfl tk3 | exact det_loadw rfl (by assumption) rfl tk3)) rfl ?_ -- r13.9 codes.go:138
        refine DS.det rfl rfl (det_lt rfl rfl) rfl ?_ -- r13.10 codes.go:138
        refine DS.det rfl rfl (det_assign rfl) rfl ?_ -- r13.11 codes.go:138
        refine DS.done ?_
        refine QS.then_code ?_
        refine CS.ret ?_
        refine QS.block_ret ?_
        refine QS.then_ret ?_
        exact out1 rfl rfl (retBe (by simp [plainT, hc4])) -- ret 3
      · skip
        refine CS.seq ?_
        refine CS.region ?_
        refine WS.det rfl rfl rfl (det_eq rfl rfl) rfl ?_ -- r14.0 codes.go:139
        refine WS.det rfl rfl rfl (det_assign rfl) rfl ?_ -- r14.1 codes.go:139
        refine WS.done ?_
        refine QS.then_code ?_
        refine CS.cond rfl (fun hc5 => ?_) (fun hc5 => ?_) <;> (try simp only [decide_eq_true_eq, decide_eq_false_iff_not, Bool.and_eq_true, Bool.or_eq_true, Bool.and_eq_false_iff, Bool.or_eq_false_iff, Bool.not_eq_true', Bool.not_eq_false', ne_eq, Decidable.not_not, Bool.not_true, Bool.not_false, bne_iff_ne, bne_eq_false_iff_eq, beq_iff_eq, beq_eq_false_iff_ne] at hc5)
        · skip
          refine CS.seq ?_
          refine CS.draw mixed (by kernel_rfl) (by kernel_rfl) ?_
          refine DS.det rfl rfl (det_move rfl) rfl ?_ -- r15.0 codes.go:140
          refine DS.det rfl rfl ((by first | exact det_fieldAddr rfl fo36_1 | exact det_fieldAddrS rfl fo36_1)) rfl ?_ -- r15.1 codes.go:140
          refine DS.det rfl rfl ((by first | exact det_loadb (j := 0) rfl rfl rfl tk3 | exact det_loadw rfl (by assumption) rfl tk3)) rfl ?_ -- r15.2 codes.go:140
          refine DS.det rfl rfl ((by first | exact det_idxI sl24 rfl rfl (by assumption) (by omega) (by omega) | exact det_idxO sl24 rfl rfl (by omega) (by omega))) rfl ?_ -- r15.3 codes.go:140
          refine DS.det rfl rfl ((by first | exact det_ldI rfl (by assumption) (by omega) tk3 | exact det_loadb (j := 0) rfl rfl rfl tk3 | exact det_loadb (j := 1) rfl rfl rfl tk3 | exact det_loadb (j := 2) rfl rfl rfl tk3 | exact det_loadb (j := 3) rfl rfl rfl tk3 | exact det_loadw rfl (by assumption) rfl tk3)) rfl ?_ -- r15.4 codes.go:140
          refine DS.det rfl rfl (det_move rfl) rfl ?_ -- r15.5 codes.go:140
          refine DS.det rfl rfl ((by first | exact det_fieldAddr rfl fo36_2 | exact det_fieldAddrS rfl fo36_2)) rfl ?_ -- r15.6 codes.go:140
          refine DS.det rfl rfl ((by first | exact det_loadb (j := 0) rfl rfl rfl tk3 | exact det_loadw rfl (by assumption) rfl tk3)) rfl ?_ -- r15.7 codes.go:140
          refine DS.det rfl rfl ((by first | exact det_idxI sl24 rfl rfl (by assumption) (by omega) (by omega) | exact det_idxO sl24 rfl rfl (by omega) (by omega))) rfl ?_ -- r15.8 codes.go:140
          refine DS.det rfl rfl ((by first | exact det_ldI rfl (by assumption) (by omega) tk3 | exact det_loadb (j := 0) rfl rfl rfl tk3 | exact det_loadb (j := 1) rfl rfl rfl tk3 | exact det_loadb (j := 2) rfl rfl rfl tk3 | exact det_loadb (j := 3) rfl rfl rfl tk3 | exact det_loadw rfl (by assumption) rfl tk3)) rfl ?_ -- r15.9 codes.go:140
          refine DS.det rfl rfl (det_eq rfl rfl) rfl ?_ -- r15.10 codes.go:140
          refine DS.det rfl rfl (det_assign rfl) rfl ?_ -- r15.11 codes.go:140
          refine DS.done ?_
          refine QS.then_code ?_
          refine CS.ret ?_
          refine QS.block_ret ?_
          refine QS.then_ret ?_
          exact out1 rfl rfl (retBe (by simp [plainT, hc5])) -- ret 4
        · skip
          refine CS.seq ?_
          refine CS.region ?_
          refine WS.det rfl rfl rfl (det_eq rfl rfl) rfl ?_ -- r16.0 codes.go:141
          refine WS.det rfl rfl rfl (det_assign rfl) rfl ?_ -- r16.1 codes.go:141
          refine WS.done ?_
          refine QS.then_code ?_
          refine CS.cond rfl (fun hc6 => ?_) (fun hc6 => ?_) <;> (try simp only [decide_eq_true_eq, decide_eq_false_iff_not, Bool.and_eq_true, Bool.or_eq_true, Bool.and_eq_false_iff, Bool.or_eq_false_iff, Bool.not_eq_true', Bool.not_eq_false', ne_eq, Decidable.not_not, Bool.not_true, Bool.not_false, bne_iff_ne, bne_eq_false_iff_eq, beq_iff_eq, beq_eq_false_iff_ne] at hc6)
          · skip
            refine CS.seq ?_
            refine CS.region ?_
            refine WS.det rfl rfl rfl (det_assign rfl) rfl ?_ -- r17.0 codes.go:142
            refine WS.done ?_
            refine QS.then_code ?_
            refine CS.seq ?_
            refine CS.seq ?_
            refine CS.region ?_
            refine WS.det rfl rfl rfl (det_move rfl) rfl ?_ -- r18.0 codes.go:143
            refine WS.det rfl rfl rfl ((by first | exact det_lenS sl24 rfl (by assumption) | exact det_lenS sl24 rfl (by first | exact SlL.sp (by assumption) | exact ClS.sp (by assumption)) | exact det_lenO sl24 rfl | exact det_lenV sl24 rfl ⟨_, _, rfl⟩)) rfl ?_ -- r18.1 codes.go:143
            refine WS.det rfl rfl rfl (det_move rfl) rfl ?_ -- r18.2 codes.go:143
            refine WS.done ?_
            refine QS.then_code ?_
            refine CS.block ?_
            refine CS.loopM (σ := Int × Int) [10, 78, 79, 80, 81, 82, 83, 84, 85, 86, 87] (fun s => [(8, .int .i64 s.2), (77, .int .i64 s.1)]) (fun _ => _) (fun s => 0 ≤ s.1 ∧ s.1 ≤ xs.length ∧ s.2 = cnt (xs.take s.1.toNat) c.n) (fun s => (xs.length - s.1).toNat) (0, 0) (fun _ _ => rfl) rfl rfl ⟨by simp, by simp, rfl⟩ ?_
            intro s t hs
            obtain ⟨hs1, hs2, hs3⟩ := hs
            have hbd := cnt_le (xs.take s.1.toNat) c.n
            have hlt := List.length_take_le s.1.toNat xs
            refine CS.seq ?_
            refine CS.region ?_
            refine WS.det rfl rfl rfl (det_lt rfl rfl) rfl ?_ -- r19.0 codes.go:143
            refine WS.done ?_
            refine QS.then_code ?_
            refine CS.seq ?_
            refine CS.cond rfl (fun hc7 => ?_) (fun hc7 => ?_) <;> (try simp only [decide_eq_true_eq, decide_eq_false_iff_not, Bool.and_eq_true, Bool.or_eq_true, Bool.and_eq_false_iff, Bool.or_eq_false_iff, Bool.not_eq_true', Bool.not_eq_false', ne_eq, Decidable.not_not, Bool.not_true, Bool.not_false, bne_iff_ne, bne_eq_false_iff_eq, beq_iff_eq, beq_eq_false_iff_ne] at hc7)
            · skip
              refine CS.skip ?_
              refine QS.then_code ?_
              refine CS.seq ?_
              refine CS.block ?_
              refine CS.seq ?_
              refine CS.region ?_
              refine WS.det rfl rfl rfl ((by first | exact det_idxI sl24 rfl rfl (by assumption) (by omega) (by omega) | exact det_idxO sl24 rfl rfl (by omega) (by omega))) rfl ?_ -- r20.0 codes.go:143
              refine WS.det rfl rfl rfl ((by first | exact det_ldI rfl (by assumption) (by omega) tk3 | exact det_loadb (j := 0) rfl rfl rfl tk3 | exact det_loadb (j := 1) rfl rfl rfl tk3 | exact det_loadb (j := 2) rfl rfl rfl tk3 | exact det_loadb (j := 3) rfl rfl rfl tk3 | exact det_loadw rfl (by assumption) rfl tk3)) rfl ?_ -- r20.1 codes.go:143
              refine WS.det rfl rfl rfl (det_assign rfl) rfl ?_ -- r20.2 codes.go:143
              refine WS.done ?_
              refine QS.then_code ?_
              refine CS.seq ?_
              refine CS.region ?_
              refine WS.det rfl rfl rfl (det_move rfl) rfl ?_ -- r21.0 codes.go:144
              refine WS.det rfl rfl rfl ((by first | exact det_fieldAddr rfl fo36_3 | exact det_fieldAddrS rfl fo36_3)) rfl ?_ -- r21.1 codes.go:144
              refine WS.det rfl rfl rfl ((by first | exact det_loadb (j := 0) rfl rfl rfl tk3 | exact det_loadw rfl (by assumption) rfl tk3)) rfl ?_ -- r21.2 codes.go:144
              refine WS.det rfl rfl rfl (det_eq rfl rfl) rfl ?_ -- r21.3 codes.go:144
              refine WS.done ?_
              refine QS.then_code ?_
              refine CS.cond rfl (fun hc8 => ?_) (fun hc8 => ?_) <;> (try simp only [decide_eq_true_eq, decide_eq_false_iff_not, Bool.and_eq_true, Bool.or_eq_true, Bool.and_eq_false_iff, Bool.or_eq_false_iff, Bool.not_eq_true', Bool.not_eq_false', ne_eq, Decidable.not_not, Bool.not_true, Bool.not_false, bne_iff_ne, bne_eq_false_iff_eq, beq_iff_eq, beq_eq_false_iff_ne] at hc8)
              · skip
                refine CS.region ?_
                refine WS.det rfl rfl rfl (det_move rfl) rfl ?_ -- r22.0 codes.go:145
                refine WS.det rfl rfl rfl (det_add rfl rfl (by omega)) rfl ?_ -- r22.1 codes.go:145
                refine WS.det rfl rfl rfl (det_assign rfl) rfl ?_ -- r22.2 codes.go:145
                refine WS.done ?_
                refine QS.block_normal ?_
                refine QS.then_code ?_
                refine CS.region ?_
                refine WS.det rfl rfl rfl (det_add rfl rfl (by omega)) rfl ?_ -- r23.0 codes.go:143
                refine WS.det rfl rfl rfl (det_move rfl) rfl ?_ -- r23.1 codes.go:143
                refine WS.done ?_
                exact QS.head ((s.1 + 1, s.2 + 1)) rfl rfl ⟨⟨by simp; omega, by simp; omega, by simp only; rw [take_snocI xs hs1 (by omega), cnt_snoc, hs3]; simp [hc8]⟩, by simp; omega⟩
              · skip
                refine CS.skip ?_
                refine QS.block_normal ?_
                refine QS.then_code ?_
                refine CS.region ?_
                refine WS.det rfl rfl rfl (det_add rfl rfl (by omega)) rfl ?_ -- r23.0 codes.go:143
                refine WS.det rfl rfl rfl (det_move rfl) rfl ?_ -- r23.1 codes.go:143
                refine WS.done ?_
                exact QS.head ((s.1 + 1, s.2)) rfl rfl ⟨⟨by simp; omega, by simp; omega, by simp only; rw [take_snocI xs hs1 (by omega), cnt_snoc, hs3]; simp [hc8]⟩, by simp; omega⟩
            · skip
              refine CS.leave ?_
              refine QS.then_exit ?_
              refine QS.then_exit ?_
              refine QS.block_exit ?_
              refine QS.then_code ?_
              refine CS.seq ?_
              refine CS.region ?_
              refine WS.det rfl rfl rfl (det_move rfl) rfl ?_ -- r24.0 codes.go:148
              refine WS.det rfl rfl rfl ((by first | exact det_fieldAddr rfl fo36_4 | exact det_fieldAddrS rfl fo36_4)) rfl ?_ -- r24.1 codes.go:148
              refine WS.det rfl rfl rfl ((by first | exact det_loadb (j := 0) rfl rfl rfl tk3 | exact det_loadw rfl (by assumption) rfl tk3)) rfl ?_ -- r24.2 codes.go:148
              refine WS.det rfl rfl rfl (det_eq rfl rfl) rfl ?_ -- r24.3 codes.go:148
              refine WS.det rfl rfl rfl (det_assign rfl) rfl ?_ -- r24.4 codes.go:148
              refine WS.done ?_
              refine QS.then_code ?_
              refine CS.ret ?_
              refine QS.block_ret ?_
              refine QS.then_ret ?_
              exact out1 rfl rfl (retBe (by rw [hs3, take_all xs (by omega)]; simp [plainT, hc6])) -- ret 5
          · skip
            refine CS.seq ?_
            refine CS.region ?_
            refine WS.det rfl rfl rfl (det_eq rfl rfl) rfl ?_ -- r25.0 codes.go:149
            refine WS.det rfl rfl rfl (det_assign rfl) rfl ?_ -- r25.1 codes.go:149
            refine WS.done ?_
            refine QS.then_code ?_
            refine CS.cond rfl (fun hc9 => ?_) (fun hc9 => ?_) <;> (try simp only [decide_eq_true_eq, decide_eq_false_iff_not, Bool.and_eq_true, Bool.or_eq_true, Bool.and_eq_false_iff, Bool.or_eq_false_iff, Bool.not_eq_true', Bool.not_eq_false', ne_eq, Decidable.not_not, Bool.not_true, Bool.not_false, bne_iff_ne, bne_eq_false_iff_eq, beq_iff_eq, beq_eq_false_iff_ne] at hc9)
            · skip
              refine CS.seq ?_
              refine CS.region ?_
              refine WS.det rfl rfl rfl (det_move rfl) rfl ?_ -- r26.0 codes.go:150
              refine WS.det rfl rfl rfl ((by first | exact det_fieldAddr rfl fo36_5 | exact det_fieldAddrS rfl fo36_5)) rfl ?_ -- r26.1 codes.go:150
              refine WS.det rfl rfl rfl ((by first | exact det_loadb (j := 0) rfl rfl rfl tk24 | exact det_loadw rfl (by assumption) rfl tk24)) rfl ?_ -- r26.2 codes.go:150
              refine WS.det rfl rfl rfl (det_callB rfl rfl ent55 (fun u hu => answer_c _ _ _ _ u (h1.st hu) (hg1.st hu) (hU.guess hc9).1 (by omega) (code_ten hU.lk hU.cd).2 (code_ten hU.lk (hU.guess hc9).2).2)) rfl ?_ -- r26.3 codes.go:150
              refine WS.det rfl rfl rfl (det_move rfl) rfl ?_ -- r26.4 codes.go:150
              refine WS.det rfl rfl rfl (det_extract rfl rfl) rfl ?_ -- r26.5 codes.go:150
              refine WS.det rfl rfl rfl (det_extract rfl rfl) rfl ?_ -- r26.6 codes.go:150
              refine WS.det rfl rfl rfl (det_assign rfl) rfl ?_ -- r26.7 codes.go:150
              refine WS.det rfl rfl rfl (det_assign rfl) rfl ?_ -- r26.8 codes.go:150
              refine WS.done ?_
              refine QS.then_code ?_
              refine CS.seq ?_
              refine CS.region ?_
              refine WS.det rfl rfl rfl (det_move rfl) rfl ?_ -- r27.0 codes.go:151
              refine WS.det rfl rfl rfl ((by first | exact det_fieldAddr rfl fo36_3 | exact det_fieldAddrS rfl fo36_3)) rfl ?_ -- r27.1 codes.go:151
              refine WS.det rfl rfl rfl ((by first | exact det_loadb (j := 0) rfl rfl rfl tk3 | exact det_loadw rfl (by assumption) rfl tk3)) rfl ?_ -- r27.2 codes.go:151
              refine WS.det rfl rfl rfl (det_eq rfl rfl) rfl ?_ -- r27.3 codes.go:151
              refine WS.det rfl rfl rfl (det_move rfl) rfl ?_ -- r27.4 codes.go:151
              refine WS.guardT rfl rfl rfl rfl (fun hg => det_move rfl) rfl ?_ -- r27.5 codes.go:151
              refine WS.guardT rfl rfl rfl rfl (fun hg => (by first | exact det_fieldAddr rfl fo36_4 | exact det_fieldAddrS rfl fo36_4)) rfl ?_ -- r27.6 codes.go:151
              refine WS.guardT rfl rfl rfl rfl (fun hg => (by first | exact det_loadb (j := 0) (ev_cond hg rfl) rfl rfl tk3 | exact det_loadw (ev_cond hg rfl) (by assumption) rfl tk3)) rfl ?_ -- r27.7 codes.go:151
              refine WS.guardT rfl rfl rfl rfl (fun hg => det_eq (ev_cond hg rfl) (ev_cond hg rfl)) rfl ?_ -- r27.8 codes.go:151
              refine WS.det rfl rfl rfl (det_pick_and rfl rfl rfl) rfl ?_ -- r27.9 codes.go:151
              refine WS.det rfl rfl rfl (det_assign rfl) rfl ?_ -- r27.10 codes.go:151
              refine WS.done ?_
              refine QS.then_code ?_
              refine CS.ret ?_
              refine QS.block_ret ?_
              refine QS.then_ret ?_
              exact out1 rfl rfl (retBe (by simp [plainT, hc9])) -- ret 6
            · skip
              refine CS.skip ?_
              refine QS.block_normal ?_
              refine QS.then_code ?_
              refine CS.seq ?_
              refine CS.draw mixed (by kernel_rfl) (by kernel_rfl) ?_
              refine DS.det rfl rfl (det_move rfl) rfl ?_ -- r28.0 codes.go:153
              refine DS.det rfl rfl ((by first | exact det_fieldAddr rfl fo36_1 | exact det_fieldAddrS rfl fo36_1)) rfl ?_ -- r28.1 codes.go:153
              refine DS.det rfl rfl ((by first | exact det_loadb (j := 0) rfl rfl rfl tk3 | exact det_loadw rfl (by assumption) rfl tk3)) rfl ?_ -- r28.2 codes.go:153
              refine DS.det rfl rfl ((by first | exact det_idxI sl24 rfl rfl (by assumption) (by omega) (by omega) | exact det_idxO sl24 rfl rfl (by omega) (by omega))) rfl ?_ -- r28.3 codes.go:153
              refine DS.det rfl rfl ((by first | exact det_ldI rfl (by assumption) (by omega) tk3 | exact det_loadb (j := 0) rfl rfl rfl tk3 | exact det_loadb (j := 1) rfl rfl rfl tk3 | exact det_loadb (j := 2) rfl rfl rfl tk3 | exact det_loadb (j := 3) rfl rfl rfl tk3 | exact det_loadw rfl (by assumption) rfl tk3)) rfl ?_ -- r28.4 codes.go:153
              refine DS.det rfl rfl ((by first | exact det_fieldAddr rfl fo36_3 | exact det_fieldAddrS rfl fo36_3)) rfl ?_ -- r28.5 codes.go:153
              refine DS.det rfl rfl ((by first | exact det_loadb (j := 0) rfl rfl rfl tk3 | exact det_loadw rfl (by assumption) rfl tk3)) rfl ?_ -- r28.6 codes.go:153
              refine DS.det rfl rfl (det_rem rfl rfl (by omega) (by omega)) rfl ?_ -- r28.7 codes.go:153
              refine DS.det rfl rfl ((by first | exact det_fieldAddr rfl fo36_4 | exact det_fieldAddrS rfl fo36_4)) rfl ?_ -- r28.8 codes.go:153
              refine DS.det rfl rfl ((by first | exact det_loadb (j := 0) rfl rfl rfl tk3 | exact det_loadw rfl (by assumption) rfl tk3)) rfl ?_ -- r28.9 codes.go:153
              refine DS.det rfl rfl (det_eq rfl rfl) rfl ?_ -- r28.10 codes.go:153
              refine DS.det rfl rfl (det_assign rfl) rfl ?_ -- r28.11 codes.go:153
              refine DS.done ?_
              refine QS.then_code ?_
              refine CS.ret ?_
              exact out1 rfl rfl (retBe (by have e7 : c.k = 7 := (by omega); simp [plainT, e7])) -- ret 7

set_option maxHeartbeats 2000000 in
theorem True_c (lw ls : Int) (c : Clue) (gv : Value) (xs : List Int) (v : Value) (w : World) (hU : Use lw ls c xs) (hg1 : SlI w gv c.g) (h1 : SlI w v xs) :
    Calls Try.prog 66 #[.agg #[.int .i64 c.k, .int .i64 c.a, .int .i64 c.b, .int .i64 c.n, .int .i64 c.m, gv, .bool c.nt], v] w (RetB w (.bool (holdsT c xs))) := by
  have hl1 := h1.le
  have hln := hU.len
  obtain ⟨f1, f2, f3, f7, fk1, fk2, fn⟩ := hU.facts
  obtain ⟨hgn, p, cap, rfl, hcap, hp⟩ := hg1
  have hg1 : SlI w (.slice p c.g.length cap) c.g := ⟨hgn, p, cap, rfl, hcap, hp⟩
  clear hgn hcap hp
  refine enter Try.func66 rfl rfl (Nat.le_of_ble_eq_true rfl) ?_
  refine CS.seq ?_
  refine CS.region ?_
  refine WS.box rfl rfl (fun _ => rfl) ?_; intro b2 hb2 -- r0.0 ref.go:161
  refine WS.det rfl rfl rfl (det_assign rfl) rfl ?_ -- r0.1 ref.go:161
  refine WS.done ?_
  refine QS.then_code ?_
  refine CS.seq ?_
  refine CS.region ?_
  refine WS.det rfl rfl rfl (det_assign rfl) rfl ?_ -- r1.0 ref.go:162
  refine WS.done ?_
  refine QS.then_code ?_
  refine CS.cut (σ := Bool) [6, 7, 8, 9, 10, 11, 12, 13, 14, 15, 16, 17, 18, 19, 20, 21, 22, 23, 24, 25, 26, 27, 28, 29, 30, 31, 32, 33, 34, 35, 36, 37, 38, 39, 40, 41, 42, 43, 44, 45, 46, 47, 48, 49, 50, 51, 52, 53, 54, 55, 56, 57, 58, 59, 60, 61, 62, 63, 64, 65, 66, 67, 68, 69, 70, 71, 72, 73, 74, 75, 76, 77, 78, 79, 80, 81, 82, 83, 84, 85, 86, 87, 88, 89, 90, 91, 92, 93, 94, 95, 96, 97, 98, 99, 100, 101, 102, 103, 104, 105, 106, 107, 108] (fun s => [(5, .bool s)]) (fun s => [blk b2 [.int .i64 c.k, .int .i64 c.a, .int .i64 c.b, .int .i64 c.n, .int .i64 c.m, .slice p c.g.length cap, .bool c.nt] 36]) (fun s => s = plainT c xs) (fun _ _ => rfl) ?_ ?_
  · skip
    refine CS.seq ?_
    refine CS.region ?_
    refine WS.det rfl rfl rfl ((by first | exact det_fieldAddr rfl fo36_0 | exact det_fieldAddrS rfl fo36_0)) rfl ?_ -- r2.0 ref.go:163
    refine WS.det rfl rfl rfl ((by first | exact det_loadb (j := 0) rfl rfl rfl tk3 | exact det_loadw rfl (by assumption) rfl tk3)) rfl ?_ -- r2.1 ref.go:163
    refine WS.done ?_
    refine QS.then_code ?_
    refine CS.block ?_
    refine CS.seq ?_
    refine CS.region ?_
    refine WS.det rfl rfl rfl (det_eq rfl rfl) rfl ?_ -- r3.0 ref.go:164
    refine WS.det rfl rfl rfl (det_assign rfl) rfl ?_ -- r3.1 ref.go:164
    refine WS.done ?_
    refine QS.then_code ?_
    refine CS.cond rfl (fun hc1 => ?_) (fun hc1 => ?_) <;> (try simp only [decide_eq_true_eq, decide_eq_false_iff_not, Bool.and_eq_true, Bool.or_eq_true, Bool.and_eq_false_iff, Bool.or_eq_false_iff, Bool.not_eq_true', Bool.not_eq_false', ne_eq, Decidable.not_not, Bool.not_true, Bool.not_false, bne_iff_ne, bne_eq_false_iff_eq, beq_iff_eq, beq_eq_false_iff_ne] at hc1)
    · skip
      refine CS.draw mixed (by kernel_rfl) (by kernel_rfl) ?_
      refine DS.det rfl rfl (det_move rfl) rfl ?_ -- r4.0 ref.go:165
      refine DS.det rfl rfl ((by first | exact det_fieldAddr rfl fo36_1 | exact det_fieldAddrS rfl fo36_1)) rfl ?_ -- r4.1 ref.go:165
      refine DS.det rfl rfl ((by first | exact det_loadb (j := 0) rfl rfl rfl tk3 | exact det_loadw rfl (by assumption) rfl tk3)) rfl ?_ -- r4.2 ref.go:165
      refine DS.det rfl rfl ((by first | exact det_idxI sl24 rfl rfl (by assumption) (by omega) (by omega) | exact det_idxO sl24 rfl rfl (by omega) (by omega))) rfl ?_ -- r4.3 ref.go:165
      refine DS.det rfl rfl ((by first | exact det_ldI rfl (by assumption) (by omega) tk3 | exact det_loadb (j := 0) rfl rfl rfl tk3 | exact det_loadb (j := 1) rfl rfl rfl tk3 | exact det_loadb (j := 2) rfl rfl rfl tk3 | exact det_loadb (j := 3) rfl rfl rfl tk3 | exact det_loadw rfl (by assumption) rfl tk3)) rfl ?_ -- r4.4 ref.go:165
      refine DS.det rfl rfl ((by first | exact det_fieldAddr rfl fo36_3 | exact det_fieldAddrS rfl fo36_3)) rfl ?_ -- r4.5 ref.go:165
      refine DS.det rfl rfl ((by first | exact det_loadb (j := 0) rfl rfl rfl tk3 | exact det_loadw rfl (by assumption) rfl tk3)) rfl ?_ -- r4.6 ref.go:165
      refine DS.det rfl rfl (det_eq rfl rfl) rfl ?_ -- r4.7 ref.go:165
      refine DS.det rfl rfl (det_assign rfl) rfl ?_ -- r4.8 ref.go:165
      refine DS.done ?_
      refine QS.block_normal ?_
      exact QS.head (decide (nth xs c.a = c.n)) rfl rfl (by simp [plainT, hc1])
    · skip
      refine CS.seq ?_
      refine CS.region ?_
      refine WS.det rfl rfl rfl (det_eq rfl rfl) rfl ?_ -- r5.0 ref.go:166
      refine WS.det rfl rfl rfl (det_assign rfl) rfl ?_ -- r5.1 ref.go:166
      refine WS.done ?_
      refine QS.then_code ?_
      refine CS.cond rfl (fun hc2 => ?_) (fun hc2 => ?_) <;> (try simp only [decide_eq_true_eq, decide_eq_false_iff_not, Bool.and_eq_true, Bool.or_eq_true, Bool.and_eq_false_iff, Bool.or_eq_false_iff, Bool.not_eq_true', Bool.not_eq_false', ne_eq, Decidable.not_not, Bool.not_true, Bool.not_false, bne_iff_ne, bne_eq_false_iff_eq, beq_iff_eq, beq_eq_false_iff_ne] at hc2)
      · skip
        have fk := f2 hc2
        have hpl := part_len fk.1 fk.2.1 fk.2.2
        refine CS.seq ?_
        refine CS.region ?_
        refine WS.det rfl rfl rfl (det_assign rfl) rfl ?_ -- r6.0 ref.go:167
        refine WS.done ?_
        refine QS.then_code ?_
        refine CS.seq ?_
        refine CS.seq ?_
        refine CS.region ?_
        refine WS.det rfl rfl rfl ((by first | exact det_fieldAddr rfl fo36_1 | exact det_fieldAddrS rfl fo36_1)) rfl ?_ -- r7.0 ref.go:168
        refine WS.det rfl rfl rfl ((by first | exact det_loadb (j := 0) rfl rfl rfl tk3 | exact det_loadw rfl (by assumption) rfl tk3)) rfl ?_ -- r7.1 ref.go:168
        refine WS.det rfl rfl rfl (det_assign rfl) rfl ?_ -- r7.2 ref.go:168
        refine WS.done ?_
        refine QS.then_code ?_
        refine CS.block ?_
        refine CS.loopM (σ := Int × Int) [26, 27, 28, 29, 30, 31, 32, 33, 34, 35, 36, 37] (fun s => [(6, .int .i64 s.2), (7, .int .i64 s.1)]) (fun _ => _) (fun s => c.a ≤ s.1 ∧ s.1 ≤ c.b + 1 ∧ s.2 = lsum ((part xs c.a c.b).take (s.1 - c.a).toNat)) (fun s => (c.b + 1 - s.1).toNat) (c.a, 0) (fun _ _ => rfl) rfl rfl ⟨by simp, by simp; omega, by simp [lsum]⟩ ?_
        intro s t hs
        obtain ⟨hs1, hs2, hs3⟩ := hs
        refine CS.seq ?_
        refine CS.seq ?_
        refine CS.region ?_
        refine WS.det rfl rfl rfl (det_move rfl) rfl ?_ -- r8.0 ref.go:168
        refine WS.det rfl rfl rfl ((by first | exact det_fieldAddr rfl fo36_2 | exact det_fieldAddrS rfl fo36_2)) rfl ?_ -- r8.1 ref.go:168
        refine WS.det rfl rfl rfl ((by first | exact det_loadb (j := 0) rfl rfl rfl tk3 | exact det_loadw rfl (by assumption) rfl tk3)) rfl ?_ -- r8.2 ref.go:168
        refine WS.det rfl rfl rfl (det_le rfl rfl) rfl ?_ -- r8.3 ref.go:168
        refine WS.done ?_
        refine QS.then_code ?_
        refine CS.cond rfl (fun hc3 => ?_) (fun hc3 => ?_) <;> (try simp only [decide_eq_true_eq, decide_eq_false_iff_not, Bool.and_eq_true, Bool.or_eq_true, Bool.and_eq_false_iff, Bool.or_eq_false_iff, Bool.not_eq_true', Bool.not_eq_false', ne_eq, Decidable.not_not, Bool.not_true, Bool.not_false, bne_iff_ne, bne_eq_false_iff_eq, beq_iff_eq, beq_eq_false_iff_ne] at hc3)
        · skip
          have hb1 := hU.psum (s.1 - c.a).toNat
          have hb2 := hU.nth (i := s.1) (by omega) (by omega)
          have hb3 := part_nth fk.1 (i := s.1) (by omega) (b := c.b) (by omega) fk.2.2
          have e3 : s.1 + 1 - c.a = s.1 - c.a + 1 := by omega
          refine CS.skip ?_
          refine QS.then_code ?_
          refine CS.seq ?_
          refine CS.block ?_
          refine CS.region ?_
          refine WS.det rfl rfl rfl (det_move rfl) rfl ?_ -- r10.0 ref.go:169
          refine WS.det rfl rfl rfl (det_move rfl) rfl ?_ -- r10.1 ref.go:169
          refine WS.det rfl rfl rfl (det_move rfl) rfl ?_ -- r10.2 ref.go:169
          refine WS.det rfl rfl rfl ((by first | exact det_idxI sl24 rfl rfl (by assumption) (by omega) (by omega) | exact det_idxO sl24 rfl rfl (by omega) (by omega))) rfl ?_ -- r10.3 ref.go:169
          refine WS.det rfl rfl rfl ((by first | exact det_ldI rfl (by assumption) (by omega) tk3 | exact det_loadb (j := 0) rfl rfl rfl tk3 | exact det_loadb (j := 1) rfl rfl rfl tk3 | exact det_loadb (j := 2) rfl rfl rfl tk3 | exact det_loadb (j := 3) rfl rfl rfl tk3 | exact det_loadw rfl (by assumption) rfl tk3)) rfl ?_ -- r10.4 ref.go:169
          refine WS.det rfl rfl rfl (det_add rfl rfl (by omega)) rfl ?_ -- r10.5 ref.go:169
          refine WS.det rfl rfl rfl (det_assign rfl) rfl ?_ -- r10.6 ref.go:169
          refine WS.done ?_
          refine QS.block_normal ?_
          refine QS.then_code ?_
          refine CS.region ?_
          refine WS.det rfl rfl rfl (det_move rfl) rfl ?_ -- r9.0 ref.go:168
          refine WS.det rfl rfl rfl (det_add rfl rfl (by omega)) rfl ?_ -- r9.1 ref.go:168
          refine WS.det rfl rfl rfl (det_assign rfl) rfl ?_ -- r9.2 ref.go:168
          refine WS.done ?_
          exact QS.head ((s.1 + 1, s.2 + nth xs s.1)) rfl rfl ⟨⟨by simp; omega, by simp; omega, by simp only; rw [e3, take_snocI _ (by omega) (by omega), lsum_snoc, hs3, hb3]⟩, by simp; omega⟩
        · skip
          refine CS.leave ?_
          refine QS.then_exit ?_
          refine QS.then_exit ?_
          refine QS.block_exit ?_
          refine QS.then_code ?_
          refine CS.region ?_
          refine WS.det rfl rfl rfl (det_move rfl) rfl ?_ -- r11.0 ref.go:171
          refine WS.det rfl rfl rfl ((by first | exact det_fieldAddr rfl fo36_3 | exact det_fieldAddrS rfl fo36_3)) rfl ?_ -- r11.1 ref.go:171
          refine WS.det rfl rfl rfl ((by first | exact det_loadb (j := 0) rfl rfl rfl tk3 | exact det_loadw rfl (by assumption) rfl tk3)) rfl ?_ -- r11.2 ref.go:171
          refine WS.det rfl rfl rfl (det_eq rfl rfl) rfl ?_ -- r11.3 ref.go:171
          refine WS.det rfl rfl rfl (det_assign rfl) rfl ?_ -- r11.4 ref.go:171
          refine WS.done ?_
          refine QS.block_normal ?_
          exact QS.head (decide (s.2 = c.n)) rfl rfl (by rw [hs3, lsum_all _ (by omega)]; simp [plainT, hc2])
      · skip
        refine CS.seq ?_
        refine CS.region ?_
        refine WS.det rfl rfl rfl (det_eq rfl rfl) rfl ?_ -- r12.0 ref.go:172
        refine WS.det rfl rfl rfl (det_assign rfl) rfl ?_ -- r12.1 ref.go:172
        refine WS.done ?_
        refine QS.then_code ?_
        refine CS.cond rfl (fun hc4 => ?_) (fun hc4 => ?_) <;> (try simp only [decide_eq_true_eq, decide_eq_false_iff_not, Bool.and_eq_true, Bool.or_eq_true, Bool.and_eq_false_iff, Bool.or_eq_false_iff, Bool.not_eq_true', Bool.not_eq_false', ne_eq, Decidable.not_not, Bool.not_true, Bool.not_false, bne_iff_ne, bne_eq_false_iff_eq, beq_iff_eq, beq_eq_false_iff_ne] at hc4)
        · skip
          refine CS.draw mixed (by kernel_rfl) (by kernel_rfl) ?_
          refine DS.det rfl rfl (det_move rfl) rfl ?_ -- r13.0 ref.go:173
          refine DS.det rfl rfl ((by first | exact det_fieldAddr rfl fo36_1 | exact det_fieldAddrS rfl fo36_1)) rfl ?_ -- r13.1 ref.go:173
          refine DS.det rfl rfl ((by first | exact det_loadb (j := 0) rfl rfl rfl tk3 | exact det_loadw rfl (by assumption) rfl tk3)) rfl ?_ -- r13.2 ref.go:173
          refine DS.det rfl rfl ((by first | exact det_idxI sl24 rfl rfl (by assumption) (by omega) (by omega) | exact det_idxO sl24 rfl rfl (by omega) (by omega))) rfl ?_ -- r13.3 ref.go:173
          refine DS.det rfl rfl ((by first | exact det_ldI rfl (by assumption) (by omega) tk3 | exact det_loadb (j := 0) rfl rfl rfl tk3 | exact det_loadb (j := 1) rfl rfl rfl tk3 | exact det_loadb (j := 2) rfl rfl rfl tk3 | exact det_loadb (j := 3) rfl rfl rfl tk3 | exact det_loadw rfl (by assumption) rfl tk3)) rfl ?_ -- r13.4 ref.go:173
          refine DS.det rfl rfl (det_move rfl) rfl ?_ -- r13.5 ref.go:173
          refine DS.det rfl rfl ((by first | exact det_fieldAddr rfl fo36_2 | exact det_fieldAddrS rfl fo36_2)) rfl ?_ -- r13.6 ref.go:173
          refine DS.det rfl rfl ((by first | exact det_loadb (j := 0) rfl rfl rfl tk3 | exact det_loadw rfl (by assumption) rfl tk3)) rfl ?_ -- r13.7 ref.go:173
          refine DS.det rfl rfl ((by first | exact det_idxI sl24 rfl rfl (by assumption) (by omega) (by omega) | exact det_idxO sl24 rfl rfl (by omega) (by omega))) rfl ?_ -- r13.8 ref.go:173
          refine DS.det rfl rfl ((by first | exact det_ldI rfl (by assumption) (by omega) tk3 | exact det_loadb (j := 0) rfl rfl rfl tk3 | exact det_loadb (j := 1) rfl rfl rfl tk3 | exact det_loadb (j := 2) rfl rfl rfl tk3 | exact det_loadb (j := 3) rfl rfl rfl tk3 | exact det_loadw rfl (by assumption) rfl tk3)) rfl ?_ -- r13.9 ref.go:173
          refine DS.det rfl rfl (det_lt rfl rfl) rfl ?_ -- r13.10 ref.go:173
          refine DS.det rfl rfl (det_assign rfl) rfl ?_ -- r13.11 ref.go:173
          refine DS.done ?_
          refine QS.block_normal ?_
          exact QS.head (decide (nth xs c.a < nth xs c.b)) rfl rfl (by simp [plainT, hc4])
        · skip
          refine CS.seq ?_
          refine CS.region ?_
          refine WS.det rfl rfl rfl (det_eq rfl rfl) rfl ?_ -- r14.0 ref.go:174
          refine WS.det rfl rfl rfl (det_assign rfl) rfl ?_ -- r14.1 ref.go:174
          refine WS.done ?_
          refine QS.then_code ?_
          refine CS.cond rfl (fun hc5 => ?_) (fun hc5 => ?_) <;> (try simp only [decide_eq_true_eq, decide_eq_false_iff_not, Bool.and_eq_true, Bool.or_eq_true, Bool.and_eq_false_iff, Bool.or_eq_false_iff, Bool.not_eq_true', Bool.not_eq_false', ne_eq, Decidable.not_not, Bool.not_true, Bool.not_false, bne_iff_ne, bne_eq_false_iff_eq, beq_iff_eq, beq_eq_false_iff_ne] at hc5)
          · skip
            refine CS.draw mixed (by kernel_rfl) (by kernel_rfl) ?_
            refine DS.det rfl rfl (det_move rfl) rfl ?_ -- r15.0 ref.go:175
            refine DS.det rfl rfl ((by first | exact det_fieldAddr rfl fo36_1 | exact det_fieldAddrS rfl fo36_1)) rfl ?_ -- r15.1 ref.go:175
            refine DS.det rfl rfl ((by first | exact det_loadb (j := 0) rfl rfl rfl tk3 | exact det_loadw rfl (by assumption) rfl tk3)) rfl ?_ -- r15.2 ref.go:175
            refine DS.det rfl rfl ((by first | exact det_idxI sl24 rfl rfl (by assumption) (by omega) (by omega) | exact det_idxO sl24 rfl rfl (by omega) (by omega))) rfl ?_ -- r15.3 ref.go:175
            refine DS.det rfl rfl ((by first | exact det_ldI rfl (by assumption) (by omega) tk3 | exact det_loadb (j := 0) rfl rfl rfl tk3 | exact det_loadb (j := 1) rfl rfl rfl tk3 | exact det_loadb (j := 2) rfl rfl rfl tk3 | exact det_loadb (j := 3) rfl rfl rfl tk3 | exact det_loadw rfl (by assumption) rfl tk3)) rfl ?_ -- r15.4 ref.go:175
            refine DS.det rfl rfl (det_move rfl) rfl ?_ -- r15.5 ref.go:175
            refine DS.det rfl rfl ((by first | exact det_fieldAddr rfl fo36_2 | exact det_fieldAddrS rfl fo36_2)) rfl ?_ -- r15.6 ref.go:175
            refine DS.det rfl rfl ((by first | exact det_loadb (j := 0) rfl rfl rfl tk3 | exact det_loadw rfl (by assumption) rfl tk3)) rfl ?_ -- r15.7 ref.go:175
            refine DS.det rfl rfl ((by first | exact det_idxI sl24 rfl rfl (by assumption) (by omega) (by omega) | exact det_idxO sl24 rfl rfl (by omega) (by omega))) rfl ?_ -- r15.8 ref.go:175
            refine DS.det rfl rfl ((by first | exact det_ldI rfl (by assumption) (by omega) tk3 | exact det_loadb (j := 0) rfl rfl rfl tk3 | exact det_loadb (j := 1) rfl rfl rfl tk3 | exact det_loadb (j := 2) rfl rfl rfl tk3 | exact det_loadb (j := 3) rfl rfl rfl tk3 | exact det_loadw rfl (by assumption) rfl tk3)) rfl ?_ -- r15.9 ref.go:175
            refine DS.det rfl rfl (det_eq rfl rfl) rfl ?_ -- r15.10 ref.go:175
            refine DS.det rfl rfl (det_assign rfl) rfl ?_ -- r15.11 ref.go:175
            refine DS.done ?_
            refine QS.block_normal ?_
            exact QS.head (decide (nth xs c.a = nth xs c.b)) rfl rfl (by simp [plainT, hc5])
          · skip
            refine CS.seq ?_
            refine CS.region ?_
            refine WS.det rfl rfl rfl (det_eq rfl rfl) rfl ?_ -- r16.0 ref.go:176
            refine WS.det rfl rfl rfl (det_assign rfl) rfl ?_ -- r16.1 ref.go:176
            refine WS.done ?_
            refine QS.then_code ?_
            refine CS.cond rfl (fun hc6 => ?_) (fun hc6 => ?_) <;> (try simp only [decide_eq_true_eq, decide_eq_false_iff_not, Bool.and_eq_true, Bool.or_eq_true, Bool.and_eq_false_iff, Bool.or_eq_false_iff, Bool.not_eq_true', Bool.not_eq_false', ne_eq, Decidable.not_not, Bool.not_true, Bool.not_false, bne_iff_ne, bne_eq_false_iff_eq, beq_iff_eq, beq_eq_false_iff_ne] at hc6)
            · skip
              refine CS.draw mixed (by kernel_rfl) (by kernel_rfl) ?_
              refine DS.det rfl rfl (det_move rfl) rfl ?_ -- r17.0 ref.go:177
              refine DS.det rfl rfl ((by first | exact det_fieldAddr rfl fo36_3 | exact det_fieldAddrS rfl fo36_3)) rfl ?_ -- r17.1 ref.go:177
              refine DS.det rfl rfl ((by first | exact det_loadb (j := 0) rfl rfl rfl tk3 | exact det_loadw rfl (by assumption) rfl tk3)) rfl ?_ -- r17.2 ref.go:177
              refine DS.det rfl rfl (det_callB rfl rfl ent83 (fun u hu => shown_c _ _ _ u (h1.st hu))) rfl ?_ -- r17.3 ref.go:177
              refine DS.det rfl rfl ((by first | exact det_fieldAddr rfl fo36_4 | exact det_fieldAddrS rfl fo36_4)) rfl ?_ -- r17.4 ref.go:177
              refine DS.det rfl rfl ((by first | exact det_loadb (j := 0) rfl rfl rfl tk3 | exact det_loadw rfl (by assumption) rfl tk3)) rfl ?_ -- r17.5 ref.go:177
              refine DS.det rfl rfl (det_eq rfl rfl) rfl ?_ -- r17.6 ref.go:177
              refine DS.det rfl rfl (det_assign rfl) rfl ?_ -- r17.7 ref.go:177
              refine DS.done ?_
              refine QS.block_normal ?_
              exact QS.head (decide (cnt xs c.n = c.m)) rfl rfl (by simp [plainT, hc6])
            · skip
              refine CS.seq ?_
              refine CS.region ?_
              refine WS.det rfl rfl rfl (det_eq rfl rfl) rfl ?_ -- r18.0 ref.go:178
              refine WS.det rfl rfl rfl (det_assign rfl) rfl ?_ -- r18.1 ref.go:178
              refine WS.done ?_
              refine QS.then_code ?_
              refine CS.cond rfl (fun hc7 => ?_) (fun hc7 => ?_) <;> (try simp only [decide_eq_true_eq, decide_eq_false_iff_not, Bool.and_eq_true, Bool.or_eq_true, Bool.and_eq_false_iff, Bool.or_eq_false_iff, Bool.not_eq_true', Bool.not_eq_false', ne_eq, Decidable.not_not, Bool.not_true, Bool.not_false, bne_iff_ne, bne_eq_false_iff_eq, beq_iff_eq, beq_eq_false_iff_ne] at hc7)
              · skip
                refine CS.seq ?_
                refine CS.region ?_
                refine WS.det rfl rfl rfl (det_move rfl) rfl ?_ -- r19.0 ref.go:179
                refine WS.det rfl rfl rfl ((by first | exact det_fieldAddr rfl fo36_5 | exact det_fieldAddrS rfl fo36_5)) rfl ?_ -- r19.1 ref.go:179
                refine WS.det rfl rfl rfl ((by first | exact det_loadb (j := 0) rfl rfl rfl tk24 | exact det_loadw rfl (by assumption) rfl tk24)) rfl ?_ -- r19.2 ref.go:179
                refine WS.det rfl rfl rfl (det_callB rfl rfl ent56 (fun u hu => Ranswer_c _ _ _ _ u (h1.st hu) (hg1.st hu) (hU.guess hc7).1 (by omega))) rfl ?_ -- r19.3 ref.go:179
                refine WS.det rfl rfl rfl (det_move rfl) rfl ?_ -- r19.4 ref.go:179
                refine WS.det rfl rfl rfl (det_extract rfl rfl) rfl ?_ -- r19.5 ref.go:179
                refine WS.det rfl rfl rfl (det_extract rfl rfl) rfl ?_ -- r19.6 ref.go:179
                refine WS.det rfl rfl rfl (det_assign rfl) rfl ?_ -- r19.7 ref.go:179
                refine WS.det rfl rfl rfl (det_assign rfl) rfl ?_ -- r19.8 ref.go:179
                refine WS.done ?_
                refine QS.then_code ?_
                refine CS.region ?_
                refine WS.det rfl rfl rfl (det_move rfl) rfl ?_ -- r20.0 ref.go:180
                refine WS.det rfl rfl rfl ((by first | exact det_fieldAddr rfl fo36_3 | exact det_fieldAddrS rfl fo36_3)) rfl ?_ -- r20.1 ref.go:180
                refine WS.det rfl rfl rfl ((by first | exact det_loadb (j := 0) rfl rfl rfl tk3 | exact det_loadw rfl (by assumption) rfl tk3)) rfl ?_ -- r20.2 ref.go:180
                refine WS.det rfl rfl rfl (det_eq rfl rfl) rfl ?_ -- r20.3 ref.go:180
                refine WS.det rfl rfl rfl (det_move rfl) rfl ?_ -- r20.4 ref.go:180
                refine WS.guardT rfl rfl rfl rfl (fun hg => det_move rfl) rfl ?_ -- r20.5 ref.go:180
                refine WS.guardT rfl rfl rfl rfl (fun hg => (by first | exact det_fieldAddr rfl fo36_4 | exact det_fieldAddrS rfl fo36_4)) rfl ?_ -- r20.6 ref.go:180
                refine WS.guardT rfl rfl rfl rfl (fun hg => (by first | exact det_loadb (j := 0) (ev_cond hg rfl) rfl rfl tk3 | exact det_loadw (ev_cond hg rfl) (by assumption) rfl tk3)) rfl ?_ -- r20.7 ref.go:180
                refine WS.guardT rfl rfl rfl rfl (fun hg => det_eq (ev_cond hg rfl) (ev_cond hg rfl)) rfl ?_ -- r20.8 ref.go:180
                refine WS.det rfl rfl rfl (det_pick_and rfl rfl rfl) rfl ?_ -- r20.9 ref.go:180
                refine WS.det rfl rfl rfl (det_assign rfl) rfl ?_ -- r20.10 ref.go:180
                refine WS.done ?_
                refine QS.block_normal ?_
                exact QS.head (decide (rightN xs c.g = c.n) && decide (commonN xs c.g 10 - rightN xs c.g = c.m)) rfl rfl (by simp [plainT, hc7])
              · skip
                refine CS.seq ?_
                refine CS.region ?_
                refine WS.det rfl rfl rfl (det_eq rfl rfl) rfl ?_ -- r21.0 ref.go:181
                refine WS.det rfl rfl rfl (det_assign rfl) rfl ?_ -- r21.1 ref.go:181
                refine WS.done ?_
                refine QS.then_code ?_
                refine CS.cond rfl (fun hc8 => ?_) (fun hc8 => ?_) <;> (try simp only [decide_eq_true_eq, decide_eq_false_iff_not, Bool.and_eq_true, Bool.or_eq_true, Bool.and_eq_false_iff, Bool.or_eq_false_iff, Bool.not_eq_true', Bool.not_eq_false', ne_eq, Decidable.not_not, Bool.not_true, Bool.not_false, bne_iff_ne, bne_eq_false_iff_eq, beq_iff_eq, beq_eq_false_iff_ne] at hc8)
                · skip
                  refine CS.draw mixed (by kernel_rfl) (by kernel_rfl) ?_
                  refine DS.det rfl rfl (det_move rfl) rfl ?_ -- r22.0 ref.go:182
                  refine DS.det rfl rfl ((by first | exact det_fieldAddr rfl fo36_1 | exact det_fieldAddrS rfl fo36_1)) rfl ?_ -- r22.1 ref.go:182
                  refine DS.det rfl rfl ((by first | exact det_loadb (j := 0) rfl rfl rfl tk3 | exact det_loadw rfl (by assumption) rfl tk3)) rfl ?_ -- r22.2 ref.go:182
                  refine DS.det rfl rfl ((by first | exact det_idxI sl24 rfl rfl (by assumption) (by omega) (by omega) | exact det_idxO sl24 rfl rfl (by omega) (by omega))) rfl ?_ -- r22.3 ref.go:182
                  refine DS.det rfl rfl ((by first | exact det_ldI rfl (by assumption) (by omega) tk3 | exact det_loadb (j := 0) rfl rfl rfl tk3 | exact det_loadb (j := 1) rfl rfl rfl tk3 | exact det_loadb (j := 2) rfl rfl rfl tk3 | exact det_loadb (j := 3) rfl rfl rfl tk3 | exact det_loadw rfl (by assumption) rfl tk3)) rfl ?_ -- r22.4 ref.go:182
                  refine DS.det rfl rfl ((by first | exact det_fieldAddr rfl fo36_3 | exact det_fieldAddrS rfl fo36_3)) rfl ?_ -- r22.5 ref.go:182
                  refine DS.det rfl rfl ((by first | exact det_loadb (j := 0) rfl rfl rfl tk3 | exact det_loadw rfl (by assumption) rfl tk3)) rfl ?_ -- r22.6 ref.go:182
                  refine DS.det rfl rfl (det_rem rfl rfl (by omega) (by omega)) rfl ?_ -- r22.7 ref.go:182
                  refine DS.det rfl rfl ((by first | exact det_fieldAddr rfl fo36_4 | exact det_fieldAddrS rfl fo36_4)) rfl ?_ -- r22.8 ref.go:182
                  refine DS.det rfl rfl ((by first | exact det_loadb (j := 0) rfl rfl rfl tk3 | exact det_loadw rfl (by assumption) rfl tk3)) rfl ?_ -- r22.9 ref.go:182
                  refine DS.det rfl rfl (det_eq rfl rfl) rfl ?_ -- r22.10 ref.go:182
                  refine DS.det rfl rfl (det_assign rfl) rfl ?_ -- r22.11 ref.go:182
                  refine DS.done ?_
                  refine QS.block_normal ?_
                  exact QS.head (decide (nth xs c.a % c.n = c.m)) rfl rfl (by simp [plainT, hc8])
                · skip
                  omega
  · intro s t hs
    refine CS.seq ?_
    refine CS.region ?_
    refine WS.det rfl rfl rfl (det_move rfl) rfl ?_ -- r23.0 ref.go:184
    refine WS.det rfl rfl rfl ((by first | exact det_fieldAddr rfl fo36_6 | exact det_fieldAddrS rfl fo36_6)) rfl ?_ -- r23.1 ref.go:184
    refine WS.det rfl rfl rfl ((by first | exact det_loadb (j := 0) rfl rfl rfl tk4 | exact det_loadw rfl (by assumption) rfl tk4)) rfl ?_ -- r23.2 ref.go:184
    refine WS.det rfl rfl rfl (det_neb rfl rfl Try.underlying4) rfl ?_ -- r23.3 ref.go:184
    refine WS.det rfl rfl rfl (det_assign rfl) rfl ?_ -- r23.4 ref.go:184
    refine WS.done ?_
    refine QS.then_code ?_
    refine CS.ret ?_
    exact out1 rfl rfl (retBe (by rw [hs]; rfl)) -- ret 1

end Go.Proofs.Ytldagbcceefcdaa
