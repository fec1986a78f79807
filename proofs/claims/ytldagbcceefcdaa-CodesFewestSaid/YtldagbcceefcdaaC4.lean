/- Contracts of functions, printed by a program of the prover (gen.py). -/
import Derived.Test.YtldagbcceefcdaaC3
namespace Go.Proofs.Ytldagbcceefcdaa
open Go.RowKit Go.Proofs
set_option maxRecDepth 100000
set_option linter.unusedVariables false
set_option linter.unusedSimpArgs false

set_option maxHeartbeats 2000000 in
theorem isClue_c (lw ls : Int) (c : Clue) (gv : Value) (w : World) (hL : lockB lw ls = true) (h1 : SlI w gv c.g) :
    Calls Try.prog 64 #[.agg #[.int .i64 lw, .int .i64 ls], .agg #[.int .i64 c.k, .int .i64 c.a, .int .i64 c.b, .int .i64 c.n, .int .i64 c.m, gv, .bool c.nt]] w (RetB w (.bool (clueB lw ls c))) := by
  have hl := lock_of hL
  obtain ⟨hgn, p, cap, rfl, hcap, hp⟩ := h1
  have h1 : SlI w (.slice p c.g.length cap) c.g := ⟨hgn, p, cap, rfl, hcap, hp⟩
  clear hgn hcap hp
  refine enter Try.func64 rfl rfl (Nat.le_of_ble_eq_true rfl) ?_
  refine CS.seq ?_
  refine CS.region ?_
  refine WS.box rfl rfl (fun _ => rfl) ?_; intro b2 hb2 -- r0.0 ref.go:31
  refine WS.box rfl rfl (fun _ => rfl) ?_; intro b3 hb3 -- r0.1 ref.go:31
  refine WS.det rfl rfl rfl (det_assign rfl) rfl ?_ -- r0.2 ref.go:31
  refine WS.done ?_
  refine QS.then_code ?_
  refine CS.seq ?_
  refine CS.draw mixed (by kernel_rfl) (by kernel_rfl) ?_
  refine DS.det rfl rfl ((by first | exact det_fieldAddr rfl fo36_1 | exact det_fieldAddrS rfl fo36_1)) rfl ?_ -- r1.0 ref.go:32
  refine DS.det rfl rfl ((by first | exact det_loadb (j := 0) rfl rfl rfl tk3 | exact det_loadw rfl (by assumption) rfl tk3)) rfl ?_ -- r1.1 ref.go:32
  refine DS.det rfl rfl ((by first | exact det_fieldAddr rfl fo23_0 | exact det_fieldAddrS rfl fo23_0)) rfl ?_ -- r1.2 ref.go:32
  refine DS.det rfl rfl ((by first | exact det_loadb (j := 1) rfl rfl rfl tk3 | exact det_loadw rfl (by assumption) rfl tk3)) rfl ?_ -- r1.3 ref.go:32
  refine DS.det rfl rfl (det_sub rfl rfl (by omega)) rfl ?_ -- r1.4 ref.go:32
  refine DS.det rfl rfl (det_callB rfl rfl ent62 (fun u hu => Within_c _ _ _ u)) rfl ?_ -- r1.5 ref.go:32
  refine DS.det rfl rfl ((by first | exact det_fieldAddr rfl fo36_2 | exact det_fieldAddrS rfl fo36_2)) rfl ?_ -- r1.6 ref.go:32
  refine DS.det rfl rfl ((by first | exact det_loadb (j := 0) rfl rfl rfl tk3 | exact det_loadw rfl (by assumption) rfl tk3)) rfl ?_ -- r1.7 ref.go:32
  refine DS.det rfl rfl ((by first | exact det_fieldAddr rfl fo23_0 | exact det_fieldAddrS rfl fo23_0)) rfl ?_ -- r1.8 ref.go:32
  refine DS.det rfl rfl ((by first | exact det_loadb (j := 1) rfl rfl rfl tk3 | exact det_loadw rfl (by assumption) rfl tk3)) rfl ?_ -- r1.9 ref.go:32
  refine DS.det rfl rfl (det_sub rfl rfl (by omega)) rfl ?_ -- r1.10 ref.go:32
  refine DS.det rfl rfl (det_callB rfl rfl ent62 (fun u hu => Within_c _ _ _ u)) rfl ?_ -- r1.11 ref.go:32
  refine DS.det rfl rfl (det_assign rfl) rfl ?_ -- r1.12 ref.go:32
  refine DS.det rfl rfl (det_assign rfl) rfl ?_ -- r1.13 ref.go:32
  refine DS.done ?_
  refine QS.then_code ?_
  refine CS.seq ?_
  refine CS.region ?_
  refine WS.det rfl rfl rfl ((by first | exact det_fieldAddr rfl fo36_0 | exact det_fieldAddrS rfl fo36_0)) rfl ?_ -- r2.0 ref.go:33
  refine WS.det rfl rfl rfl ((by first | exact det_loadb (j := 0) rfl rfl rfl tk3 | exact det_loadw rfl (by assumption) rfl tk3)) rfl ?_ -- r2.1 ref.go:33
  refine WS.det rfl rfl rfl ((by first | exact det_fieldAddr rfl fo36_6 | exact det_fieldAddrS rfl fo36_6)) rfl ?_ -- r2.2 ref.go:33
  refine WS.det rfl rfl rfl ((by first | exact det_loadb (j := 0) rfl rfl rfl tk4 | exact det_loadw rfl (by assumption) rfl tk4)) rfl ?_ -- r2.3 ref.go:33
  refine WS.det rfl rfl rfl ((det_build1 plc36 zv36 rfl rfl (by simp [Value.oneCell']))) rfl ?_ -- r2.4 ref.go:33
  refine WS.alloc zv36 (fun _ => rfl) ?_; intro b7 hb7 -- r2.5 ref.go:33
  first | refine WS.storeW (j := 0) rfl rfl rfl rfl (by simp [Value.oneCell']) tk36 rfl rfl ?_ -- r2.6 ref.go:33
  refine WS.done ?_
  refine QS.then_code ?_
  refine CS.seq ?_
  refine CS.region ?_
  refine WS.det rfl rfl rfl (det_assign rfl) rfl ?_ -- r3.0 ref.go:34
  refine WS.done ?_
  refine QS.then_code ?_
  refine CS.cut (σ := Used) [26, 27, 28, 29, 30, 31, 32, 33, 34, 35, 36, 37, 38, 39, 40, 41, 42, 43, 44, 45, 46, 47, 48, 49, 50, 51, 52, 53, 54, 55, 56, 57, 58, 59, 60, 61, 62, 63, 64, 65, 66, 67, 68, 69, 70, 71, 72, 73, 74, 75, 76, 77, 78, 79, 80, 81, 82, 83, 84, 85, 86, 87, 88, 89, 90, 91, 92, 93, 94, 95, 96, 97, 98, 99, 100, 101, 102, 103, 104, 105, 106, 107, 108, 109, 110, 111, 112, 113, 114, 115, 116, 117, 118, 119, 120, 121, 122, 123, 124, 125, 126, 127, 128, 129, 130, 131, 132, 133, 134, 135, 136, 137, 138, 139, 140, 141, 142, 143, 144, 145, 146, 147, 148, 149, 150, 151, 152, 153, 154, 155, 156, 157, 158, 159, 160, 161, 162, 163, 164, 165, 166] (fun s => [(8, .bool s.is)]) (fun s => [blk b7 [.int .i64 c.k, .int .i64 s.a, .int .i64 s.b, .int .i64 s.n, .int .i64 s.m, .slice s.q s.l s.cap, .bool c.nt] 36, blk b3 [.int .i64 c.k, .int .i64 c.a, .int .i64 c.b, .int .i64 c.n, .int .i64 c.m, .slice p c.g.length cap, .bool c.nt] 36, blk b2 [.int .i64 lw, .int .i64 ls] 23]) (fun s => RU w lw ls c s) (fun _ _ => rfl) ?_ ?_
  · skip
    refine CS.seq ?_
    refine CS.region ?_
    refine WS.det rfl rfl rfl ((by first | exact det_fieldAddr rfl fo36_0 | exact det_fieldAddrS rfl fo36_0)) rfl ?_ -- r4.0 ref.go:35
    refine WS.det rfl rfl rfl ((by first | exact det_loadb (j := 1) rfl rfl rfl tk3 | exact det_loadw rfl (by assumption) rfl tk3)) rfl ?_ -- r4.1 ref.go:35
    refine WS.done ?_
    refine QS.then_code ?_
    refine CS.block ?_
    refine CS.seq ?_
    refine CS.region ?_
    refine WS.det rfl rfl rfl (det_eq rfl rfl) rfl ?_ -- r5.0 ref.go:36
    refine WS.det rfl rfl rfl (det_assign rfl) rfl ?_ -- r5.1 ref.go:36
    refine WS.done ?_
    refine QS.then_code ?_
    refine CS.cond rfl (fun hc1 => ?_) (fun hc1 => ?_) <;> (try simp only [decide_eq_true_eq, decide_eq_false_iff_not, Bool.and_eq_true, Bool.or_eq_true, Bool.and_eq_false_iff, Bool.or_eq_false_iff, Bool.not_eq_true', Bool.not_eq_false', ne_eq, Decidable.not_not, Bool.not_true, Bool.not_false, bne_iff_ne, bne_eq_false_iff_eq, beq_iff_eq, beq_eq_false_iff_ne] at hc1)
    · skip
      refine CS.seq ?_
      refine CS.region ?_
      refine WS.det rfl rfl rfl (det_move rfl) rfl ?_ -- r6.0 ref.go:37
      refine WS.det rfl rfl rfl (det_move rfl) rfl ?_ -- r6.1 ref.go:37
      refine WS.guardT rfl rfl rfl rfl (fun hg => (by first | exact det_fieldAddr rfl fo36_3 | exact det_fieldAddrS rfl fo36_3)) rfl ?_ -- r6.2 ref.go:37
      refine WS.guardT rfl rfl rfl rfl (fun hg => (by first | exact det_loadb (j := 1) (ev_cond hg rfl) rfl rfl tk3 | exact det_loadw (ev_cond hg rfl) (by assumption) rfl tk3)) rfl ?_ -- r6.3 ref.go:37
      refine WS.guardT rfl rfl rfl rfl (fun hg => (by first | exact det_fieldAddr rfl fo23_1 | exact det_fieldAddrS rfl fo23_1)) rfl ?_ -- r6.4 ref.go:37
      refine WS.guardT rfl rfl rfl rfl (fun hg => (by first | exact det_loadb (j := 2) (ev_cond hg rfl) rfl rfl tk3 | exact det_loadw (ev_cond hg rfl) (by assumption) rfl tk3)) rfl ?_ -- r6.5 ref.go:37
      refine WS.guardT rfl rfl rfl rfl (fun hg => det_sub (ev_cond hg rfl) rfl (by (try simp only [decide_eq_true_eq, decide_eq_false_iff_not, Bool.and_eq_true, Bool.or_eq_true, Bool.and_eq_false_iff, Bool.or_eq_false_iff, Bool.not_eq_true', Bool.not_eq_false', ne_eq, Decidable.not_not, Bool.not_true, Bool.not_false, bne_iff_ne, bne_eq_false_iff_eq, beq_iff_eq, beq_eq_false_iff_ne] at hg); omega)) rfl ?_ -- r6.6 ref.go:37
      refine WS.guardT rfl rfl rfl rfl (fun hg => det_callB rfl (evs_cons (ev_cond hg rfl) (evs_cons rfl (evs_cons (ev_cond hg rfl) evs_nil))) ent62 (fun u hu => Within_c _ _ _ u)) rfl ?_ -- r6.7 ref.go:37
      refine WS.det rfl rfl rfl (det_pick_and rfl rfl rfl) rfl ?_ -- r6.8 ref.go:37
      refine WS.det rfl rfl rfl (det_assign rfl) rfl ?_ -- r6.9 ref.go:37
      refine WS.done ?_
      refine QS.then_code ?_
      refine CS.seq ?_
      refine CS.region ?_
      refine WS.det rfl rfl rfl ((by first | exact det_fieldAddr rfl fo36_1 | exact det_fieldAddrS rfl fo36_1)) rfl ?_ -- r7.0 ref.go:38
      refine WS.det rfl rfl rfl ((by first | exact det_loadb (j := 1) rfl rfl rfl tk3 | exact det_loadw rfl (by assumption) rfl tk3)) rfl ?_ -- r7.1 ref.go:38
      refine WS.det rfl rfl rfl ((by first | exact det_fieldAddr rfl fo36_1 | exact det_fieldAddrS rfl fo36_1)) rfl ?_ -- r7.2 ref.go:38
      first | refine WS.store (j := 0) rfl rfl (by first | decide | omega | (simp; done) | (simp; omega)) rfl rfl tk3 rfl rfl ?_ | refine WS.store (j := 0) rfl rfl (by first | decide | omega | (simp; done) | (simp; omega)) rfl rfl tk3 (lset_eq _ _ _) rfl ?_ -- r7.3 ref.go:38
      refine WS.done ?_
      refine QS.then_code ?_
      refine CS.region ?_
      refine WS.det rfl rfl rfl ((by first | exact det_fieldAddr rfl fo36_3 | exact det_fieldAddrS rfl fo36_3)) rfl ?_ -- r8.0 ref.go:39
      refine WS.det rfl rfl rfl ((by first | exact det_loadb (j := 1) rfl rfl rfl tk3 | exact det_loadw rfl (by assumption) rfl tk3)) rfl ?_ -- r8.1 ref.go:39
      refine WS.det rfl rfl rfl ((by first | exact det_fieldAddr rfl fo36_3 | exact det_fieldAddrS rfl fo36_3)) rfl ?_ -- r8.2 ref.go:39
      first | refine WS.store (j := 0) rfl rfl (by first | decide | omega | (simp; done) | (simp; omega)) rfl rfl tk3 rfl rfl ?_ | refine WS.store (j := 0) rfl rfl (by first | decide | omega | (simp; done) | (simp; omega)) rfl rfl tk3 (lset_eq _ _ _) rfl ?_ -- r8.3 ref.go:39
      refine WS.done ?_
      refine QS.block_normal ?_
      exact QS.head (⟨within c.a 0 (lw - 1) && within c.n 0 (ls - 1), c.a, 0, c.n, 0, none, 0, 0⟩) rfl rfl (clueR_1 hc1)
    · skip
      refine CS.seq ?_
      refine CS.region ?_
      refine WS.det rfl rfl rfl (det_eq rfl rfl) rfl ?_ -- r9.0 ref.go:40
      refine WS.det rfl rfl rfl (det_assign rfl) rfl ?_ -- r9.1 ref.go:40
      refine WS.done ?_
      refine QS.then_code ?_
      refine CS.cond rfl (fun hc2 => ?_) (fun hc2 => ?_) <;> (try simp only [decide_eq_true_eq, decide_eq_false_iff_not, Bool.and_eq_true, Bool.or_eq_true, Bool.and_eq_false_iff, Bool.or_eq_false_iff, Bool.not_eq_true', Bool.not_eq_false', ne_eq, Decidable.not_not, Bool.not_true, Bool.not_false, bne_iff_ne, bne_eq_false_iff_eq, beq_iff_eq, beq_eq_false_iff_ne] at hc2)
      · skip
        refine CS.seq ?_
        refine CS.region ?_
        refine WS.det rfl rfl rfl (det_move rfl) rfl ?_ -- r10.0 ref.go:41
        refine WS.det rfl rfl rfl (det_move rfl) rfl ?_ -- r10.1 ref.go:41
        refine WS.guardT rfl rfl rfl rfl (fun hg => det_move rfl) rfl ?_ -- r10.2 ref.go:41
        refine WS.det rfl rfl rfl (det_pick_and rfl rfl rfl) rfl ?_ -- r10.3 ref.go:41
        refine WS.det rfl rfl rfl (det_move rfl) rfl ?_ -- r10.4 ref.go:41
        refine WS.guardT rfl rfl rfl rfl (fun hg => (by first | exact det_fieldAddr rfl fo36_1 | exact det_fieldAddrS rfl fo36_1)) rfl ?_ -- r10.5 ref.go:41
        refine WS.guardT rfl rfl rfl rfl (fun hg => (by first | exact det_loadb (j := 1) (ev_cond hg rfl) rfl rfl tk3 | exact det_loadw (ev_cond hg rfl) (by assumption) rfl tk3)) rfl ?_ -- r10.6 ref.go:41
        refine WS.guardT rfl rfl rfl rfl (fun hg => (by first | exact det_fieldAddr rfl fo36_2 | exact det_fieldAddrS rfl fo36_2)) rfl ?_ -- r10.7 ref.go:41
        refine WS.guardT rfl rfl rfl rfl (fun hg => (by first | exact det_loadb (j := 1) (ev_cond hg rfl) rfl rfl tk3 | exact det_loadw (ev_cond hg rfl) (by assumption) rfl tk3)) rfl ?_ -- r10.8 ref.go:41
        refine WS.guardT rfl rfl rfl rfl (fun hg => det_le (ev_cond hg rfl) (ev_cond hg rfl)) rfl ?_ -- r10.9 ref.go:41
        refine WS.det rfl rfl rfl (det_pick_and rfl rfl rfl) rfl ?_ -- r10.10 ref.go:41
        refine WS.det rfl rfl rfl (det_move rfl) rfl ?_ -- r10.11 ref.go:41
        refine WS.guardT rfl rfl rfl rfl (fun hg => (by first | exact det_fieldAddr rfl fo36_3 | exact det_fieldAddrS rfl fo36_3)) rfl ?_ -- r10.12 ref.go:41
        refine WS.guardT rfl rfl rfl rfl (fun hg => (by first | exact det_loadb (j := 1) (ev_cond hg rfl) rfl rfl tk3 | exact det_loadw (ev_cond hg rfl) (by assumption) rfl tk3)) rfl ?_ -- r10.13 ref.go:41
        refine WS.guardT rfl rfl rfl rfl (fun hg => det_callB rfl (evs_cons (ev_cond hg rfl) (evs_cons rfl (evs_cons rfl evs_nil))) ent62 (fun u hu => Within_c _ _ _ u)) rfl ?_ -- r10.14 ref.go:41
        refine WS.det rfl rfl rfl (det_pick_and rfl rfl rfl) rfl ?_ -- r10.15 ref.go:41
        refine WS.det rfl rfl rfl (det_assign rfl) rfl ?_ -- r10.16 ref.go:41
        refine WS.done ?_
        refine QS.then_code ?_
        refine CS.seq ?_
        refine CS.region ?_
        refine WS.det rfl rfl rfl ((by first | exact det_fieldAddr rfl fo36_1 | exact det_fieldAddrS rfl fo36_1)) rfl ?_ -- r11.0 ref.go:42
        refine WS.det rfl rfl rfl ((by first | exact det_loadb (j := 1) rfl rfl rfl tk3 | exact det_loadw rfl (by assumption) rfl tk3)) rfl ?_ -- r11.1 ref.go:42
        refine WS.det rfl rfl rfl ((by first | exact det_fieldAddr rfl fo36_1 | exact det_fieldAddrS rfl fo36_1)) rfl ?_ -- r11.2 ref.go:42
        first | refine WS.store (j := 0) rfl rfl (by first | decide | omega | (simp; done) | (simp; omega)) rfl rfl tk3 rfl rfl ?_ | refine WS.store (j := 0) rfl rfl (by first | decide | omega | (simp; done) | (simp; omega)) rfl rfl tk3 (lset_eq _ _ _) rfl ?_ -- r11.3 ref.go:42
        refine WS.done ?_
        refine QS.then_code ?_
        refine CS.seq ?_
        refine CS.region ?_
        refine WS.det rfl rfl rfl ((by first | exact det_fieldAddr rfl fo36_2 | exact det_fieldAddrS rfl fo36_2)) rfl ?_ -- r12.0 ref.go:43
        refine WS.det rfl rfl rfl ((by first | exact det_loadb (j := 1) rfl rfl rfl tk3 | exact det_loadw rfl (by assumption) rfl tk3)) rfl ?_ -- r12.1 ref.go:43
        refine WS.det rfl rfl rfl ((by first | exact det_fieldAddr rfl fo36_2 | exact det_fieldAddrS rfl fo36_2)) rfl ?_ -- r12.2 ref.go:43
        first | refine WS.store (j := 0) rfl rfl (by first | decide | omega | (simp; done) | (simp; omega)) rfl rfl tk3 rfl rfl ?_ | refine WS.store (j := 0) rfl rfl (by first | decide | omega | (simp; done) | (simp; omega)) rfl rfl tk3 (lset_eq _ _ _) rfl ?_ -- r12.3 ref.go:43
        refine WS.done ?_
        refine QS.then_code ?_
        refine CS.region ?_
        refine WS.det rfl rfl rfl ((by first | exact det_fieldAddr rfl fo36_3 | exact det_fieldAddrS rfl fo36_3)) rfl ?_ -- r13.0 ref.go:44
        refine WS.det rfl rfl rfl ((by first | exact det_loadb (j := 1) rfl rfl rfl tk3 | exact det_loadw rfl (by assumption) rfl tk3)) rfl ?_ -- r13.1 ref.go:44
        refine WS.det rfl rfl rfl ((by first | exact det_fieldAddr rfl fo36_3 | exact det_fieldAddrS rfl fo36_3)) rfl ?_ -- r13.2 ref.go:44
        first | refine WS.store (j := 0) rfl rfl (by first | decide | omega | (simp; done) | (simp; omega)) rfl rfl tk3 rfl rfl ?_ | refine WS.store (j := 0) rfl rfl (by first | decide | omega | (simp; done) | (simp; omega)) rfl rfl tk3 (lset_eq _ _ _) rfl ?_ -- r13.3 ref.go:44
        refine WS.done ?_
        refine QS.block_normal ?_
        exact QS.head (⟨((within c.a 0 (lw - 1) && within c.b 0 (lw - 1)) && decide (c.a ≤ c.b)) && within c.n 0 100, c.a, c.b, c.n, 0, none, 0, 0⟩) rfl rfl (clueR_2 hc2)
      · skip
        refine CS.seq ?_
        refine CS.seq ?_
        refine CS.region ?_
        refine WS.det rfl rfl rfl (det_eq rfl rfl) rfl ?_ -- r14.0 ref.go:45
        refine WS.det rfl rfl rfl (det_assign rfl) rfl ?_ -- r14.1 ref.go:45
        refine WS.done ?_
        refine QS.then_code ?_
        refine CS.cond rfl (fun hc3 => ?_) (fun hc3 => ?_) <;> (try simp only [decide_eq_true_eq, decide_eq_false_iff_not, Bool.and_eq_true, Bool.or_eq_true, Bool.and_eq_false_iff, Bool.or_eq_false_iff, Bool.not_eq_true', Bool.not_eq_false', ne_eq, Decidable.not_not, Bool.not_true, Bool.not_false, bne_iff_ne, bne_eq_false_iff_eq, beq_iff_eq, beq_eq_false_iff_ne] at hc3)
        · skip
          refine CS.skip ?_
          refine QS.then_code ?_
          refine CS.cond rfl (fun hc4 => ?_) (fun hc4 => ?_) <;> (try simp only [decide_eq_true_eq, decide_eq_false_iff_not, Bool.and_eq_true, Bool.or_eq_true, Bool.and_eq_false_iff, Bool.or_eq_false_iff, Bool.not_eq_true', Bool.not_eq_false', ne_eq, Decidable.not_not, Bool.not_true, Bool.not_false, bne_iff_ne, bne_eq_false_iff_eq, beq_iff_eq, beq_eq_false_iff_ne] at hc4)
          · skip
            refine CS.seq ?_
            refine CS.region ?_
            refine WS.det rfl rfl rfl (det_move rfl) rfl ?_ -- r16.0 ref.go:46
            refine WS.det rfl rfl rfl (det_move rfl) rfl ?_ -- r16.1 ref.go:46
            refine WS.guardT rfl rfl rfl rfl (fun hg => det_move rfl) rfl ?_ -- r16.2 ref.go:46
            refine WS.det rfl rfl rfl (det_pick_and rfl rfl rfl) rfl ?_ -- r16.3 ref.go:46
            refine WS.det rfl rfl rfl (det_move rfl) rfl ?_ -- r16.4 ref.go:46
            refine WS.guardT rfl rfl rfl rfl (fun hg => (by first | exact det_fieldAddr rfl fo36_1 | exact det_fieldAddrS rfl fo36_1)) rfl ?_ -- r16.5 ref.go:46
            refine WS.guardT rfl rfl rfl rfl (fun hg => (by first | exact det_loadb (j := 1) (ev_cond hg rfl) rfl rfl tk3 | exact det_loadw (ev_cond hg rfl) (by assumption) rfl tk3)) rfl ?_ -- r16.6 ref.go:46
            refine WS.guardT rfl rfl rfl rfl (fun hg => (by first | exact det_fieldAddr rfl fo36_2 | exact det_fieldAddrS rfl fo36_2)) rfl ?_ -- r16.7 ref.go:46
            refine WS.guardT rfl rfl rfl rfl (fun hg => (by first | exact det_loadb (j := 1) (ev_cond hg rfl) rfl rfl tk3 | exact det_loadw (ev_cond hg rfl) (by assumption) rfl tk3)) rfl ?_ -- r16.8 ref.go:46
            refine WS.guardT rfl rfl rfl rfl (fun hg => det_ne (ev_cond hg rfl) (ev_cond hg rfl)) rfl ?_ -- r16.9 ref.go:46
            refine WS.det rfl rfl rfl (det_pick_and rfl rfl rfl) rfl ?_ -- r16.10 ref.go:46
            refine WS.det rfl rfl rfl (det_assign rfl) rfl ?_ -- r16.11 ref.go:46
            refine WS.done ?_
            refine QS.then_code ?_
            refine CS.seq ?_
            refine CS.region ?_
            refine WS.det rfl rfl rfl ((by first | exact det_fieldAddr rfl fo36_1 | exact det_fieldAddrS rfl fo36_1)) rfl ?_ -- r17.0 ref.go:47
            refine WS.det rfl rfl rfl ((by first | exact det_loadb (j := 1) rfl rfl rfl tk3 | exact det_loadw rfl (by assumption) rfl tk3)) rfl ?_ -- r17.1 ref.go:47
            refine WS.det rfl rfl rfl ((by first | exact det_fieldAddr rfl fo36_1 | exact det_fieldAddrS rfl fo36_1)) rfl ?_ -- r17.2 ref.go:47
            first | refine WS.store (j := 0) rfl rfl (by first | decide | omega | (simp; done) | (simp; omega)) rfl rfl tk3 rfl rfl ?_ | refine WS.store (j := 0) rfl rfl (by first | decide | omega | (simp; done) | (simp; omega)) rfl rfl tk3 (lset_eq _ _ _) rfl ?_ -- r17.3 ref.go:47
            refine WS.done ?_
            refine QS.then_code ?_
            refine CS.region ?_
            refine WS.det rfl rfl rfl ((by first | exact det_fieldAddr rfl fo36_2 | exact det_fieldAddrS rfl fo36_2)) rfl ?_ -- r18.0 ref.go:48
            refine WS.det rfl rfl rfl ((by first | exact det_loadb (j := 1) rfl rfl rfl tk3 | exact det_loadw rfl (by assumption) rfl tk3)) rfl ?_ -- r18.1 ref.go:48
            refine WS.det rfl rfl rfl ((by first | exact det_fieldAddr rfl fo36_2 | exact det_fieldAddrS rfl fo36_2)) rfl ?_ -- r18.2 ref.go:48
            first | refine WS.store (j := 0) rfl rfl (by first | decide | omega | (simp; done) | (simp; omega)) rfl rfl tk3 rfl rfl ?_ | refine WS.store (j := 0) rfl rfl (by first | decide | omega | (simp; done) | (simp; omega)) rfl rfl tk3 (lset_eq _ _ _) rfl ?_ -- r18.3 ref.go:48
            refine WS.done ?_
            refine QS.block_normal ?_
            exact QS.head (⟨(within c.a 0 (lw - 1) && within c.b 0 (lw - 1)) && decide (c.a ≠ c.b), c.a, c.b, 0, 0, none, 0, 0⟩) rfl rfl (clueR_3 hc3)
          · skip
            exact absurd hc3 hc4
        · skip
          refine CS.region ?_
          refine WS.det rfl rfl rfl (det_eq rfl rfl) rfl ?_ -- r15.0 ref.go:45
          refine WS.det rfl rfl rfl (det_assign rfl) rfl ?_ -- r15.1 ref.go:45
          refine WS.done ?_
          refine QS.then_code ?_
          refine CS.cond rfl (fun hc5 => ?_) (fun hc5 => ?_) <;> (try simp only [decide_eq_true_eq, decide_eq_false_iff_not, Bool.and_eq_true, Bool.or_eq_true, Bool.and_eq_false_iff, Bool.or_eq_false_iff, Bool.not_eq_true', Bool.not_eq_false', ne_eq, Decidable.not_not, Bool.not_true, Bool.not_false, bne_iff_ne, bne_eq_false_iff_eq, beq_iff_eq, beq_eq_false_iff_ne] at hc5)
          · skip
            refine CS.seq ?_
            refine CS.region ?_
            refine WS.det rfl rfl rfl (det_move rfl) rfl ?_ -- r16.0 ref.go:46
            refine WS.det rfl rfl rfl (det_move rfl) rfl ?_ -- r16.1 ref.go:46
            refine WS.guardT rfl rfl rfl rfl (fun hg => det_move rfl) rfl ?_ -- r16.2 ref.go:46
            refine WS.det rfl rfl rfl (det_pick_and rfl rfl rfl) rfl ?_ -- r16.3 ref.go:46
            refine WS.det rfl rfl rfl (det_move rfl) rfl ?_ -- r16.4 ref.go:46
            refine WS.guardT rfl rfl rfl rfl (fun hg => (by first | exact det_fieldAddr rfl fo36_1 | exact det_fieldAddrS rfl fo36_1)) rfl ?_ -- r16.5 ref.go:46
            refine WS.guardT rfl rfl rfl rfl (fun hg => (by first | exact det_loadb (j := 1) (ev_cond hg rfl) rfl rfl tk3 | exact det_loadw (ev_cond hg rfl) (by assumption) rfl tk3)) rfl ?_ -- r16.6 ref.go:46
            refine WS.guardT rfl rfl rfl rfl (fun hg => (by first | exact det_fieldAddr rfl fo36_2 | exact det_fieldAddrS rfl fo36_2)) rfl ?_ -- r16.7 ref.go:46
            refine WS.guardT rfl rfl rfl rfl (fun hg => (by first | exact det_loadb (j := 1) (ev_cond hg rfl) rfl rfl tk3 | exact det_loadw (ev_cond hg rfl) (by assumption) rfl tk3)) rfl ?_ -- r16.8 ref.go:46
            refine WS.guardT rfl rfl rfl rfl (fun hg => det_ne (ev_cond hg rfl) (ev_cond hg rfl)) rfl ?_ -- r16.9 ref.go:46
            refine WS.det rfl rfl rfl (det_pick_and rfl rfl rfl) rfl ?_ -- r16.10 ref.go:46
            refine WS.det rfl rfl rfl (det_assign rfl) rfl ?_ -- r16.11 ref.go:46
            refine WS.done ?_
            refine QS.then_code ?_
            refine CS.seq ?_
            refine CS.region ?_
            refine WS.det rfl rfl rfl ((by first | exact det_fieldAddr rfl fo36_1 | exact det_fieldAddrS rfl fo36_1)) rfl ?_ -- r17.0 ref.go:47
            refine WS.det rfl rfl rfl ((by first | exact det_loadb (j := 1) rfl rfl rfl tk3 | exact det_loadw rfl (by assumption) rfl tk3)) rfl ?_ -- r17.1 ref.go:47
            refine WS.det rfl rfl rfl ((by first | exact det_fieldAddr rfl fo36_1 | exact det_fieldAddrS rfl fo36_1)) rfl ?_ -- r17.2 ref.go:47
            first | refine WS.store (j := 0) rfl rfl (by first | decide | omega | (simp; done) | (simp; omega)) rfl rfl tk3 rfl rfl ?_ | refine WS.store (j := 0) rfl rfl (by first | decide | omega | (simp; done) | (simp; omega)) rfl rfl tk3 (lset_eq _ _ _) rfl ?_ -- r17.3 ref.go:47
            refine WS.done ?_
            refine QS.then_code ?_
            refine CS.region ?_
            refine WS.det rfl rfl rfl ((by first | exact det_fieldAddr rfl fo36_2 | exact det_fieldAddrS rfl fo36_2)) rfl ?_ -- r18.0 ref.go:48
            refine WS.det rfl rfl rfl ((by first | exact det_loadb (j := 1) rfl rfl rfl tk3 | exact det_loadw rfl (by assumption) rfl tk3)) rfl ?_ -- r18.1 ref.go:48
            refine WS.det rfl rfl rfl ((by first | exact det_fieldAddr rfl fo36_2 | exact det_fieldAddrS rfl fo36_2)) rfl ?_ -- r18.2 ref.go:48
            first | refine WS.store (j := 0) rfl rfl (by first | decide | omega | (simp; done) | (simp; omega)) rfl rfl tk3 rfl rfl ?_ | refine WS.store (j := 0) rfl rfl (by first | decide | omega | (simp; done) | (simp; omega)) rfl rfl tk3 (lset_eq _ _ _) rfl ?_ -- r18.3 ref.go:48
            refine WS.done ?_
            refine QS.block_normal ?_
            exact QS.head (⟨(within c.a 0 (lw - 1) && within c.b 0 (lw - 1)) && decide (c.a ≠ c.b), c.a, c.b, 0, 0, none, 0, 0⟩) rfl rfl (clueR_4 hc5)
          · skip
            refine CS.seq ?_
            refine CS.region ?_
            refine WS.det rfl rfl rfl (det_eq rfl rfl) rfl ?_ -- r19.0 ref.go:49
            refine WS.det rfl rfl rfl (det_assign rfl) rfl ?_ -- r19.1 ref.go:49
            refine WS.done ?_
            refine QS.then_code ?_
            refine CS.cond rfl (fun hc6 => ?_) (fun hc6 => ?_) <;> (try simp only [decide_eq_true_eq, decide_eq_false_iff_not, Bool.and_eq_true, Bool.or_eq_true, Bool.and_eq_false_iff, Bool.or_eq_false_iff, Bool.not_eq_true', Bool.not_eq_false', ne_eq, Decidable.not_not, Bool.not_true, Bool.not_false, bne_iff_ne, bne_eq_false_iff_eq, beq_iff_eq, beq_eq_false_iff_ne] at hc6)
            · skip
              refine CS.seq ?_
              refine CS.region ?_
              refine WS.det rfl rfl rfl ((by first | exact det_fieldAddr rfl fo36_3 | exact det_fieldAddrS rfl fo36_3)) rfl ?_ -- r20.0 ref.go:50
              refine WS.det rfl rfl rfl ((by first | exact det_loadb (j := 1) rfl rfl rfl tk3 | exact det_loadw rfl (by assumption) rfl tk3)) rfl ?_ -- r20.1 ref.go:50
              refine WS.det rfl rfl rfl ((by first | exact det_fieldAddr rfl fo23_1 | exact det_fieldAddrS rfl fo23_1)) rfl ?_ -- r20.2 ref.go:50
              refine WS.det rfl rfl rfl ((by first | exact det_loadb (j := 2) rfl rfl rfl tk3 | exact det_loadw rfl (by assumption) rfl tk3)) rfl ?_ -- r20.3 ref.go:50
              refine WS.det rfl rfl rfl (det_sub rfl rfl (by omega)) rfl ?_ -- r20.4 ref.go:50
              refine WS.det rfl rfl rfl (det_callB rfl rfl ent62 (fun u hu => Within_c _ _ _ u)) rfl ?_ -- r20.5 ref.go:50
              refine WS.det rfl rfl rfl (det_move rfl) rfl ?_ -- r20.6 ref.go:50
              refine WS.guardT rfl rfl rfl rfl (fun hg => (by first | exact det_fieldAddr rfl fo36_4 | exact det_fieldAddrS rfl fo36_4)) rfl ?_ -- r20.7 ref.go:50
              refine WS.guardT rfl rfl rfl rfl (fun hg => (by first | exact det_loadb (j := 1) (ev_cond hg rfl) rfl rfl tk3 | exact det_loadw (ev_cond hg rfl) (by assumption) rfl tk3)) rfl ?_ -- r20.8 ref.go:50
              refine WS.guardT rfl rfl rfl rfl (fun hg => (by first | exact det_fieldAddr rfl fo23_0 | exact det_fieldAddrS rfl fo23_0)) rfl ?_ -- r20.9 ref.go:50
              refine WS.guardT rfl rfl rfl rfl (fun hg => (by first | exact det_loadb (j := 2) (ev_cond hg rfl) rfl rfl tk3 | exact det_loadw (ev_cond hg rfl) (by assumption) rfl tk3)) rfl ?_ -- r20.10 ref.go:50
              refine WS.guardT rfl rfl rfl rfl (fun hg => det_callB rfl (evs_cons (ev_cond hg rfl) (evs_cons rfl (evs_cons (ev_cond hg rfl) evs_nil))) ent62 (fun u hu => Within_c _ _ _ u)) rfl ?_ -- r20.11 ref.go:50
              refine WS.det rfl rfl rfl (det_pick_and rfl rfl rfl) rfl ?_ -- r20.12 ref.go:50
              refine WS.det rfl rfl rfl (det_assign rfl) rfl ?_ -- r20.13 ref.go:50
              refine WS.done ?_
              refine QS.then_code ?_
              refine CS.seq ?_
              refine CS.region ?_
              refine WS.det rfl rfl rfl ((by first | exact det_fieldAddr rfl fo36_3 | exact det_fieldAddrS rfl fo36_3)) rfl ?_ -- r21.0 ref.go:51
              refine WS.det rfl rfl rfl ((by first | exact det_loadb (j := 1) rfl rfl rfl tk3 | exact det_loadw rfl (by assumption) rfl tk3)) rfl ?_ -- r21.1 ref.go:51
              refine WS.det rfl rfl rfl ((by first | exact det_fieldAddr rfl fo36_3 | exact det_fieldAddrS rfl fo36_3)) rfl ?_ -- r21.2 ref.go:51
              first | refine WS.store (j := 0) rfl rfl (by first | decide | omega | (simp; done) | (simp; omega)) rfl rfl tk3 rfl rfl ?_ | refine WS.store (j := 0) rfl rfl (by first | decide | omega | (simp; done) | (simp; omega)) rfl rfl tk3 (lset_eq _ _ _) rfl ?_ -- r21.3 ref.go:51
              refine WS.done ?_
              refine QS.then_code ?_
              refine CS.region ?_
              refine WS.det rfl rfl rfl ((by first | exact det_fieldAddr rfl fo36_4 | exact det_fieldAddrS rfl fo36_4)) rfl ?_ -- r22.0 ref.go:52
              refine WS.det rfl rfl rfl ((by first | exact det_loadb (j := 1) rfl rfl rfl tk3 | exact det_loadw rfl (by assumption) rfl tk3)) rfl ?_ -- r22.1 ref.go:52
              refine WS.det rfl rfl rfl ((by first | exact det_fieldAddr rfl fo36_4 | exact det_fieldAddrS rfl fo36_4)) rfl ?_ -- r22.2 ref.go:52
              first | refine WS.store (j := 0) rfl rfl (by first | decide | omega | (simp; done) | (simp; omega)) rfl rfl tk3 rfl rfl ?_ | refine WS.store (j := 0) rfl rfl (by first | decide | omega | (simp; done) | (simp; omega)) rfl rfl tk3 (lset_eq _ _ _) rfl ?_ -- r22.3 ref.go:52
              refine WS.done ?_
              refine QS.block_normal ?_
              exact QS.head (⟨within c.n 0 (ls - 1) && within c.m 0 lw, 0, 0, c.n, c.m, none, 0, 0⟩) rfl rfl (clueR_5 hc6)
            · skip
              refine CS.seq ?_
              refine CS.region ?_
              refine WS.det rfl rfl rfl (det_eq rfl rfl) rfl ?_ -- r23.0 ref.go:53
              refine WS.det rfl rfl rfl (det_assign rfl) rfl ?_ -- r23.1 ref.go:53
              refine WS.done ?_
              refine QS.then_code ?_
              refine CS.cond rfl (fun hc7 => ?_) (fun hc7 => ?_) <;> (try simp only [decide_eq_true_eq, decide_eq_false_iff_not, Bool.and_eq_true, Bool.or_eq_true, Bool.and_eq_false_iff, Bool.or_eq_false_iff, Bool.not_eq_true', Bool.not_eq_false', ne_eq, Decidable.not_not, Bool.not_true, Bool.not_false, bne_iff_ne, bne_eq_false_iff_eq, beq_iff_eq, beq_eq_false_iff_ne] at hc7)
              · skip
                refine CS.seq ?_
                refine CS.region ?_
                refine WS.det rfl rfl rfl ((by first | exact det_loadb0 (j := 2) rfl rfl tk23 | exact det_loadbN (j := 2) rfl rfl (by rfl) tk23 | exact det_loadwN rfl (by assumption) (by rfl) tk23)) rfl ?_ -- r24.0 ref.go:54
                refine WS.det rfl rfl rfl ((by first | exact det_fieldAddr rfl fo36_5 | exact det_fieldAddrS rfl fo36_5)) rfl ?_ -- r24.1 ref.go:54
                refine WS.det rfl rfl rfl ((by first | exact det_loadb (j := 1) rfl rfl rfl tk24 | exact det_loadw rfl (by assumption) rfl tk24)) rfl ?_ -- r24.2 ref.go:54
                refine WS.det rfl rfl rfl (det_callB rfl rfl ent59 (fun u hu => isCode_c _ _ _ _ u hL (h1.st hu))) rfl ?_ -- r24.3 ref.go:54
                refine WS.det rfl rfl rfl (det_move rfl) rfl ?_ -- r24.4 ref.go:54
                refine WS.guardT rfl rfl rfl rfl (fun hg => (by first | exact det_fieldAddr rfl fo36_3 | exact det_fieldAddrS rfl fo36_3)) rfl ?_ -- r24.5 ref.go:54
                refine WS.guardT rfl rfl rfl rfl (fun hg => (by first | exact det_loadb (j := 1) (ev_cond hg rfl) rfl rfl tk3 | exact det_loadw (ev_cond hg rfl) (by assumption) rfl tk3)) rfl ?_ -- r24.6 ref.go:54
                refine WS.guardT rfl rfl rfl rfl (fun hg => (by first | exact det_fieldAddr rfl fo23_0 | exact det_fieldAddrS rfl fo23_0)) rfl ?_ -- r24.7 ref.go:54
                refine WS.guardT rfl rfl rfl rfl (fun hg => (by first | exact det_loadb (j := 2) (ev_cond hg rfl) rfl rfl tk3 | exact det_loadw (ev_cond hg rfl) (by assumption) rfl tk3)) rfl ?_ -- r24.8 ref.go:54
                refine WS.guardT rfl rfl rfl rfl (fun hg => det_callB rfl (evs_cons (ev_cond hg rfl) (evs_cons rfl (evs_cons (ev_cond hg rfl) evs_nil))) ent62 (fun u hu => Within_c _ _ _ u)) rfl ?_ -- r24.9 ref.go:54
                refine WS.det rfl rfl rfl (det_pick_and rfl rfl rfl) rfl ?_ -- r24.10 ref.go:54
                refine WS.det rfl rfl rfl (det_move rfl) rfl ?_ -- r24.11 ref.go:54
                refine WS.guardT rfl rfl rfl rfl (fun hg => (by first | exact det_fieldAddr rfl fo36_4 | exact det_fieldAddrS rfl fo36_4)) rfl ?_ -- r24.12 ref.go:54
                refine WS.guardT rfl rfl rfl rfl (fun hg => (by first | exact det_loadb (j := 1) (ev_cond hg rfl) rfl rfl tk3 | exact det_loadw (ev_cond hg rfl) (by assumption) rfl tk3)) rfl ?_ -- r24.13 ref.go:54
                refine WS.guardT rfl rfl rfl rfl (fun hg => (by first | exact det_fieldAddr rfl fo23_0 | exact det_fieldAddrS rfl fo23_0)) rfl ?_ -- r24.14 ref.go:54
                refine WS.guardT rfl rfl rfl rfl (fun hg => (by first | exact det_loadb (j := 2) (ev_cond hg rfl) rfl rfl tk3 | exact det_loadw (ev_cond hg rfl) (by assumption) rfl tk3)) rfl ?_ -- r24.15 ref.go:54
                refine WS.guardT rfl rfl rfl rfl (fun hg => det_callB rfl (evs_cons (ev_cond hg rfl) (evs_cons rfl (evs_cons (ev_cond hg rfl) evs_nil))) ent62 (fun u hu => Within_c _ _ _ u)) rfl ?_ -- r24.16 ref.go:54
                refine WS.det rfl rfl rfl (det_pick_and rfl rfl rfl) rfl ?_ -- r24.17 ref.go:54
                refine WS.det rfl rfl rfl (det_assign rfl) rfl ?_ -- r24.18 ref.go:54
                refine WS.done ?_
                refine QS.then_code ?_
                refine CS.seq ?_
                refine CS.region ?_
                refine WS.det rfl rfl rfl ((by first | exact det_fieldAddr rfl fo36_3 | exact det_fieldAddrS rfl fo36_3)) rfl ?_ -- r25.0 ref.go:55
                refine WS.det rfl rfl rfl ((by first | exact det_loadb (j := 1) rfl rfl rfl tk3 | exact det_loadw rfl (by assumption) rfl tk3)) rfl ?_ -- r25.1 ref.go:55
                refine WS.det rfl rfl rfl ((by first | exact det_fieldAddr rfl fo36_3 | exact det_fieldAddrS rfl fo36_3)) rfl ?_ -- r25.2 ref.go:55
                first | refine WS.store (j := 0) rfl rfl (by first | decide | omega | (simp; done) | (simp; omega)) rfl rfl tk3 rfl rfl ?_ | refine WS.store (j := 0) rfl rfl (by first | decide | omega | (simp; done) | (simp; omega)) rfl rfl tk3 (lset_eq _ _ _) rfl ?_ -- r25.3 ref.go:55
                refine WS.done ?_
                refine QS.then_code ?_
                refine CS.seq ?_
                refine CS.region ?_
                refine WS.det rfl rfl rfl ((by first | exact det_fieldAddr rfl fo36_4 | exact det_fieldAddrS rfl fo36_4)) rfl ?_ -- r26.0 ref.go:56
                refine WS.det rfl rfl rfl ((by first | exact det_loadb (j := 1) rfl rfl rfl tk3 | exact det_loadw rfl (by assumption) rfl tk3)) rfl ?_ -- r26.1 ref.go:56
                refine WS.det rfl rfl rfl ((by first | exact det_fieldAddr rfl fo36_4 | exact det_fieldAddrS rfl fo36_4)) rfl ?_ -- r26.2 ref.go:56
                first | refine WS.store (j := 0) rfl rfl (by first | decide | omega | (simp; done) | (simp; omega)) rfl rfl tk3 rfl rfl ?_ | refine WS.store (j := 0) rfl rfl (by first | decide | omega | (simp; done) | (simp; omega)) rfl rfl tk3 (lset_eq _ _ _) rfl ?_ -- r26.3 ref.go:56
                refine WS.done ?_
                refine QS.then_code ?_
                refine CS.region ?_
                refine WS.det rfl rfl rfl ((by first | exact det_fieldAddr rfl fo36_5 | exact det_fieldAddrS rfl fo36_5)) rfl ?_ -- r27.0 ref.go:57
                refine WS.det rfl rfl rfl ((by first | exact det_loadb (j := 1) rfl rfl rfl tk24 | exact det_loadw rfl (by assumption) rfl tk24)) rfl ?_ -- r27.1 ref.go:57
                refine WS.det rfl rfl rfl ((by first | exact det_fieldAddr rfl fo36_5 | exact det_fieldAddrS rfl fo36_5)) rfl ?_ -- r27.2 ref.go:57
                first | refine WS.store (j := 0) rfl rfl (by first | decide | omega | (simp; done) | (simp; omega)) rfl rfl tk24 rfl rfl ?_ | refine WS.store (j := 0) rfl rfl (by first | decide | omega | (simp; done) | (simp; omega)) rfl rfl tk24 (lset_eq _ _ _) rfl ?_ -- r27.3 ref.go:57
                refine WS.done ?_
                refine QS.block_normal ?_
                exact QS.head (⟨(codeB lw ls c.g && within c.n 0 lw) && within c.m 0 lw, 0, 0, c.n, c.m, p, c.g.length, cap⟩) rfl rfl (clueR_6 hc7 h1)
              · skip
                refine CS.seq ?_
                refine CS.region ?_
                refine WS.det rfl rfl rfl (det_eq rfl rfl) rfl ?_ -- r28.0 ref.go:58
                refine WS.det rfl rfl rfl (det_assign rfl) rfl ?_ -- r28.1 ref.go:58
                refine WS.done ?_
                refine QS.then_code ?_
                refine CS.cond rfl (fun hc8 => ?_) (fun hc8 => ?_) <;> (try simp only [decide_eq_true_eq, decide_eq_false_iff_not, Bool.and_eq_true, Bool.or_eq_true, Bool.and_eq_false_iff, Bool.or_eq_false_iff, Bool.not_eq_true', Bool.not_eq_false', ne_eq, Decidable.not_not, Bool.not_true, Bool.not_false, bne_iff_ne, bne_eq_false_iff_eq, beq_iff_eq, beq_eq_false_iff_ne] at hc8)
                · skip
                  refine CS.seq ?_
                  refine CS.region ?_
                  refine WS.det rfl rfl rfl (det_move rfl) rfl ?_ -- r29.0 ref.go:59
                  refine WS.det rfl rfl rfl (det_move rfl) rfl ?_ -- r29.1 ref.go:59
                  refine WS.guardT rfl rfl rfl rfl (fun hg => (by first | exact det_fieldAddr rfl fo36_3 | exact det_fieldAddrS rfl fo36_3)) rfl ?_ -- r29.2 ref.go:59
                  refine WS.guardT rfl rfl rfl rfl (fun hg => (by first | exact det_loadb (j := 1) (ev_cond hg rfl) rfl rfl tk3 | exact det_loadw (ev_cond hg rfl) (by assumption) rfl tk3)) rfl ?_ -- r29.3 ref.go:59
                  refine WS.guardT rfl rfl rfl rfl (fun hg => det_callB rfl (evs_cons (ev_cond hg rfl) (evs_cons rfl (evs_cons rfl evs_nil))) ent62 (fun u hu => Within_c _ _ _ u)) rfl ?_ -- r29.4 ref.go:59
                  refine WS.det rfl rfl rfl (det_pick_and rfl rfl rfl) rfl ?_ -- r29.5 ref.go:59
                  refine WS.det rfl rfl rfl (det_move rfl) rfl ?_ -- r29.6 ref.go:59
                  refine WS.guardT rfl rfl rfl rfl (fun hg => (by first | exact det_fieldAddr rfl fo36_4 | exact det_fieldAddrS rfl fo36_4)) rfl ?_ -- r29.7 ref.go:59
                  refine WS.guardT rfl rfl rfl rfl (fun hg => (by first | exact det_loadb (j := 1) (ev_cond hg rfl) rfl rfl tk3 | exact det_loadw (ev_cond hg rfl) (by assumption) rfl tk3)) rfl ?_ -- r29.8 ref.go:59
                  refine WS.guardT rfl rfl rfl rfl (fun hg => (by first | exact det_fieldAddr rfl fo36_3 | exact det_fieldAddrS rfl fo36_3)) rfl ?_ -- r29.9 ref.go:59
                  refine WS.guardT rfl rfl rfl rfl (fun hg => (by first | exact det_loadb (j := 1) (ev_cond hg rfl) rfl rfl tk3 | exact det_loadw (ev_cond hg rfl) (by assumption) rfl tk3)) rfl ?_ -- r29.10 ref.go:59
                  refine WS.guardT rfl rfl rfl rfl (fun hg => det_sub (ev_cond hg rfl) rfl (by simp [within] at hg; omega)) rfl ?_ -- r29.11 ref.go:59
                  refine WS.guardT rfl rfl rfl rfl (fun hg => det_callB rfl (evs_cons (ev_cond hg rfl) (evs_cons rfl (evs_cons (ev_cond hg rfl) evs_nil))) ent62 (fun u hu => Within_c _ _ _ u)) rfl ?_ -- r29.12 ref.go:59
                  refine WS.det rfl rfl rfl (det_pick_and rfl rfl rfl) rfl ?_ -- r29.13 ref.go:59
                  refine WS.det rfl rfl rfl (det_assign rfl) rfl ?_ -- r29.14 ref.go:59
                  refine WS.done ?_
                  refine QS.then_code ?_
                  refine CS.seq ?_
                  refine CS.region ?_
                  refine WS.det rfl rfl rfl ((by first | exact det_fieldAddr rfl fo36_1 | exact det_fieldAddrS rfl fo36_1)) rfl ?_ -- r30.0 ref.go:60
                  refine WS.det rfl rfl rfl ((by first | exact det_loadb (j := 1) rfl rfl rfl tk3 | exact det_loadw rfl (by assumption) rfl tk3)) rfl ?_ -- r30.1 ref.go:60
                  refine WS.det rfl rfl rfl ((by first | exact det_fieldAddr rfl fo36_1 | exact det_fieldAddrS rfl fo36_1)) rfl ?_ -- r30.2 ref.go:60
                  first | refine WS.store (j := 0) rfl rfl (by first | decide | omega | (simp; done) | (simp; omega)) rfl rfl tk3 rfl rfl ?_ | refine WS.store (j := 0) rfl rfl (by first | decide | omega | (simp; done) | (simp; omega)) rfl rfl tk3 (lset_eq _ _ _) rfl ?_ -- r30.3 ref.go:60
                  refine WS.done ?_
                  refine QS.then_code ?_
                  refine CS.seq ?_
                  refine CS.region ?_
                  refine WS.det rfl rfl rfl ((by first | exact det_fieldAddr rfl fo36_3 | exact det_fieldAddrS rfl fo36_3)) rfl ?_ -- r31.0 ref.go:61
                  refine WS.det rfl rfl rfl ((by first | exact det_loadb (j := 1) rfl rfl rfl tk3 | exact det_loadw rfl (by assumption) rfl tk3)) rfl ?_ -- r31.1 ref.go:61
                  refine WS.det rfl rfl rfl ((by first | exact det_fieldAddr rfl fo36_3 | exact det_fieldAddrS rfl fo36_3)) rfl ?_ -- r31.2 ref.go:61
                  first | refine WS.store (j := 0) rfl rfl (by first | decide | omega | (simp; done) | (simp; omega)) rfl rfl tk3 rfl rfl ?_ | refine WS.store (j := 0) rfl rfl (by first | decide | omega | (simp; done) | (simp; omega)) rfl rfl tk3 (lset_eq _ _ _) rfl ?_ -- r31.3 ref.go:61
                  refine WS.done ?_
                  refine QS.then_code ?_
                  refine CS.region ?_
                  refine WS.det rfl rfl rfl ((by first | exact det_fieldAddr rfl fo36_4 | exact det_fieldAddrS rfl fo36_4)) rfl ?_ -- r32.0 ref.go:62
                  refine WS.det rfl rfl rfl ((by first | exact det_loadb (j := 1) rfl rfl rfl tk3 | exact det_loadw rfl (by assumption) rfl tk3)) rfl ?_ -- r32.1 ref.go:62
                  refine WS.det rfl rfl rfl ((by first | exact det_fieldAddr rfl fo36_4 | exact det_fieldAddrS rfl fo36_4)) rfl ?_ -- r32.2 ref.go:62
                  first | refine WS.store (j := 0) rfl rfl (by first | decide | omega | (simp; done) | (simp; omega)) rfl rfl tk3 rfl rfl ?_ | refine WS.store (j := 0) rfl rfl (by first | decide | omega | (simp; done) | (simp; omega)) rfl rfl tk3 (lset_eq _ _ _) rfl ?_ -- r32.3 ref.go:62
                  refine WS.done ?_
                  refine QS.block_normal ?_
                  exact QS.head (⟨(within c.a 0 (lw - 1) && within c.n 2 10) && within c.m 0 (c.n - 1), c.a, 0, c.n, c.m, none, 0, 0⟩) rfl rfl (clueR_7 hc8)
                · skip
                  refine CS.skip ?_
                  refine QS.block_normal ?_
                  exact QS.head (⟨false, 0, 0, 0, 0, none, 0, 0⟩) rfl rfl (clueR_no hc1 hc2 hc3 hc5 hc6 hc7 hc8)
  · intro s t hs
    obtain ⟨g, h2, hs⟩ := hs
    refine CS.seq ?_
    refine CS.region ?_
    refine WS.det rfl rfl rfl (det_move rfl) rfl ?_ -- r33.0 ref.go:64
    refine WS.det rfl rfl rfl (det_move rfl) rfl ?_ -- r33.1 ref.go:64
    refine WS.guardT rfl rfl rfl rfl (fun hg => (by first | exact det_ldCl rfl (by assumption) (by (try simp only [decide_eq_true_eq, decide_eq_false_iff_not, Bool.and_eq_true, Bool.or_eq_true, Bool.and_eq_false_iff, Bool.or_eq_false_iff, Bool.not_eq_true', Bool.not_eq_false', ne_eq, Decidable.not_not, Bool.not_true, Bool.not_false, bne_iff_ne, bne_eq_false_iff_eq, beq_iff_eq, beq_eq_false_iff_ne] at hg); omega) tk36 | exact det_loadb0 (j := 1) rfl rfl tk36 | exact det_loadbN (j := 1) rfl rfl (by rfl) tk36 | exact det_loadwN rfl (by assumption) (by rfl) tk36)) rfl ?_ -- r33.2 ref.go:64
    refine WS.guardT rfl rfl rfl rfl (fun hg => (by first | exact det_ldCl rfl (by assumption) (by (try simp only [decide_eq_true_eq, decide_eq_false_iff_not, Bool.and_eq_true, Bool.or_eq_true, Bool.and_eq_false_iff, Bool.or_eq_false_iff, Bool.not_eq_true', Bool.not_eq_false', ne_eq, Decidable.not_not, Bool.not_true, Bool.not_false, bne_iff_ne, bne_eq_false_iff_eq, beq_iff_eq, beq_eq_false_iff_ne] at hg); omega) tk36 | exact det_loadb0 (j := 0) rfl rfl tk36 | exact det_loadbN (j := 0) rfl rfl (by rfl) tk36 | exact det_loadwN rfl (by assumption) (by rfl) tk36)) rfl ?_ -- r33.3 ref.go:64
    refine WS.guardT rfl rfl rfl rfl (fun hg => det_callB rfl (evs_cons (ev_cond hg rfl) (evs_cons (ev_cond hg rfl) evs_nil)) ent90 (fun u hu => SameClue_c c (clueR c s.a s.b s.n s.m g) _ _ u (h1.st hu) (h2.st hu))) rfl ?_ -- r33.4 ref.go:64
    refine WS.det rfl rfl rfl (det_pick_and rfl rfl rfl) rfl ?_ -- r33.5 ref.go:64
    refine WS.det rfl rfl rfl (det_assign rfl) rfl ?_ -- r33.6 ref.go:64
    refine WS.done ?_
    refine QS.then_code ?_
    refine CS.ret ?_
    exact out1 rfl rfl (retBe (by rw [← hs])) -- ret 1

end Go.Proofs.Ytldagbcceefcdaa
