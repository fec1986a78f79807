/- Contracts of functions, printed by a program of the prover (gen.py). -/
import Derived.Test.YtldagbcceefcdaaC2
import Derived.Test.YtldagbcceefcdaaClue
namespace Go.Proofs.Ytldagbcceefcdaa
open Go.RowKit Go.Proofs
set_option maxRecDepth 100000
set_option linter.unusedVariables false
set_option linter.unusedSimpArgs false

theorem SameClue_c (c d : Clue) (gv hv : Value) (w : World) (h1 : SlI w gv c.g) (h2 : SlI w hv d.g) :
    Calls Try.prog 90 #[.agg #[.int .i64 c.k, .int .i64 c.a, .int .i64 c.b, .int .i64 c.n, .int .i64 c.m, gv, .bool c.nt], .agg #[.int .i64 d.k, .int .i64 d.a, .int .i64 d.b, .int .i64 d.n, .int .i64 d.m, hv, .bool d.nt]] w (RetB w (.bool (decide (c = d)))) := by
  refine enter Try.func90 rfl rfl (Nat.le_of_ble_eq_true rfl) ?_
  refine CS.seq ?_
  refine CS.region ?_
  refine WS.box rfl rfl (fun _ => rfl) ?_; intro b2 hb2 -- r0.0 ref.go:68
  refine WS.box rfl rfl (fun _ => rfl) ?_; intro b3 hb3 -- r0.1 ref.go:68
  refine WS.det rfl rfl rfl (det_assign rfl) rfl ?_ -- r0.2 ref.go:68
  refine WS.done ?_
  refine QS.then_code ?_
  refine CS.seq ?_
  refine CS.region ?_
  refine WS.det rfl rfl rfl ((by first | exact det_fieldAddr rfl fo36_0 | exact det_fieldAddrS rfl fo36_0)) rfl ?_ -- r1.0 ref.go:69
  refine WS.det rfl rfl rfl ((by first | exact det_loadb (j := 1) rfl rfl rfl tk3 | exact det_loadw rfl (by assumption) rfl tk3)) rfl ?_ -- r1.1 ref.go:69
  refine WS.det rfl rfl rfl ((by first | exact det_fieldAddr rfl fo36_0 | exact det_fieldAddrS rfl fo36_0)) rfl ?_ -- r1.2 ref.go:69
  refine WS.det rfl rfl rfl ((by first | exact det_loadb (j := 0) rfl rfl rfl tk3 | exact det_loadw rfl (by assumption) rfl tk3)) rfl ?_ -- r1.3 ref.go:69
  refine WS.det rfl rfl rfl (det_eq rfl rfl) rfl ?_ -- r1.4 ref.go:69
  refine WS.det rfl rfl rfl (det_move rfl) rfl ?_ -- r1.5 ref.go:69
  refine WS.guardT rfl rfl rfl rfl (fun hg => (by first | exact det_fieldAddr rfl fo36_1 | exact det_fieldAddrS rfl fo36_1)) rfl ?_ -- r1.6 ref.go:69
  refine WS.guardT rfl rfl rfl rfl (fun hg => (by first | exact det_loadb (j := 1) (ev_cond hg rfl) rfl rfl tk3 | exact det_loadw (ev_cond hg rfl) (by assumption) rfl tk3)) rfl ?_ -- r1.7 ref.go:69
  refine WS.guardT rfl rfl rfl rfl (fun hg => (by first | exact det_fieldAddr rfl fo36_1 | exact det_fieldAddrS rfl fo36_1)) rfl ?_ -- r1.8 ref.go:69
  refine WS.guardT rfl rfl rfl rfl (fun hg => (by first | exact det_loadb (j := 0) (ev_cond hg rfl) rfl rfl tk3 | exact det_loadw (ev_cond hg rfl) (by assumption) rfl tk3)) rfl ?_ -- r1.9 ref.go:69
  refine WS.guardT rfl rfl rfl rfl (fun hg => det_eq (ev_cond hg rfl) (ev_cond hg rfl)) rfl ?_ -- r1.10 ref.go:69
  refine WS.det rfl rfl rfl (det_pick_and rfl rfl rfl) rfl ?_ -- r1.11 ref.go:69
  refine WS.det rfl rfl rfl (det_move rfl) rfl ?_ -- r1.12 ref.go:69
  refine WS.guardT rfl rfl rfl rfl (fun hg => (by first | exact det_fieldAddr rfl fo36_2 | exact det_fieldAddrS rfl fo36_2)) rfl ?_ -- r1.13 ref.go:69
  refine WS.guardT rfl rfl rfl rfl (fun hg => (by first | exact det_loadb (j := 1) (ev_cond hg rfl) rfl rfl tk3 | exact det_loadw (ev_cond hg rfl) (by assumption) rfl tk3)) rfl ?_ -- r1.14 ref.go:69
  refine WS.guardT rfl rfl rfl rfl (fun hg => (by first | exact det_fieldAddr rfl fo36_2 | exact det_fieldAddrS rfl fo36_2)) rfl ?_ -- r1.15 ref.go:69
  refine WS.guardT rfl rfl rfl rfl (fun hg => (by first | exact det_loadb (j := 0) (ev_cond hg rfl) rfl rfl tk3 | exact det_loadw (ev_cond hg rfl) (by assumption) rfl tk3)) rfl ?_ -- r1.16 ref.go:69
  refine WS.guardT rfl rfl rfl rfl (fun hg => det_eq (ev_cond hg rfl) (ev_cond hg rfl)) rfl ?_ -- r1.17 ref.go:69
  refine WS.det rfl rfl rfl (det_pick_and rfl rfl rfl) rfl ?_ -- r1.18 ref.go:69
  refine WS.det rfl rfl rfl (det_move rfl) rfl ?_ -- r1.19 ref.go:69
  refine WS.guardT rfl rfl rfl rfl (fun hg => (by first | exact det_fieldAddr rfl fo36_3 | exact det_fieldAddrS rfl fo36_3)) rfl ?_ -- r1.20 ref.go:69
  refine WS.guardT rfl rfl rfl rfl (fun hg => (by first | exact det_loadb (j := 1) (ev_cond hg rfl) rfl rfl tk3 | exact det_loadw (ev_cond hg rfl) (by assumption) rfl tk3)) rfl ?_ -- r1.21 ref.go:69
  refine WS.guardT rfl rfl rfl rfl (fun hg => (by first | exact det_fieldAddr rfl fo36_3 | exact det_fieldAddrS rfl fo36_3)) rfl ?_ -- r1.22 ref.go:69
  refine WS.guardT rfl rfl rfl rfl (fun hg => (by first | exact det_loadb (j := 0) (ev_cond hg rfl) rfl rfl tk3 | exact det_loadw (ev_cond hg rfl) (by assumption) rfl tk3)) rfl ?_ -- r1.23 ref.go:69
  refine WS.guardT rfl rfl rfl rfl (fun hg => det_eq (ev_cond hg rfl) (ev_cond hg rfl)) rfl ?_ -- r1.24 ref.go:69
  refine WS.det rfl rfl rfl (det_pick_and rfl rfl rfl) rfl ?_ -- r1.25 ref.go:69
  refine WS.det rfl rfl rfl (det_move rfl) rfl ?_ -- r1.26 ref.go:69
  refine WS.guardT rfl rfl rfl rfl (fun hg => (by first | exact det_fieldAddr rfl fo36_4 | exact det_fieldAddrS rfl fo36_4)) rfl ?_ -- r1.27 ref.go:69
  refine WS.guardT rfl rfl rfl rfl (fun hg => (by first | exact det_loadb (j := 1) (ev_cond hg rfl) rfl rfl tk3 | exact det_loadw (ev_cond hg rfl) (by assumption) rfl tk3)) rfl ?_ -- r1.28 ref.go:69
  refine WS.guardT rfl rfl rfl rfl (fun hg => (by first | exact det_fieldAddr rfl fo36_4 | exact det_fieldAddrS rfl fo36_4)) rfl ?_ -- r1.29 ref.go:69
  refine WS.guardT rfl rfl rfl rfl (fun hg => (by first | exact det_loadb (j := 0) (ev_cond hg rfl) rfl rfl tk3 | exact det_loadw (ev_cond hg rfl) (by assumption) rfl tk3)) rfl ?_ -- r1.30 ref.go:69
  refine WS.guardT rfl rfl rfl rfl (fun hg => det_eq (ev_cond hg rfl) (ev_cond hg rfl)) rfl ?_ -- r1.31 ref.go:69
  refine WS.det rfl rfl rfl (det_pick_and rfl rfl rfl) rfl ?_ -- r1.32 ref.go:69
  refine WS.det rfl rfl rfl (det_move rfl) rfl ?_ -- r1.33 ref.go:69
  refine WS.guardT rfl rfl rfl rfl (fun hg => (by first | exact det_fieldAddr rfl fo36_6 | exact det_fieldAddrS rfl fo36_6)) rfl ?_ -- r1.34 ref.go:69
  refine WS.guardT rfl rfl rfl rfl (fun hg => (by first | exact det_loadb (j := 1) (ev_cond hg rfl) rfl rfl tk4 | exact det_loadw (ev_cond hg rfl) (by assumption) rfl tk4)) rfl ?_ -- r1.35 ref.go:69
  refine WS.guardT rfl rfl rfl rfl (fun hg => (by first | exact det_fieldAddr rfl fo36_6 | exact det_fieldAddrS rfl fo36_6)) rfl ?_ -- r1.36 ref.go:69
  refine WS.guardT rfl rfl rfl rfl (fun hg => (by first | exact det_loadb (j := 0) (ev_cond hg rfl) rfl rfl tk4 | exact det_loadw (ev_cond hg rfl) (by assumption) rfl tk4)) rfl ?_ -- r1.37 ref.go:69
  refine WS.guardT rfl rfl rfl rfl (fun hg => det_eqb (ev_cond hg rfl) (ev_cond hg rfl) Try.underlying4) rfl ?_ -- r1.38 ref.go:69
  refine WS.det rfl rfl rfl (det_pick_and rfl rfl rfl) rfl ?_ -- r1.39 ref.go:69
  refine WS.det rfl rfl rfl (det_move rfl) rfl ?_ -- r1.40 ref.go:69
  refine WS.guardT rfl rfl rfl rfl (fun hg => (by first | exact det_fieldAddr rfl fo36_5 | exact det_fieldAddrS rfl fo36_5)) rfl ?_ -- r1.41 ref.go:69
  refine WS.guardT rfl rfl rfl rfl (fun hg => (by first | exact det_loadb (j := 1) (ev_cond hg rfl) rfl rfl tk24 | exact det_loadw (ev_cond hg rfl) (by assumption) rfl tk24)) rfl ?_ -- r1.42 ref.go:69
  refine WS.guardT rfl rfl rfl rfl (fun hg => (by first | exact det_fieldAddr rfl fo36_5 | exact det_fieldAddrS rfl fo36_5)) rfl ?_ -- r1.43 ref.go:69
  refine WS.guardT rfl rfl rfl rfl (fun hg => (by first | exact det_loadb (j := 0) (ev_cond hg rfl) rfl rfl tk24 | exact det_loadw (ev_cond hg rfl) (by assumption) rfl tk24)) rfl ?_ -- r1.44 ref.go:69
  refine WS.guardT rfl rfl rfl rfl (fun hg => det_callB rfl (evs_cons (ev_cond hg rfl) (evs_cons (ev_cond hg rfl) evs_nil)) ent20 (fun u hu => SameInts_c _ _ _ _ u (h1.st hu) (h2.st hu))) rfl ?_ -- r1.45 ref.go:69
  refine WS.det rfl rfl rfl (det_pick_and rfl rfl rfl) rfl ?_ -- r1.46 ref.go:69
  refine WS.det rfl rfl rfl (det_assign rfl) rfl ?_ -- r1.47 ref.go:69
  refine WS.done ?_
  refine QS.then_code ?_
  refine CS.ret ?_
  exact out1 rfl rfl (retBe (by cases c; cases d; simp [Clue.mk.injEq, Bool.and_assoc, and_assoc]; grind)) -- ret 1

set_option maxHeartbeats 1000000 in
theorem clue_c (lw ls : Int) (c : Clue) (gv : Value) (w : World) (hL : lockB lw ls = true) (h1 : SlI w gv c.g) :
    Calls Try.prog 63 #[.agg #[.int .i64 lw, .int .i64 ls], .agg #[.int .i64 c.k, .int .i64 c.a, .int .i64 c.b, .int .i64 c.n, .int .i64 c.m, gv, .bool c.nt]] w (RetB w (.bool (clueB lw ls c))) := by
  have hl := lock_of hL
  obtain ⟨hgn, p, cap, rfl, hcap, hp⟩ := h1
  have h1 : SlI w (.slice p c.g.length cap) c.g := ⟨hgn, p, cap, rfl, hcap, hp⟩
  clear hgn hcap hp
  refine enter Try.func63 rfl rfl (Nat.le_of_ble_eq_true rfl) ?_
  refine CS.seq ?_
  refine CS.region ?_
  refine WS.box rfl rfl (fun _ => rfl) ?_; intro b2 hb2 -- r0.0 codes.go:28
  refine WS.box rfl rfl (fun _ => rfl) ?_; intro b3 hb3 -- r0.1 codes.go:28
  refine WS.det rfl rfl rfl (det_assign rfl) rfl ?_ -- r0.2 codes.go:28
  refine WS.done ?_
  refine QS.then_code ?_
  refine CS.seq ?_
  refine CS.region ?_
  refine WS.det rfl rfl rfl ((by first | exact det_fieldAddr rfl fo36_0 | exact det_fieldAddrS rfl fo36_0)) rfl ?_ -- r1.0 codes.go:29
  refine WS.det rfl rfl rfl ((by first | exact det_loadb (j := 0) rfl rfl rfl tk3 | exact det_loadw rfl (by assumption) rfl tk3)) rfl ?_ -- r1.1 codes.go:29
  refine WS.det rfl rfl rfl ((by first | exact det_fieldAddr rfl fo36_6 | exact det_fieldAddrS rfl fo36_6)) rfl ?_ -- r1.2 codes.go:29
  refine WS.det rfl rfl rfl ((by first | exact det_loadb (j := 0) rfl rfl rfl tk4 | exact det_loadw rfl (by assumption) rfl tk4)) rfl ?_ -- r1.3 codes.go:29
  refine WS.det rfl rfl rfl ((det_build1 plc36 zv36 rfl rfl (by simp [Value.oneCell']))) rfl ?_ -- r1.4 codes.go:29
  refine WS.alloc zv36 (fun _ => rfl) ?_; intro b5 hb5 -- r1.5 codes.go:29
  first | refine WS.storeW (j := 0) rfl rfl rfl rfl (by simp [Value.oneCell']) tk36 rfl rfl ?_ -- r1.6 codes.go:29
  refine WS.done ?_
  refine QS.then_code ?_
  refine CS.seq ?_
  refine CS.region ?_
  refine WS.det rfl rfl rfl (det_assign rfl) rfl ?_ -- r2.0 codes.go:30
  refine WS.done ?_
  refine QS.then_code ?_
  refine CS.cut (σ := Used) [12, 13, 14, 15, 16, 17, 18, 19, 20, 21, 22, 23, 24, 25, 26, 27, 28, 29, 30, 31, 32, 33, 34, 35, 36, 37, 38, 39, 40, 41, 42, 43, 44, 45, 46, 47, 48, 49, 50, 51, 52, 53, 54, 55, 56, 57, 58, 59, 60, 61, 62, 63, 64, 65, 66, 67, 68, 69, 70, 71, 72, 73, 74, 75, 76, 77, 78, 79, 80, 81, 82, 83, 84, 85, 86, 87, 88, 89, 90, 91, 92, 93, 94, 95, 96, 97, 98, 99, 100, 101, 102, 103, 104, 105, 106, 107, 108, 109, 110, 111, 112, 113, 114, 115, 116, 117, 118, 119, 120, 121, 122, 123, 124, 125, 126, 127, 128, 129, 130, 131, 132, 133, 134, 135, 136, 137, 138, 139, 140, 141, 142, 143, 144, 145, 146, 147, 148, 149, 150, 151, 152, 153, 154, 155, 156, 157, 158, 159, 160, 161, 162, 163, 164, 165, 166] (fun s => [(6, .bool s.is)]) (fun s => [blk b5 [.int .i64 c.k, .int .i64 s.a, .int .i64 s.b, .int .i64 s.n, .int .i64 s.m, .slice s.q s.l s.cap, .bool c.nt] 36, blk b3 [.int .i64 c.k, .int .i64 c.a, .int .i64 c.b, .int .i64 c.n, .int .i64 c.m, .slice p c.g.length cap, .bool c.nt] 36, blk b2 [.int .i64 lw, .int .i64 ls] 77]) (fun s => usedB c s = clueB lw ls c) (fun _ _ => rfl) ?_ ?_
  · skip
    refine CS.seq ?_
    refine CS.region ?_
    refine WS.det rfl rfl rfl ((by first | exact det_fieldAddr rfl fo36_0 | exact det_fieldAddrS rfl fo36_0)) rfl ?_ -- r3.0 codes.go:31
    refine WS.det rfl rfl rfl ((by first | exact det_loadb (j := 1) rfl rfl rfl tk3 | exact det_loadw rfl (by assumption) rfl tk3)) rfl ?_ -- r3.1 codes.go:31
    refine WS.done ?_
    refine QS.then_code ?_
    refine CS.block ?_
    refine CS.seq ?_
    refine CS.region ?_
    refine WS.det rfl rfl rfl (det_eq rfl rfl) rfl ?_ -- r4.0 codes.go:32
    refine WS.det rfl rfl rfl (det_assign rfl) rfl ?_ -- r4.1 codes.go:32
    refine WS.done ?_
    refine QS.then_code ?_
    refine CS.cond rfl (fun hc1 => ?_) (fun hc1 => ?_) <;> (try simp only [decide_eq_true_eq, decide_eq_false_iff_not, Bool.and_eq_true, Bool.or_eq_true, Bool.and_eq_false_iff, Bool.or_eq_false_iff, Bool.not_eq_true', Bool.not_eq_false', ne_eq, Decidable.not_not, Bool.not_true, Bool.not_false, bne_iff_ne, bne_eq_false_iff_eq, beq_iff_eq, beq_eq_false_iff_ne] at hc1)
    · skip
      refine CS.seq ?_
      refine CS.drawnBut 0 (k := 8) mixed rfl rfl rfl ?_
      refine AS.take 0 rfl (by kernel_rfl) (by kernel_rfl) (by kernel_rfl) rfl rfl ((by first | exact det_fieldAddr rfl fo36_1 | exact det_fieldAddrS rfl fo36_1)) rfl rfl ?_ -- r5.0 codes.go:33
      refine AS.take 1 rfl (by kernel_rfl) (by kernel_rfl) (by kernel_rfl) rfl rfl ((by first | exact det_loadb (j := 0) rfl rfl rfl tk3 | exact det_loadw rfl (by assumption) rfl tk3)) rfl rfl ?_ -- r5.1 codes.go:33
      refine AS.take 2 rfl (by kernel_rfl) (by kernel_rfl) (by kernel_rfl) rfl rfl ((by first | exact det_fieldAddr rfl fo36_3 | exact det_fieldAddrS rfl fo36_3)) rfl rfl ?_ -- r5.2 codes.go:33
      refine AS.take 3 rfl (by kernel_rfl) (by kernel_rfl) (by kernel_rfl) rfl rfl ((by first | exact det_loadb (j := 0) rfl rfl rfl tk3 | exact det_loadw rfl (by assumption) rfl tk3)) rfl rfl ?_ -- r5.3 codes.go:33
      refine AS.take 4 rfl (by kernel_rfl) (by kernel_rfl) (by kernel_rfl) rfl rfl ((by first | exact det_fieldAddr rfl fo36_1 | exact det_fieldAddrS rfl fo36_1)) rfl rfl ?_ -- r5.4 codes.go:33
      refine AS.one (i := 5) (by kernel_rfl) rfl (by first | exact fun _ h => h | exact fun _ h => h.sub (by repeat first | exact List.Sublist.refl _ | apply List.Sublist.cons_cons | apply List.Sublist.cons)) rfl ?_
      first | refine WS.store (j := 0) rfl rfl (by first | decide | omega | (simp; done) | (simp; omega)) rfl rfl tk3 rfl rfl ?_ | refine WS.store (j := 0) rfl rfl (by first | decide | omega | (simp; done) | (simp; omega)) rfl rfl tk3 (lset_eq _ _ _) rfl ?_ -- r5.5 codes.go:33
      refine WS.done ?_
      refine QS.then_AS ?_
      refine AS.take 6 rfl (by kernel_rfl) (by kernel_rfl) (by kernel_rfl) rfl rfl ((by first | exact det_fieldAddr rfl fo36_3 | exact det_fieldAddrS rfl fo36_3)) rfl rfl ?_ -- r5.6 codes.go:33
      refine AS.one (i := 7) (by kernel_rfl) rfl (by first | exact fun _ h => h | exact fun _ h => h.sub (by repeat first | exact List.Sublist.refl _ | apply List.Sublist.cons_cons | apply List.Sublist.cons)) rfl ?_
      first | refine WS.store (j := 0) rfl rfl (by first | decide | omega | (simp; done) | (simp; omega)) rfl rfl tk3 rfl rfl ?_ | refine WS.store (j := 0) rfl rfl (by first | decide | omega | (simp; done) | (simp; omega)) rfl rfl tk3 (lset_eq _ _ _) rfl ?_ -- r5.7 codes.go:33
      refine WS.done ?_
      refine QS.then_AS ?_
      refine AS.done (by kernel_rfl) (by first | exact fun _ h => h | exact fun _ h => h.sub (by repeat first | exact List.Sublist.refl _ | apply List.Sublist.cons_cons | apply List.Sublist.cons)) ?_
      refine QS.then_code ?_
      refine CS.region ?_
      refine WS.det rfl rfl rfl ((by first | exact det_loadb0 (j := 2) rfl rfl tk77 | exact det_loadbN (j := 2) rfl rfl (by rfl) tk77 | exact det_loadwN rfl (by assumption) (by rfl) tk77)) rfl ?_ -- r6.0 codes.go:34
      refine WS.det rfl rfl rfl ((by first | exact det_fieldAddr rfl fo36_1 | exact det_fieldAddrS rfl fo36_1)) rfl ?_ -- r6.1 codes.go:34
      refine WS.det rfl rfl rfl ((by first | exact det_loadb (j := 1) rfl rfl rfl tk3 | exact det_loadw rfl (by assumption) rfl tk3)) rfl ?_ -- r6.2 codes.go:34
      refine WS.det rfl rfl rfl (det_callB rfl rfl ent88 (fun u hu => wheel_c _ _ _ u hL)) rfl ?_ -- r6.3 codes.go:34
      refine WS.det rfl rfl rfl (det_move rfl) rfl ?_ -- r6.4 codes.go:34
      refine WS.guardT rfl rfl rfl rfl (fun hg => (by first | exact det_loadb0 (j := 2) rfl rfl tk77 | exact det_loadbN (j := 2) rfl rfl (by rfl) tk77 | exact det_loadwN rfl (by assumption) (by rfl) tk77)) rfl ?_ -- r6.5 codes.go:34
      refine WS.guardT rfl rfl rfl rfl (fun hg => (by first | exact det_fieldAddr rfl fo36_3 | exact det_fieldAddrS rfl fo36_3)) rfl ?_ -- r6.6 codes.go:34
      refine WS.guardT rfl rfl rfl rfl (fun hg => (by first | exact det_loadb (j := 1) (ev_cond hg rfl) rfl rfl tk3 | exact det_loadw (ev_cond hg rfl) (by assumption) rfl tk3)) rfl ?_ -- r6.7 codes.go:34
      refine WS.guardT rfl rfl rfl rfl (fun hg => det_callB rfl (evs_cons (ev_cond hg rfl) (evs_cons (ev_cond hg rfl) evs_nil)) ent89 (fun u hu => symbol_c _ _ _ u hL)) rfl ?_ -- r6.8 codes.go:34
      refine WS.det rfl rfl rfl (det_pick_and rfl rfl rfl) rfl ?_ -- r6.9 codes.go:34
      refine WS.det rfl rfl rfl (det_assign rfl) rfl ?_ -- r6.10 codes.go:34
      refine WS.done ?_
      refine QS.block_normal ?_
      exact QS.head (⟨within c.a 0 (lw - 1) && within c.n 0 (ls - 1), c.a, 0, c.n, 0, none, 0, 0⟩) rfl rfl (clueB_1 hc1 none 0)
    · skip
      refine CS.seq ?_
      refine CS.region ?_
      refine WS.det rfl rfl rfl (det_eq rfl rfl) rfl ?_ -- r7.0 codes.go:35
      refine WS.det rfl rfl rfl (det_assign rfl) rfl ?_ -- r7.1 codes.go:35
      refine WS.done ?_
      refine QS.then_code ?_
      refine CS.cond rfl (fun hc2 => ?_) (fun hc2 => ?_) <;> (try simp only [decide_eq_true_eq, decide_eq_false_iff_not, Bool.and_eq_true, Bool.or_eq_true, Bool.and_eq_false_iff, Bool.or_eq_false_iff, Bool.not_eq_true', Bool.not_eq_false', ne_eq, Decidable.not_not, Bool.not_true, Bool.not_false, bne_iff_ne, bne_eq_false_iff_eq, beq_iff_eq, beq_eq_false_iff_ne] at hc2)
      · skip
        refine CS.seq ?_
        refine CS.drawnBut 0 (k := 12) mixed rfl rfl rfl ?_
        refine AS.take 0 rfl (by kernel_rfl) (by kernel_rfl) (by kernel_rfl) rfl rfl ((by first | exact det_fieldAddr rfl fo36_1 | exact det_fieldAddrS rfl fo36_1)) rfl rfl ?_ -- r8.0 codes.go:36
        refine AS.take 1 rfl (by kernel_rfl) (by kernel_rfl) (by kernel_rfl) rfl rfl ((by first | exact det_loadb (j := 0) rfl rfl rfl tk3 | exact det_loadw rfl (by assumption) rfl tk3)) rfl rfl ?_ -- r8.1 codes.go:36
        refine AS.take 2 rfl (by kernel_rfl) (by kernel_rfl) (by kernel_rfl) rfl rfl ((by first | exact det_fieldAddr rfl fo36_2 | exact det_fieldAddrS rfl fo36_2)) rfl rfl ?_ -- r8.2 codes.go:36
        refine AS.take 3 rfl (by kernel_rfl) (by kernel_rfl) (by kernel_rfl) rfl rfl ((by first | exact det_loadb (j := 0) rfl rfl rfl tk3 | exact det_loadw rfl (by assumption) rfl tk3)) rfl rfl ?_ -- r8.3 codes.go:36
        refine AS.take 4 rfl (by kernel_rfl) (by kernel_rfl) (by kernel_rfl) rfl rfl ((by first | exact det_fieldAddr rfl fo36_3 | exact det_fieldAddrS rfl fo36_3)) rfl rfl ?_ -- r8.4 codes.go:36
        refine AS.take 5 rfl (by kernel_rfl) (by kernel_rfl) (by kernel_rfl) rfl rfl ((by first | exact det_loadb (j := 0) rfl rfl rfl tk3 | exact det_loadw rfl (by assumption) rfl tk3)) rfl rfl ?_ -- r8.5 codes.go:36
        refine AS.take 6 rfl (by kernel_rfl) (by kernel_rfl) (by kernel_rfl) rfl rfl ((by first | exact det_fieldAddr rfl fo36_1 | exact det_fieldAddrS rfl fo36_1)) rfl rfl ?_ -- r8.6 codes.go:36
        refine AS.one (i := 7) (by kernel_rfl) rfl (by first | exact fun _ h => h | exact fun _ h => h.sub (by repeat first | exact List.Sublist.refl _ | apply List.Sublist.cons_cons | apply List.Sublist.cons)) rfl ?_
        first | refine WS.store (j := 0) rfl rfl (by first | decide | omega | (simp; done) | (simp; omega)) rfl rfl tk3 rfl rfl ?_ | refine WS.store (j := 0) rfl rfl (by first | decide | omega | (simp; done) | (simp; omega)) rfl rfl tk3 (lset_eq _ _ _) rfl ?_ -- r8.7 codes.go:36
        refine WS.done ?_
        refine QS.then_AS ?_
        refine AS.take 8 rfl (by kernel_rfl) (by kernel_rfl) (by kernel_rfl) rfl rfl ((by first | exact det_fieldAddr rfl fo36_2 | exact det_fieldAddrS rfl fo36_2)) rfl rfl ?_ -- r8.8 codes.go:36
        refine AS.one (i := 9) (by kernel_rfl) rfl (by first | exact fun _ h => h | exact fun _ h => h.sub (by repeat first | exact List.Sublist.refl _ | apply List.Sublist.cons_cons | apply List.Sublist.cons)) rfl ?_
        first | refine WS.store (j := 0) rfl rfl (by first | decide | omega | (simp; done) | (simp; omega)) rfl rfl tk3 rfl rfl ?_ | refine WS.store (j := 0) rfl rfl (by first | decide | omega | (simp; done) | (simp; omega)) rfl rfl tk3 (lset_eq _ _ _) rfl ?_ -- r8.9 codes.go:36
        refine WS.done ?_
        refine QS.then_AS ?_
        refine AS.take 10 rfl (by kernel_rfl) (by kernel_rfl) (by kernel_rfl) rfl rfl ((by first | exact det_fieldAddr rfl fo36_3 | exact det_fieldAddrS rfl fo36_3)) rfl rfl ?_ -- r8.10 codes.go:36
        refine AS.one (i := 11) (by kernel_rfl) rfl (by first | exact fun _ h => h | exact fun _ h => h.sub (by repeat first | exact List.Sublist.refl _ | apply List.Sublist.cons_cons | apply List.Sublist.cons)) rfl ?_
        first | refine WS.store (j := 0) rfl rfl (by first | decide | omega | (simp; done) | (simp; omega)) rfl rfl tk3 rfl rfl ?_ | refine WS.store (j := 0) rfl rfl (by first | decide | omega | (simp; done) | (simp; omega)) rfl rfl tk3 (lset_eq _ _ _) rfl ?_ -- r8.11 codes.go:36
        refine WS.done ?_
        refine QS.then_AS ?_
        refine AS.done (by kernel_rfl) (by first | exact fun _ h => h | exact fun _ h => h.sub (by repeat first | exact List.Sublist.refl _ | apply List.Sublist.cons_cons | apply List.Sublist.cons)) ?_
        refine QS.then_code ?_
        refine CS.region ?_
        refine WS.det rfl rfl rfl ((by first | exact det_loadb0 (j := 2) rfl rfl tk77 | exact det_loadbN (j := 2) rfl rfl (by rfl) tk77 | exact det_loadwN rfl (by assumption) (by rfl) tk77)) rfl ?_ -- r9.0 codes.go:37
        refine WS.det rfl rfl rfl ((by first | exact det_fieldAddr rfl fo36_1 | exact det_fieldAddrS rfl fo36_1)) rfl ?_ -- r9.1 codes.go:37
        refine WS.det rfl rfl rfl ((by first | exact det_loadb (j := 1) rfl rfl rfl tk3 | exact det_loadw rfl (by assumption) rfl tk3)) rfl ?_ -- r9.2 codes.go:37
        refine WS.det rfl rfl rfl (det_callB rfl rfl ent88 (fun u hu => wheel_c _ _ _ u hL)) rfl ?_ -- r9.3 codes.go:37
        refine WS.det rfl rfl rfl (det_move rfl) rfl ?_ -- r9.4 codes.go:37
        refine WS.guardT rfl rfl rfl rfl (fun hg => (by first | exact det_loadb0 (j := 2) rfl rfl tk77 | exact det_loadbN (j := 2) rfl rfl (by rfl) tk77 | exact det_loadwN rfl (by assumption) (by rfl) tk77)) rfl ?_ -- r9.5 codes.go:37
        refine WS.guardT rfl rfl rfl rfl (fun hg => (by first | exact det_fieldAddr rfl fo36_2 | exact det_fieldAddrS rfl fo36_2)) rfl ?_ -- r9.6 codes.go:37
        refine WS.guardT rfl rfl rfl rfl (fun hg => (by first | exact det_loadb (j := 1) (ev_cond hg rfl) rfl rfl tk3 | exact det_loadw (ev_cond hg rfl) (by assumption) rfl tk3)) rfl ?_ -- r9.7 codes.go:37
        refine WS.guardT rfl rfl rfl rfl (fun hg => det_callB rfl (evs_cons (ev_cond hg rfl) (evs_cons (ev_cond hg rfl) evs_nil)) ent88 (fun u hu => wheel_c _ _ _ u hL)) rfl ?_ -- r9.8 codes.go:37
        refine WS.det rfl rfl rfl (det_pick_and rfl rfl rfl) rfl ?_ -- r9.9 codes.go:37
        refine WS.det rfl rfl rfl (det_move rfl) rfl ?_ -- r9.10 codes.go:37
        refine WS.guardT rfl rfl rfl rfl (fun hg => (by first | exact det_fieldAddr rfl fo36_1 | exact det_fieldAddrS rfl fo36_1)) rfl ?_ -- r9.11 codes.go:37
        refine WS.guardT rfl rfl rfl rfl (fun hg => (by first | exact det_loadb (j := 1) (ev_cond hg rfl) rfl rfl tk3 | exact det_loadw (ev_cond hg rfl) (by assumption) rfl tk3)) rfl ?_ -- r9.12 codes.go:37
        refine WS.guardT rfl rfl rfl rfl (fun hg => (by first | exact det_fieldAddr rfl fo36_2 | exact det_fieldAddrS rfl fo36_2)) rfl ?_ -- r9.13 codes.go:37
        refine WS.guardT rfl rfl rfl rfl (fun hg => (by first | exact det_loadb (j := 1) (ev_cond hg rfl) rfl rfl tk3 | exact det_loadw (ev_cond hg rfl) (by assumption) rfl tk3)) rfl ?_ -- r9.14 codes.go:37
        refine WS.guardT rfl rfl rfl rfl (fun hg => det_le (ev_cond hg rfl) (ev_cond hg rfl)) rfl ?_ -- r9.15 codes.go:37
        refine WS.det rfl rfl rfl (det_pick_and rfl rfl rfl) rfl ?_ -- r9.16 codes.go:37
        refine WS.det rfl rfl rfl (det_move rfl) rfl ?_ -- r9.17 codes.go:37
        refine WS.guardT rfl rfl rfl rfl (fun hg => (by first | exact det_fieldAddr rfl fo36_3 | exact det_fieldAddrS rfl fo36_3)) rfl ?_ -- r9.18 codes.go:37
        refine WS.guardT rfl rfl rfl rfl (fun hg => (by first | exact det_loadb (j := 1) (ev_cond hg rfl) rfl rfl tk3 | exact det_loadw (ev_cond hg rfl) (by assumption) rfl tk3)) rfl ?_ -- r9.19 codes.go:37
        refine WS.guardT rfl rfl rfl rfl (fun hg => det_callB rfl (evs_cons (ev_cond hg rfl) (evs_cons rfl (evs_cons rfl evs_nil))) ent61 (fun u hu => within_c _ _ _ u)) rfl ?_ -- r9.20 codes.go:37
        refine WS.det rfl rfl rfl (det_pick_and rfl rfl rfl) rfl ?_ -- r9.21 codes.go:37
        refine WS.det rfl rfl rfl (det_assign rfl) rfl ?_ -- r9.22 codes.go:37
        refine WS.done ?_
        refine QS.block_normal ?_
        exact QS.head (⟨((within c.a 0 (lw - 1) && within c.b 0 (lw - 1)) && decide (c.a ≤ c.b)) && within c.n 0 100, c.a, c.b, c.n, 0, none, 0, 0⟩) rfl rfl (clueB_2 hc2 none 0)
      · skip
        refine CS.seq ?_
        refine CS.seq ?_
        refine CS.region ?_
        refine WS.det rfl rfl rfl (det_eq rfl rfl) rfl ?_ -- r10.0 codes.go:38
        refine WS.det rfl rfl rfl (det_assign rfl) rfl ?_ -- r10.1 codes.go:38
        refine WS.done ?_
        refine QS.then_code ?_
        refine CS.cond rfl (fun hc3 => ?_) (fun hc3 => ?_) <;> (try simp only [decide_eq_true_eq, decide_eq_false_iff_not, Bool.and_eq_true, Bool.or_eq_true, Bool.and_eq_false_iff, Bool.or_eq_false_iff, Bool.not_eq_true', Bool.not_eq_false', ne_eq, Decidable.not_not, Bool.not_true, Bool.not_false, bne_iff_ne, bne_eq_false_iff_eq, beq_iff_eq, beq_eq_false_iff_ne] at hc3)
        · skip
          refine CS.skip ?_
          refine QS.then_code ?_
          refine CS.cond rfl (fun hc4 => ?_) (fun hc4 => ?_) <;> (try simp only [decide_eq_true_eq, decide_eq_false_iff_not, Bool.and_eq_true, Bool.or_eq_true, Bool.and_eq_false_iff, Bool.or_eq_false_iff, Bool.not_eq_true', Bool.not_eq_false', ne_eq, Decidable.not_not, Bool.not_true, Bool.not_false, bne_iff_ne, bne_eq_false_iff_eq, beq_iff_eq, beq_eq_false_iff_ne] at hc4)
          · skip
            refine CS.seq ?_
            refine CS.drawnBut 0 (k := 8) mixed rfl rfl rfl ?_
            refine AS.take 0 rfl (by kernel_rfl) (by kernel_rfl) (by kernel_rfl) rfl rfl ((by first | exact det_fieldAddr rfl fo36_1 | exact det_fieldAddrS rfl fo36_1)) rfl rfl ?_ -- r12.0 codes.go:39
            refine AS.take 1 rfl (by kernel_rfl) (by kernel_rfl) (by kernel_rfl) rfl rfl ((by first | exact det_loadb (j := 0) rfl rfl rfl tk3 | exact det_loadw rfl (by assumption) rfl tk3)) rfl rfl ?_ -- r12.1 codes.go:39
            refine AS.take 2 rfl (by kernel_rfl) (by kernel_rfl) (by kernel_rfl) rfl rfl ((by first | exact det_fieldAddr rfl fo36_2 | exact det_fieldAddrS rfl fo36_2)) rfl rfl ?_ -- r12.2 codes.go:39
            refine AS.take 3 rfl (by kernel_rfl) (by kernel_rfl) (by kernel_rfl) rfl rfl ((by first | exact det_loadb (j := 0) rfl rfl rfl tk3 | exact det_loadw rfl (by assumption) rfl tk3)) rfl rfl ?_ -- r12.3 codes.go:39
            refine AS.take 4 rfl (by kernel_rfl) (by kernel_rfl) (by kernel_rfl) rfl rfl ((by first | exact det_fieldAddr rfl fo36_1 | exact det_fieldAddrS rfl fo36_1)) rfl rfl ?_ -- r12.4 codes.go:39
            refine AS.one (i := 5) (by kernel_rfl) rfl (by first | exact fun _ h => h | exact fun _ h => h.sub (by repeat first | exact List.Sublist.refl _ | apply List.Sublist.cons_cons | apply List.Sublist.cons)) rfl ?_
            first | refine WS.store (j := 0) rfl rfl (by first | decide | omega | (simp; done) | (simp; omega)) rfl rfl tk3 rfl rfl ?_ | refine WS.store (j := 0) rfl rfl (by first | decide | omega | (simp; done) | (simp; omega)) rfl rfl tk3 (lset_eq _ _ _) rfl ?_ -- r12.5 codes.go:39
            refine WS.done ?_
            refine QS.then_AS ?_
            refine AS.take 6 rfl (by kernel_rfl) (by kernel_rfl) (by kernel_rfl) rfl rfl ((by first | exact det_fieldAddr rfl fo36_2 | exact det_fieldAddrS rfl fo36_2)) rfl rfl ?_ -- r12.6 codes.go:39
            refine AS.one (i := 7) (by kernel_rfl) rfl (by first | exact fun _ h => h | exact fun _ h => h.sub (by repeat first | exact List.Sublist.refl _ | apply List.Sublist.cons_cons | apply List.Sublist.cons)) rfl ?_
            first | refine WS.store (j := 0) rfl rfl (by first | decide | omega | (simp; done) | (simp; omega)) rfl rfl tk3 rfl rfl ?_ | refine WS.store (j := 0) rfl rfl (by first | decide | omega | (simp; done) | (simp; omega)) rfl rfl tk3 (lset_eq _ _ _) rfl ?_ -- r12.7 codes.go:39
            refine WS.done ?_
            refine QS.then_AS ?_
            refine AS.done (by kernel_rfl) (by first | exact fun _ h => h | exact fun _ h => h.sub (by repeat first | exact List.Sublist.refl _ | apply List.Sublist.cons_cons | apply List.Sublist.cons)) ?_
            refine QS.then_code ?_
            refine CS.region ?_
            refine WS.det rfl rfl rfl ((by first | exact det_loadb0 (j := 2) rfl rfl tk77 | exact det_loadbN (j := 2) rfl rfl (by rfl) tk77 | exact det_loadwN rfl (by assumption) (by rfl) tk77)) rfl ?_ -- r13.0 codes.go:40
            refine WS.det rfl rfl rfl ((by first | exact det_fieldAddr rfl fo36_1 | exact det_fieldAddrS rfl fo36_1)) rfl ?_ -- r13.1 codes.go:40
            refine WS.det rfl rfl rfl ((by first | exact det_loadb (j := 1) rfl rfl rfl tk3 | exact det_loadw rfl (by assumption) rfl tk3)) rfl ?_ -- r13.2 codes.go:40
            refine WS.det rfl rfl rfl (det_callB rfl rfl ent88 (fun u hu => wheel_c _ _ _ u hL)) rfl ?_ -- r13.3 codes.go:40
            refine WS.det rfl rfl rfl (det_move rfl) rfl ?_ -- r13.4 codes.go:40
            refine WS.guardT rfl rfl rfl rfl (fun hg => (by first | exact det_loadb0 (j := 2) rfl rfl tk77 | exact det_loadbN (j := 2) rfl rfl (by rfl) tk77 | exact det_loadwN rfl (by assumption) (by rfl) tk77)) rfl ?_ -- r13.5 codes.go:40
            refine WS.guardT rfl rfl rfl rfl (fun hg => (by first | exact det_fieldAddr rfl fo36_2 | exact det_fieldAddrS rfl fo36_2)) rfl ?_ -- r13.6 codes.go:40
            refine WS.guardT rfl rfl rfl rfl (fun hg => (by first | exact det_loadb (j := 1) (ev_cond hg rfl) rfl rfl tk3 | exact det_loadw (ev_cond hg rfl) (by assumption) rfl tk3)) rfl ?_ -- r13.7 codes.go:40
            refine WS.guardT rfl rfl rfl rfl (fun hg => det_callB rfl (evs_cons (ev_cond hg rfl) (evs_cons (ev_cond hg rfl) evs_nil)) ent88 (fun u hu => wheel_c _ _ _ u hL)) rfl ?_ -- r13.8 codes.go:40
            refine WS.det rfl rfl rfl (det_pick_and rfl rfl rfl) rfl ?_ -- r13.9 codes.go:40
            refine WS.det rfl rfl rfl (det_move rfl) rfl ?_ -- r13.10 codes.go:40
            refine WS.guardT rfl rfl rfl rfl (fun hg => (by first | exact det_fieldAddr rfl fo36_1 | exact det_fieldAddrS rfl fo36_1)) rfl ?_ -- r13.11 codes.go:40
            refine WS.guardT rfl rfl rfl rfl (fun hg => (by first | exact det_loadb (j := 1) (ev_cond hg rfl) rfl rfl tk3 | exact det_loadw (ev_cond hg rfl) (by assumption) rfl tk3)) rfl ?_ -- r13.12 codes.go:40
            refine WS.guardT rfl rfl rfl rfl (fun hg => (by first | exact det_fieldAddr rfl fo36_2 | exact det_fieldAddrS rfl fo36_2)) rfl ?_ -- r13.13 codes.go:40
            refine WS.guardT rfl rfl rfl rfl (fun hg => (by first | exact det_loadb (j := 1) (ev_cond hg rfl) rfl rfl tk3 | exact det_loadw (ev_cond hg rfl) (by assumption) rfl tk3)) rfl ?_ -- r13.14 codes.go:40
            refine WS.guardT rfl rfl rfl rfl (fun hg => det_ne (ev_cond hg rfl) (ev_cond hg rfl)) rfl ?_ -- r13.15 codes.go:40
            refine WS.det rfl rfl rfl (det_pick_and rfl rfl rfl) rfl ?_ -- r13.16 codes.go:40
            refine WS.det rfl rfl rfl (det_assign rfl) rfl ?_ -- r13.17 codes.go:40
            refine WS.done ?_
            refine QS.block_normal ?_
            exact QS.head (⟨(within c.a 0 (lw - 1) && within c.b 0 (lw - 1)) && decide (c.a ≠ c.b), c.a, c.b, 0, 0, none, 0, 0⟩) rfl rfl (clueB_3 hc3 none 0)
          · skip
            exact absurd hc3 hc4
        · skip
          refine CS.region ?_
          refine WS.det rfl rfl rfl (det_eq rfl rfl) rfl ?_ -- r11.0 codes.go:38
          refine WS.det rfl rfl rfl (det_assign rfl) rfl ?_ -- r11.1 codes.go:38
          refine WS.done ?_
          refine QS.then_code ?_
          refine CS.cond rfl (fun hc5 => ?_) (fun hc5 => ?_) <;> (try simp only [decide_eq_true_eq, decide_eq_false_iff_not, Bool.and_eq_true, Bool.or_eq_true, Bool.and_eq_false_iff, Bool.or_eq_false_iff, Bool.not_eq_true', Bool.not_eq_false', ne_eq, Decidable.not_not, Bool.not_true, Bool.not_false, bne_iff_ne, bne_eq_false_iff_eq, beq_iff_eq, beq_eq_false_iff_ne] at hc5)
          · skip
            refine CS.seq ?_
            refine CS.drawnBut 0 (k := 8) mixed rfl rfl rfl ?_
            refine AS.take 0 rfl (by kernel_rfl) (by kernel_rfl) (by kernel_rfl) rfl rfl ((by first | exact det_fieldAddr rfl fo36_1 | exact det_fieldAddrS rfl fo36_1)) rfl rfl ?_ -- r12.0 codes.go:39
            refine AS.take 1 rfl (by kernel_rfl) (by kernel_rfl) (by kernel_rfl) rfl rfl ((by first | exact det_loadb (j := 0) rfl rfl rfl tk3 | exact det_loadw rfl (by assumption) rfl tk3)) rfl rfl ?_ -- r12.1 codes.go:39
            refine AS.take 2 rfl (by kernel_rfl) (by kernel_rfl) (by kernel_rfl) rfl rfl ((by first | exact det_fieldAddr rfl fo36_2 | exact det_fieldAddrS rfl fo36_2)) rfl rfl ?_ -- r12.2 codes.go:39
            refine AS.take 3 rfl (by kernel_rfl) (by kernel_rfl) (by kernel_rfl) rfl rfl ((by first | exact det_loadb (j := 0) rfl rfl rfl tk3 | exact det_loadw rfl (by assumption) rfl tk3)) rfl rfl ?_ -- r12.3 codes.go:39
            refine AS.take 4 rfl (by kernel_rfl) (by kernel_rfl) (by kernel_rfl) rfl rfl ((by first | exact det_fieldAddr rfl fo36_1 | exact det_fieldAddrS rfl fo36_1)) rfl rfl ?_ -- r12.4 codes.go:39
            refine AS.one (i := 5) (by kernel_rfl) rfl (by first | exact fun _ h => h | exact fun _ h => h.sub (by repeat first | exact List.Sublist.refl _ | apply List.Sublist.cons_cons | apply List.Sublist.cons)) rfl ?_
            first | refine WS.store (j := 0) rfl rfl (by first | decide | omega | (simp; done) | (simp; omega)) rfl rfl tk3 rfl rfl ?_ | refine WS.store (j := 0) rfl rfl (by first | decide | omega | (simp; done) | (simp; omega)) rfl rfl tk3 (lset_eq _ _ _) rfl ?_ -- r12.5 codes.go:39
            refine WS.done ?_
            refine QS.then_AS ?_
            refine AS.take 6 rfl (by kernel_rfl) (by kernel_rfl) (by kernel_rfl) rfl rfl ((by first | exact det_fieldAddr rfl fo36_2 | exact det_fieldAddrS rfl fo36_2)) rfl rfl ?_ -- r12.6 codes.go:39
            refine AS.one (i := 7) (by kernel_rfl) rfl (by first | exact fun _ h => h | exact fun _ h => h.sub (by repeat first | exact List.Sublist.refl _ | apply List.Sublist.cons_cons | apply List.Sublist.cons)) rfl ?_
            first | refine WS.store (j := 0) rfl rfl (by first | decide | omega | (simp; done) | (simp; omega)) rfl rfl tk3 rfl rfl ?_ | refine WS.store (j := 0) rfl rfl (by first | decide | omega | (simp; done) | (simp; omega)) rfl rfl tk3 (lset_eq _ _ _) rfl ?_ -- r12.7 codes.go:39
            refine WS.done ?_
            refine QS.then_AS ?_
            refine AS.done (by kernel_rfl) (by first | exact fun _ h => h | exact fun _ h => h.sub (by repeat first | exact List.Sublist.refl _ | apply List.Sublist.cons_cons | apply List.Sublist.cons)) ?_
            refine QS.then_code ?_
            refine CS.region ?_
            refine WS.det rfl rfl rfl ((by first | exact det_loadb0 (j := 2) rfl rfl tk77 | exact det_loadbN (j := 2) rfl rfl (by rfl) tk77 | exact det_loadwN rfl (by assumption) (by rfl) tk77)) rfl ?_ -- r13.0 codes.go:40
            refine WS.det rfl rfl rfl ((by first | exact det_fieldAddr rfl fo36_1 | exact det_fieldAddrS rfl fo36_1)) rfl ?_ -- r13.1 codes.go:40
            refine WS.det rfl rfl rfl ((by first | exact det_loadb (j := 1) rfl rfl rfl tk3 | exact det_loadw rfl (by assumption) rfl tk3)) rfl ?_ -- r13.2 codes.go:40
            refine WS.det rfl rfl rfl (det_callB rfl rfl ent88 (fun u hu => wheel_c _ _ _ u hL)) rfl ?_ -- r13.3 codes.go:40
            refine WS.det rfl rfl rfl (det_move rfl) rfl ?_ -- r13.4 codes.go:40
            refine WS.guardT rfl rfl rfl rfl (fun hg => (by first | exact det_loadb0 (j := 2) rfl rfl tk77 | exact det_loadbN (j := 2) rfl rfl (by rfl) tk77 | exact det_loadwN rfl (by assumption) (by rfl) tk77)) rfl ?_ -- r13.5 codes.go:40
            refine WS.guardT rfl rfl rfl rfl (fun hg => (by first | exact det_fieldAddr rfl fo36_2 | exact det_fieldAddrS rfl fo36_2)) rfl ?_ -- r13.6 codes.go:40
            refine WS.guardT rfl rfl rfl rfl (fun hg => (by first | exact det_loadb (j := 1) (ev_cond hg rfl) rfl rfl tk3 | exact det_loadw (ev_cond hg rfl) (by assumption) rfl tk3)) rfl ?_ -- r13.7 codes.go:40
            refine WS.guardT rfl rfl rfl rfl (fun hg => det_callB rfl (evs_cons (ev_cond hg rfl) (evs_cons (ev_cond hg rfl) evs_nil)) ent88 (fun u hu => wheel_c _ _ _ u hL)) rfl ?_ -- r13.8 codes.go:40
            refine WS.det rfl rfl rfl (det_pick_and rfl rfl rfl) rfl ?_ -- r13.9 codes.go:40
            refine WS.det rfl rfl rfl (det_move rfl) rfl ?_ -- r13.10 codes.go:40
            refine WS.guardT rfl rfl rfl rfl (fun hg => (by first | exact det_fieldAddr rfl fo36_1 | exact det_fieldAddrS rfl fo36_1)) rfl ?_ -- r13.11 codes.go:40
            refine WS.guardT rfl rfl rfl rfl (fun hg => (by first | exact det_loadb (j := 1) (ev_cond hg rfl) rfl rfl tk3 | exact det_loadw (ev_cond hg rfl) (by assumption) rfl tk3)) rfl ?_ -- r13.12 codes.go:40
            refine WS.guardT rfl rfl rfl rfl (fun hg => (by first | exact det_fieldAddr rfl fo36_2 | exact det_fieldAddrS rfl fo36_2)) rfl ?_ -- r13.13 codes.go:40
            refine WS.guardT rfl rfl rfl rfl (fun hg => (by first | exact det_loadb (j := 1) (ev_cond hg rfl) rfl rfl tk3 | exact det_loadw (ev_cond hg rfl) (by assumption) rfl tk3)) rfl ?_ -- r13.14 codes.go:40
            refine WS.guardT rfl rfl rfl rfl (fun hg => det_ne (ev_cond hg rfl) (ev_cond hg rfl)) rfl ?_ -- r13.15 codes.go:40
            refine WS.det rfl rfl rfl (det_pick_and rfl rfl rfl) rfl ?_ -- r13.16 codes.go:40
            refine WS.det rfl rfl rfl (det_assign rfl) rfl ?_ -- r13.17 codes.go:40
            refine WS.done ?_
            refine QS.block_normal ?_
            exact QS.head (⟨(within c.a 0 (lw - 1) && within c.b 0 (lw - 1)) && decide (c.a ≠ c.b), c.a, c.b, 0, 0, none, 0, 0⟩) rfl rfl (clueB_4 hc5 none 0)
          · skip
            refine CS.seq ?_
            refine CS.region ?_
            refine WS.det rfl rfl rfl (det_eq rfl rfl) rfl ?_ -- r14.0 codes.go:41
            refine WS.det rfl rfl rfl (det_assign rfl) rfl ?_ -- r14.1 codes.go:41
            refine WS.done ?_
            refine QS.then_code ?_
            refine CS.cond rfl (fun hc6 => ?_) (fun hc6 => ?_) <;> (try simp only [decide_eq_true_eq, decide_eq_false_iff_not, Bool.and_eq_true, Bool.or_eq_true, Bool.and_eq_false_iff, Bool.or_eq_false_iff, Bool.not_eq_true', Bool.not_eq_false', ne_eq, Decidable.not_not, Bool.not_true, Bool.not_false, bne_iff_ne, bne_eq_false_iff_eq, beq_iff_eq, beq_eq_false_iff_ne] at hc6)
            · skip
              refine CS.seq ?_
              refine CS.drawnBut 0 (k := 8) mixed rfl rfl rfl ?_
              refine AS.take 0 rfl (by kernel_rfl) (by kernel_rfl) (by kernel_rfl) rfl rfl ((by first | exact det_fieldAddr rfl fo36_3 | exact det_fieldAddrS rfl fo36_3)) rfl rfl ?_ -- r15.0 codes.go:42
              refine AS.take 1 rfl (by kernel_rfl) (by kernel_rfl) (by kernel_rfl) rfl rfl ((by first | exact det_loadb (j := 0) rfl rfl rfl tk3 | exact det_loadw rfl (by assumption) rfl tk3)) rfl rfl ?_ -- r15.1 codes.go:42
              refine AS.take 2 rfl (by kernel_rfl) (by kernel_rfl) (by kernel_rfl) rfl rfl ((by first | exact det_fieldAddr rfl fo36_4 | exact det_fieldAddrS rfl fo36_4)) rfl rfl ?_ -- r15.2 codes.go:42
              refine AS.take 3 rfl (by kernel_rfl) (by kernel_rfl) (by kernel_rfl) rfl rfl ((by first | exact det_loadb (j := 0) rfl rfl rfl tk3 | exact det_loadw rfl (by assumption) rfl tk3)) rfl rfl ?_ -- r15.3 codes.go:42
              refine AS.take 4 rfl (by kernel_rfl) (by kernel_rfl) (by kernel_rfl) rfl rfl ((by first | exact det_fieldAddr rfl fo36_3 | exact det_fieldAddrS rfl fo36_3)) rfl rfl ?_ -- r15.4 codes.go:42
              refine AS.one (i := 5) (by kernel_rfl) rfl (by first | exact fun _ h => h | exact fun _ h => h.sub (by repeat first | exact List.Sublist.refl _ | apply List.Sublist.cons_cons | apply List.Sublist.cons)) rfl ?_
              first | refine WS.store (j := 0) rfl rfl (by first | decide | omega | (simp; done) | (simp; omega)) rfl rfl tk3 rfl rfl ?_ | refine WS.store (j := 0) rfl rfl (by first | decide | omega | (simp; done) | (simp; omega)) rfl rfl tk3 (lset_eq _ _ _) rfl ?_ -- r15.5 codes.go:42
              refine WS.done ?_
              refine QS.then_AS ?_
              refine AS.take 6 rfl (by kernel_rfl) (by kernel_rfl) (by kernel_rfl) rfl rfl ((by first | exact det_fieldAddr rfl fo36_4 | exact det_fieldAddrS rfl fo36_4)) rfl rfl ?_ -- r15.6 codes.go:42
              refine AS.one (i := 7) (by kernel_rfl) rfl (by first | exact fun _ h => h | exact fun _ h => h.sub (by repeat first | exact List.Sublist.refl _ | apply List.Sublist.cons_cons | apply List.Sublist.cons)) rfl ?_
              first | refine WS.store (j := 0) rfl rfl (by first | decide | omega | (simp; done) | (simp; omega)) rfl rfl tk3 rfl rfl ?_ | refine WS.store (j := 0) rfl rfl (by first | decide | omega | (simp; done) | (simp; omega)) rfl rfl tk3 (lset_eq _ _ _) rfl ?_ -- r15.7 codes.go:42
              refine WS.done ?_
              refine QS.then_AS ?_
              refine AS.done (by kernel_rfl) (by first | exact fun _ h => h | exact fun _ h => h.sub (by repeat first | exact List.Sublist.refl _ | apply List.Sublist.cons_cons | apply List.Sublist.cons)) ?_
              refine QS.then_code ?_
              refine CS.region ?_
              refine WS.det rfl rfl rfl ((by first | exact det_loadb0 (j := 2) rfl rfl tk77 | exact det_loadbN (j := 2) rfl rfl (by rfl) tk77 | exact det_loadwN rfl (by assumption) (by rfl) tk77)) rfl ?_ -- r16.0 codes.go:43
              refine WS.det rfl rfl rfl ((by first | exact det_fieldAddr rfl fo36_3 | exact det_fieldAddrS rfl fo36_3)) rfl ?_ -- r16.1 codes.go:43
              refine WS.det rfl rfl rfl ((by first | exact det_loadb (j := 1) rfl rfl rfl tk3 | exact det_loadw rfl (by assumption) rfl tk3)) rfl ?_ -- r16.2 codes.go:43
              refine WS.det rfl rfl rfl (det_callB rfl rfl ent89 (fun u hu => symbol_c _ _ _ u hL)) rfl ?_ -- r16.3 codes.go:43
              refine WS.det rfl rfl rfl (det_move rfl) rfl ?_ -- r16.4 codes.go:43
              refine WS.guardT rfl rfl rfl rfl (fun hg => (by first | exact det_fieldAddr rfl fo36_4 | exact det_fieldAddrS rfl fo36_4)) rfl ?_ -- r16.5 codes.go:43
              refine WS.guardT rfl rfl rfl rfl (fun hg => (by first | exact det_loadb (j := 1) (ev_cond hg rfl) rfl rfl tk3 | exact det_loadw (ev_cond hg rfl) (by assumption) rfl tk3)) rfl ?_ -- r16.6 codes.go:43
              refine WS.guardT rfl rfl rfl rfl (fun hg => (by first | exact det_fieldAddr rfl fo77_0 | exact det_fieldAddrS rfl fo77_0)) rfl ?_ -- r16.7 codes.go:43
              refine WS.guardT rfl rfl rfl rfl (fun hg => (by first | exact det_loadb (j := 2) (ev_cond hg rfl) rfl rfl tk3 | exact det_loadw (ev_cond hg rfl) (by assumption) rfl tk3)) rfl ?_ -- r16.8 codes.go:43
              refine WS.guardT rfl rfl rfl rfl (fun hg => det_callB rfl (evs_cons (ev_cond hg rfl) (evs_cons rfl (evs_cons (ev_cond hg rfl) evs_nil))) ent61 (fun u hu => within_c _ _ _ u)) rfl ?_ -- r16.9 codes.go:43
              refine WS.det rfl rfl rfl (det_pick_and rfl rfl rfl) rfl ?_ -- r16.10 codes.go:43
              refine WS.det rfl rfl rfl (det_assign rfl) rfl ?_ -- r16.11 codes.go:43
              refine WS.done ?_
              refine QS.block_normal ?_
              exact QS.head (⟨within c.n 0 (ls - 1) && within c.m 0 lw, 0, 0, c.n, c.m, none, 0, 0⟩) rfl rfl (clueB_5 hc6 none 0)
            · skip
              refine CS.seq ?_
              refine CS.region ?_
              refine WS.det rfl rfl rfl (det_eq rfl rfl) rfl ?_ -- r17.0 codes.go:44
              refine WS.det rfl rfl rfl (det_assign rfl) rfl ?_ -- r17.1 codes.go:44
              refine WS.done ?_
              refine QS.then_code ?_
              refine CS.cond rfl (fun hc7 => ?_) (fun hc7 => ?_) <;> (try simp only [decide_eq_true_eq, decide_eq_false_iff_not, Bool.and_eq_true, Bool.or_eq_true, Bool.and_eq_false_iff, Bool.or_eq_false_iff, Bool.not_eq_true', Bool.not_eq_false', ne_eq, Decidable.not_not, Bool.not_true, Bool.not_false, bne_iff_ne, bne_eq_false_iff_eq, beq_iff_eq, beq_eq_false_iff_ne] at hc7)
              · skip
                refine CS.seq ?_
                refine CS.drawnBut 0 (k := 12) mixed rfl rfl rfl ?_
                refine AS.take 0 rfl (by kernel_rfl) (by kernel_rfl) (by kernel_rfl) rfl rfl ((by first | exact det_fieldAddr rfl fo36_3 | exact det_fieldAddrS rfl fo36_3)) rfl rfl ?_ -- r18.0 codes.go:45
                refine AS.take 1 rfl (by kernel_rfl) (by kernel_rfl) (by kernel_rfl) rfl rfl ((by first | exact det_loadb (j := 0) rfl rfl rfl tk3 | exact det_loadw rfl (by assumption) rfl tk3)) rfl rfl ?_ -- r18.1 codes.go:45
                refine AS.take 2 rfl (by kernel_rfl) (by kernel_rfl) (by kernel_rfl) rfl rfl ((by first | exact det_fieldAddr rfl fo36_4 | exact det_fieldAddrS rfl fo36_4)) rfl rfl ?_ -- r18.2 codes.go:45
                refine AS.take 3 rfl (by kernel_rfl) (by kernel_rfl) (by kernel_rfl) rfl rfl ((by first | exact det_loadb (j := 0) rfl rfl rfl tk3 | exact det_loadw rfl (by assumption) rfl tk3)) rfl rfl ?_ -- r18.3 codes.go:45
                refine AS.take 4 rfl (by kernel_rfl) (by kernel_rfl) (by kernel_rfl) rfl rfl ((by first | exact det_fieldAddr rfl fo36_5 | exact det_fieldAddrS rfl fo36_5)) rfl rfl ?_ -- r18.4 codes.go:45
                refine AS.take 5 rfl (by kernel_rfl) (by kernel_rfl) (by kernel_rfl) rfl rfl ((by first | exact det_loadb (j := 0) rfl rfl rfl tk24 | exact det_loadw rfl (by assumption) rfl tk24)) rfl rfl ?_ -- r18.5 codes.go:45
                refine AS.take 6 rfl (by kernel_rfl) (by kernel_rfl) (by kernel_rfl) rfl rfl ((by first | exact det_fieldAddr rfl fo36_3 | exact det_fieldAddrS rfl fo36_3)) rfl rfl ?_ -- r18.6 codes.go:45
                refine AS.one (i := 7) (by kernel_rfl) rfl (by first | exact fun _ h => h | exact fun _ h => h.sub (by repeat first | exact List.Sublist.refl _ | apply List.Sublist.cons_cons | apply List.Sublist.cons)) rfl ?_
                first | refine WS.store (j := 0) rfl rfl (by first | decide | omega | (simp; done) | (simp; omega)) rfl rfl tk3 rfl rfl ?_ | refine WS.store (j := 0) rfl rfl (by first | decide | omega | (simp; done) | (simp; omega)) rfl rfl tk3 (lset_eq _ _ _) rfl ?_ -- r18.7 codes.go:45
                refine WS.done ?_
                refine QS.then_AS ?_
                refine AS.take 8 rfl (by kernel_rfl) (by kernel_rfl) (by kernel_rfl) rfl rfl ((by first | exact det_fieldAddr rfl fo36_4 | exact det_fieldAddrS rfl fo36_4)) rfl rfl ?_ -- r18.8 codes.go:45
                refine AS.one (i := 9) (by kernel_rfl) rfl (by first | exact fun _ h => h | exact fun _ h => h.sub (by repeat first | exact List.Sublist.refl _ | apply List.Sublist.cons_cons | apply List.Sublist.cons)) rfl ?_
                first | refine WS.store (j := 0) rfl rfl (by first | decide | omega | (simp; done) | (simp; omega)) rfl rfl tk3 rfl rfl ?_ | refine WS.store (j := 0) rfl rfl (by first | decide | omega | (simp; done) | (simp; omega)) rfl rfl tk3 (lset_eq _ _ _) rfl ?_ -- r18.9 codes.go:45
                refine WS.done ?_
                refine QS.then_AS ?_
                refine AS.take 10 rfl (by kernel_rfl) (by kernel_rfl) (by kernel_rfl) rfl rfl ((by first | exact det_fieldAddr rfl fo36_5 | exact det_fieldAddrS rfl fo36_5)) rfl rfl ?_ -- r18.10 codes.go:45
                refine AS.one (i := 11) (by kernel_rfl) rfl (by first | exact fun _ h => h | exact fun _ h => h.sub (by repeat first | exact List.Sublist.refl _ | apply List.Sublist.cons_cons | apply List.Sublist.cons)) rfl ?_
                first | refine WS.store (j := 0) rfl rfl (by first | decide | omega | (simp; done) | (simp; omega)) rfl rfl tk24 rfl rfl ?_ | refine WS.store (j := 0) rfl rfl (by first | decide | omega | (simp; done) | (simp; omega)) rfl rfl tk24 (lset_eq _ _ _) rfl ?_ -- r18.11 codes.go:45
                refine WS.done ?_
                refine QS.then_AS ?_
                refine AS.done (by kernel_rfl) (by first | exact fun _ h => h | exact fun _ h => h.sub (by repeat first | exact List.Sublist.refl _ | apply List.Sublist.cons_cons | apply List.Sublist.cons)) ?_
                refine QS.then_code ?_
                refine CS.region ?_
                refine WS.det rfl rfl rfl ((by first | exact det_fieldAddr rfl fo36_3 | exact det_fieldAddrS rfl fo36_3)) rfl ?_ -- r19.0 codes.go:46
                refine WS.det rfl rfl rfl ((by first | exact det_loadb (j := 1) rfl rfl rfl tk3 | exact det_loadw rfl (by assumption) rfl tk3)) rfl ?_ -- r19.1 codes.go:46
                refine WS.det rfl rfl rfl ((by first | exact det_fieldAddr rfl fo77_0 | exact det_fieldAddrS rfl fo77_0)) rfl ?_ -- r19.2 codes.go:46
                refine WS.det rfl rfl rfl ((by first | exact det_loadb (j := 2) rfl rfl rfl tk3 | exact det_loadw rfl (by assumption) rfl tk3)) rfl ?_ -- r19.3 codes.go:46
                refine WS.det rfl rfl rfl (det_callB rfl rfl ent61 (fun u hu => within_c _ _ _ u)) rfl ?_ -- r19.4 codes.go:46
                refine WS.det rfl rfl rfl (det_move rfl) rfl ?_ -- r19.5 codes.go:46
                refine WS.guardT rfl rfl rfl rfl (fun hg => (by first | exact det_fieldAddr rfl fo36_4 | exact det_fieldAddrS rfl fo36_4)) rfl ?_ -- r19.6 codes.go:46
                refine WS.guardT rfl rfl rfl rfl (fun hg => (by first | exact det_loadb (j := 1) (ev_cond hg rfl) rfl rfl tk3 | exact det_loadw (ev_cond hg rfl) (by assumption) rfl tk3)) rfl ?_ -- r19.7 codes.go:46
                refine WS.guardT rfl rfl rfl rfl (fun hg => (by first | exact det_fieldAddr rfl fo77_0 | exact det_fieldAddrS rfl fo77_0)) rfl ?_ -- r19.8 codes.go:46
                refine WS.guardT rfl rfl rfl rfl (fun hg => (by first | exact det_loadb (j := 2) (ev_cond hg rfl) rfl rfl tk3 | exact det_loadw (ev_cond hg rfl) (by assumption) rfl tk3)) rfl ?_ -- r19.9 codes.go:46
                refine WS.guardT rfl rfl rfl rfl (fun hg => det_callB rfl (evs_cons (ev_cond hg rfl) (evs_cons rfl (evs_cons (ev_cond hg rfl) evs_nil))) ent61 (fun u hu => within_c _ _ _ u)) rfl ?_ -- r19.10 codes.go:46
                refine WS.det rfl rfl rfl (det_pick_and rfl rfl rfl) rfl ?_ -- r19.11 codes.go:46
                refine WS.det rfl rfl rfl (det_move rfl) rfl ?_ -- r19.12 codes.go:46
                refine WS.guardT rfl rfl rfl rfl (fun hg => (by first | exact det_loadb0 (j := 2) rfl rfl tk77 | exact det_loadbN (j := 2) rfl rfl (by rfl) tk77 | exact det_loadwN rfl (by assumption) (by rfl) tk77)) rfl ?_ -- r19.13 codes.go:46
                refine WS.guardT rfl rfl rfl rfl (fun hg => (by first | exact det_fieldAddr rfl fo36_5 | exact det_fieldAddrS rfl fo36_5)) rfl ?_ -- r19.14 codes.go:46
                refine WS.guardT rfl rfl rfl rfl (fun hg => (by first | exact det_loadb (j := 1) (ev_cond hg rfl) rfl rfl tk24 | exact det_loadw (ev_cond hg rfl) (by assumption) rfl tk24)) rfl ?_ -- r19.15 codes.go:46
                refine WS.guardT rfl rfl rfl rfl (fun hg => det_callB rfl (evs_cons (ev_cond hg rfl) (evs_cons (ev_cond hg rfl) evs_nil)) ent82 (fun u hu => code_c _ _ _ _ u hL (h1.st hu))) rfl ?_ -- r19.16 codes.go:46
                refine WS.det rfl rfl rfl (det_pick_and rfl rfl rfl) rfl ?_ -- r19.17 codes.go:46
                refine WS.det rfl rfl rfl (det_assign rfl) rfl ?_ -- r19.18 codes.go:46
                refine WS.done ?_
                refine QS.block_normal ?_
                exact QS.head (⟨(within c.n 0 lw && within c.m 0 lw) && codeB lw ls c.g, 0, 0, c.n, c.m, p, c.g.length, cap⟩) rfl rfl (clueB_6 hc7 p cap)
              · skip
                refine CS.seq ?_
                refine CS.region ?_
                refine WS.det rfl rfl rfl (det_eq rfl rfl) rfl ?_ -- r20.0 codes.go:47
                refine WS.det rfl rfl rfl (det_assign rfl) rfl ?_ -- r20.1 codes.go:47
                refine WS.done ?_
                refine QS.then_code ?_
                refine CS.cond rfl (fun hc8 => ?_) (fun hc8 => ?_) <;> (try simp only [decide_eq_true_eq, decide_eq_false_iff_not, Bool.and_eq_true, Bool.or_eq_true, Bool.and_eq_false_iff, Bool.or_eq_false_iff, Bool.not_eq_true', Bool.not_eq_false', ne_eq, Decidable.not_not, Bool.not_true, Bool.not_false, bne_iff_ne, bne_eq_false_iff_eq, beq_iff_eq, beq_eq_false_iff_ne] at hc8)
                · skip
                  refine CS.seq ?_
                  refine CS.drawnBut 0 (k := 12) mixed rfl rfl rfl ?_
                  refine AS.take 0 rfl (by kernel_rfl) (by kernel_rfl) (by kernel_rfl) rfl rfl ((by first | exact det_fieldAddr rfl fo36_1 | exact det_fieldAddrS rfl fo36_1)) rfl rfl ?_ -- r21.0 codes.go:48
                  refine AS.take 1 rfl (by kernel_rfl) (by kernel_rfl) (by kernel_rfl) rfl rfl ((by first | exact det_loadb (j := 0) rfl rfl rfl tk3 | exact det_loadw rfl (by assumption) rfl tk3)) rfl rfl ?_ -- r21.1 codes.go:48
                  refine AS.take 2 rfl (by kernel_rfl) (by kernel_rfl) (by kernel_rfl) rfl rfl ((by first | exact det_fieldAddr rfl fo36_3 | exact det_fieldAddrS rfl fo36_3)) rfl rfl ?_ -- r21.2 codes.go:48
                  refine AS.take 3 rfl (by kernel_rfl) (by kernel_rfl) (by kernel_rfl) rfl rfl ((by first | exact det_loadb (j := 0) rfl rfl rfl tk3 | exact det_loadw rfl (by assumption) rfl tk3)) rfl rfl ?_ -- r21.3 codes.go:48
                  refine AS.take 4 rfl (by kernel_rfl) (by kernel_rfl) (by kernel_rfl) rfl rfl ((by first | exact det_fieldAddr rfl fo36_4 | exact det_fieldAddrS rfl fo36_4)) rfl rfl ?_ -- r21.4 codes.go:48
                  refine AS.take 5 rfl (by kernel_rfl) (by kernel_rfl) (by kernel_rfl) rfl rfl ((by first | exact det_loadb (j := 0) rfl rfl rfl tk3 | exact det_loadw rfl (by assumption) rfl tk3)) rfl rfl ?_ -- r21.5 codes.go:48
                  refine AS.take 6 rfl (by kernel_rfl) (by kernel_rfl) (by kernel_rfl) rfl rfl ((by first | exact det_fieldAddr rfl fo36_1 | exact det_fieldAddrS rfl fo36_1)) rfl rfl ?_ -- r21.6 codes.go:48
                  refine AS.one (i := 7) (by kernel_rfl) rfl (by first | exact fun _ h => h | exact fun _ h => h.sub (by repeat first | exact List.Sublist.refl _ | apply List.Sublist.cons_cons | apply List.Sublist.cons)) rfl ?_
                  first | refine WS.store (j := 0) rfl rfl (by first | decide | omega | (simp; done) | (simp; omega)) rfl rfl tk3 rfl rfl ?_ | refine WS.store (j := 0) rfl rfl (by first | decide | omega | (simp; done) | (simp; omega)) rfl rfl tk3 (lset_eq _ _ _) rfl ?_ -- r21.7 codes.go:48
                  refine WS.done ?_
                  refine QS.then_AS ?_
                  refine AS.take 8 rfl (by kernel_rfl) (by kernel_rfl) (by kernel_rfl) rfl rfl ((by first | exact det_fieldAddr rfl fo36_3 | exact det_fieldAddrS rfl fo36_3)) rfl rfl ?_ -- r21.8 codes.go:48
                  refine AS.one (i := 9) (by kernel_rfl) rfl (by first | exact fun _ h => h | exact fun _ h => h.sub (by repeat first | exact List.Sublist.refl _ | apply List.Sublist.cons_cons | apply List.Sublist.cons)) rfl ?_
                  first | refine WS.store (j := 0) rfl rfl (by first | decide | omega | (simp; done) | (simp; omega)) rfl rfl tk3 rfl rfl ?_ | refine WS.store (j := 0) rfl rfl (by first | decide | omega | (simp; done) | (simp; omega)) rfl rfl tk3 (lset_eq _ _ _) rfl ?_ -- r21.9 codes.go:48
                  refine WS.done ?_
                  refine QS.then_AS ?_
                  refine AS.take 10 rfl (by kernel_rfl) (by kernel_rfl) (by kernel_rfl) rfl rfl ((by first | exact det_fieldAddr rfl fo36_4 | exact det_fieldAddrS rfl fo36_4)) rfl rfl ?_ -- r21.10 codes.go:48
                  refine AS.one (i := 11) (by kernel_rfl) rfl (by first | exact fun _ h => h | exact fun _ h => h.sub (by repeat first | exact List.Sublist.refl _ | apply List.Sublist.cons_cons | apply List.Sublist.cons)) rfl ?_
                  first | refine WS.store (j := 0) rfl rfl (by first | decide | omega | (simp; done) | (simp; omega)) rfl rfl tk3 rfl rfl ?_ | refine WS.store (j := 0) rfl rfl (by first | decide | omega | (simp; done) | (simp; omega)) rfl rfl tk3 (lset_eq _ _ _) rfl ?_ -- r21.11 codes.go:48
                  refine WS.done ?_
                  refine QS.then_AS ?_
                  refine AS.done (by kernel_rfl) (by first | exact fun _ h => h | exact fun _ h => h.sub (by repeat first | exact List.Sublist.refl _ | apply List.Sublist.cons_cons | apply List.Sublist.cons)) ?_
                  refine QS.then_code ?_
                  refine CS.region ?_
                  refine WS.det rfl rfl rfl ((by first | exact det_loadb0 (j := 2) rfl rfl tk77 | exact det_loadbN (j := 2) rfl rfl (by rfl) tk77 | exact det_loadwN rfl (by assumption) (by rfl) tk77)) rfl ?_ -- r22.0 codes.go:49
                  refine WS.det rfl rfl rfl ((by first | exact det_fieldAddr rfl fo36_1 | exact det_fieldAddrS rfl fo36_1)) rfl ?_ -- r22.1 codes.go:49
                  refine WS.det rfl rfl rfl ((by first | exact det_loadb (j := 1) rfl rfl rfl tk3 | exact det_loadw rfl (by assumption) rfl tk3)) rfl ?_ -- r22.2 codes.go:49
                  refine WS.det rfl rfl rfl (det_callB rfl rfl ent88 (fun u hu => wheel_c _ _ _ u hL)) rfl ?_ -- r22.3 codes.go:49
                  refine WS.det rfl rfl rfl (det_move rfl) rfl ?_ -- r22.4 codes.go:49
                  refine WS.guardT rfl rfl rfl rfl (fun hg => (by first | exact det_fieldAddr rfl fo36_3 | exact det_fieldAddrS rfl fo36_3)) rfl ?_ -- r22.5 codes.go:49
                  refine WS.guardT rfl rfl rfl rfl (fun hg => (by first | exact det_loadb (j := 1) (ev_cond hg rfl) rfl rfl tk3 | exact det_loadw (ev_cond hg rfl) (by assumption) rfl tk3)) rfl ?_ -- r22.6 codes.go:49
                  refine WS.guardT rfl rfl rfl rfl (fun hg => det_callB rfl (evs_cons (ev_cond hg rfl) (evs_cons rfl (evs_cons rfl evs_nil))) ent61 (fun u hu => within_c _ _ _ u)) rfl ?_ -- r22.7 codes.go:49
                  refine WS.det rfl rfl rfl (det_pick_and rfl rfl rfl) rfl ?_ -- r22.8 codes.go:49
                  refine WS.det rfl rfl rfl (det_move rfl) rfl ?_ -- r22.9 codes.go:49
                  refine WS.guardT rfl rfl rfl rfl (fun hg => (by first | exact det_fieldAddr rfl fo36_4 | exact det_fieldAddrS rfl fo36_4)) rfl ?_ -- r22.10 codes.go:49
                  refine WS.guardT rfl rfl rfl rfl (fun hg => (by first | exact det_loadb (j := 1) (ev_cond hg rfl) rfl rfl tk3 | exact det_loadw (ev_cond hg rfl) (by assumption) rfl tk3)) rfl ?_ -- r22.11 codes.go:49
                  refine WS.guardT rfl rfl rfl rfl (fun hg => (by first | exact det_fieldAddr rfl fo36_3 | exact det_fieldAddrS rfl fo36_3)) rfl ?_ -- r22.12 codes.go:49
                  refine WS.guardT rfl rfl rfl rfl (fun hg => (by first | exact det_loadb (j := 1) (ev_cond hg rfl) rfl rfl tk3 | exact det_loadw (ev_cond hg rfl) (by assumption) rfl tk3)) rfl ?_ -- r22.13 codes.go:49
                  refine WS.guardT rfl rfl rfl rfl (fun hg => det_sub (ev_cond hg rfl) rfl (by simp [within] at hg; omega)) rfl ?_ -- r22.14 codes.go:49
                  refine WS.guardT rfl rfl rfl rfl (fun hg => det_callB rfl (evs_cons (ev_cond hg rfl) (evs_cons rfl (evs_cons (ev_cond hg rfl) evs_nil))) ent61 (fun u hu => within_c _ _ _ u)) rfl ?_ -- r22.15 codes.go:49
                  refine WS.det rfl rfl rfl (det_pick_and rfl rfl rfl) rfl ?_ -- r22.16 codes.go:49
                  refine WS.det rfl rfl rfl (det_assign rfl) rfl ?_ -- r22.17 codes.go:49
                  refine WS.done ?_
                  refine QS.block_normal ?_
                  exact QS.head (⟨(within c.a 0 (lw - 1) && within c.n 2 10) && within c.m 0 (c.n - 1), c.a, 0, c.n, c.m, none, 0, 0⟩) rfl rfl (clueB_7 hc8 none 0)
                · skip
                  refine CS.skip ?_
                  refine QS.block_normal ?_
                  exact QS.head (⟨false, 0, 0, 0, 0, none, 0, 0⟩) rfl rfl (clueB_no hc1 hc2 hc3 hc5 hc6 hc7 hc8 _ _ _ _ _ _ _)
  · intro s t hs
    refine CS.seq ?_
    refine CS.region ?_
    refine WS.det rfl rfl rfl (det_move rfl) rfl ?_ -- r23.0 codes.go:51
    refine WS.det rfl rfl rfl (det_move rfl) rfl ?_ -- r23.1 codes.go:51
    refine WS.guardT rfl rfl rfl rfl (fun hg => (by first | exact det_fieldAddr rfl fo36_1 | exact det_fieldAddrS rfl fo36_1)) rfl ?_ -- r23.2 codes.go:51
    refine WS.guardT rfl rfl rfl rfl (fun hg => (by first | exact det_loadb (j := 1) (ev_cond hg rfl) rfl rfl tk3 | exact det_loadw (ev_cond hg rfl) (by assumption) rfl tk3)) rfl ?_ -- r23.3 codes.go:51
    refine WS.guardT rfl rfl rfl rfl (fun hg => (by first | exact det_fieldAddr rfl fo36_1 | exact det_fieldAddrS rfl fo36_1)) rfl ?_ -- r23.4 codes.go:51
    refine WS.guardT rfl rfl rfl rfl (fun hg => (by first | exact det_loadb (j := 0) (ev_cond hg rfl) rfl rfl tk3 | exact det_loadw (ev_cond hg rfl) (by assumption) rfl tk3)) rfl ?_ -- r23.5 codes.go:51
    refine WS.guardT rfl rfl rfl rfl (fun hg => det_eq (ev_cond hg rfl) (ev_cond hg rfl)) rfl ?_ -- r23.6 codes.go:51
    refine WS.det rfl rfl rfl (det_pick_and rfl rfl rfl) rfl ?_ -- r23.7 codes.go:51
    refine WS.det rfl rfl rfl (det_move rfl) rfl ?_ -- r23.8 codes.go:51
    refine WS.guardT rfl rfl rfl rfl (fun hg => (by first | exact det_fieldAddr rfl fo36_2 | exact det_fieldAddrS rfl fo36_2)) rfl ?_ -- r23.9 codes.go:51
    refine WS.guardT rfl rfl rfl rfl (fun hg => (by first | exact det_loadb (j := 1) (ev_cond hg rfl) rfl rfl tk3 | exact det_loadw (ev_cond hg rfl) (by assumption) rfl tk3)) rfl ?_ -- r23.10 codes.go:51
    refine WS.guardT rfl rfl rfl rfl (fun hg => (by first | exact det_fieldAddr rfl fo36_2 | exact det_fieldAddrS rfl fo36_2)) rfl ?_ -- r23.11 codes.go:51
    refine WS.guardT rfl rfl rfl rfl (fun hg => (by first | exact det_loadb (j := 0) (ev_cond hg rfl) rfl rfl tk3 | exact det_loadw (ev_cond hg rfl) (by assumption) rfl tk3)) rfl ?_ -- r23.12 codes.go:51
    refine WS.guardT rfl rfl rfl rfl (fun hg => det_eq (ev_cond hg rfl) (ev_cond hg rfl)) rfl ?_ -- r23.13 codes.go:51
    refine WS.det rfl rfl rfl (det_pick_and rfl rfl rfl) rfl ?_ -- r23.14 codes.go:51
    refine WS.det rfl rfl rfl (det_move rfl) rfl ?_ -- r23.15 codes.go:51
    refine WS.guardT rfl rfl rfl rfl (fun hg => (by first | exact det_fieldAddr rfl fo36_3 | exact det_fieldAddrS rfl fo36_3)) rfl ?_ -- r23.16 codes.go:51
    refine WS.guardT rfl rfl rfl rfl (fun hg => (by first | exact det_loadb (j := 1) (ev_cond hg rfl) rfl rfl tk3 | exact det_loadw (ev_cond hg rfl) (by assumption) rfl tk3)) rfl ?_ -- r23.17 codes.go:51
    refine WS.guardT rfl rfl rfl rfl (fun hg => (by first | exact det_fieldAddr rfl fo36_3 | exact det_fieldAddrS rfl fo36_3)) rfl ?_ -- r23.18 codes.go:51
    refine WS.guardT rfl rfl rfl rfl (fun hg => (by first | exact det_loadb (j := 0) (ev_cond hg rfl) rfl rfl tk3 | exact det_loadw (ev_cond hg rfl) (by assumption) rfl tk3)) rfl ?_ -- r23.19 codes.go:51
    refine WS.guardT rfl rfl rfl rfl (fun hg => det_eq (ev_cond hg rfl) (ev_cond hg rfl)) rfl ?_ -- r23.20 codes.go:51
    refine WS.det rfl rfl rfl (det_pick_and rfl rfl rfl) rfl ?_ -- r23.21 codes.go:51
    refine WS.det rfl rfl rfl (det_move rfl) rfl ?_ -- r23.22 codes.go:51
    refine WS.guardT rfl rfl rfl rfl (fun hg => (by first | exact det_fieldAddr rfl fo36_4 | exact det_fieldAddrS rfl fo36_4)) rfl ?_ -- r23.23 codes.go:51
    refine WS.guardT rfl rfl rfl rfl (fun hg => (by first | exact det_loadb (j := 1) (ev_cond hg rfl) rfl rfl tk3 | exact det_loadw (ev_cond hg rfl) (by assumption) rfl tk3)) rfl ?_ -- r23.24 codes.go:51
    refine WS.guardT rfl rfl rfl rfl (fun hg => (by first | exact det_fieldAddr rfl fo36_4 | exact det_fieldAddrS rfl fo36_4)) rfl ?_ -- r23.25 codes.go:51
    refine WS.guardT rfl rfl rfl rfl (fun hg => (by first | exact det_loadb (j := 0) (ev_cond hg rfl) rfl rfl tk3 | exact det_loadw (ev_cond hg rfl) (by assumption) rfl tk3)) rfl ?_ -- r23.26 codes.go:51
    refine WS.guardT rfl rfl rfl rfl (fun hg => det_eq (ev_cond hg rfl) (ev_cond hg rfl)) rfl ?_ -- r23.27 codes.go:51
    refine WS.det rfl rfl rfl (det_pick_and rfl rfl rfl) rfl ?_ -- r23.28 codes.go:51
    refine WS.det rfl rfl rfl (det_move rfl) rfl ?_ -- r23.29 codes.go:51
    refine WS.guardT rfl rfl rfl rfl (fun hg => (by first | exact det_fieldAddr rfl fo36_5 | exact det_fieldAddrS rfl fo36_5)) rfl ?_ -- r23.30 codes.go:51
    refine WS.guardT rfl rfl rfl rfl (fun hg => (by first | exact det_loadb (j := 1) (ev_cond hg rfl) rfl rfl tk24 | exact det_loadw (ev_cond hg rfl) (by assumption) rfl tk24)) rfl ?_ -- r23.31 codes.go:51
    refine WS.guardT rfl rfl rfl rfl (fun hg => (by first | exact det_lenS sl24 (ev_cond hg rfl) (by assumption) | exact det_lenS sl24 (ev_cond hg rfl) (by first | exact SlL.sp (by assumption) | exact ClS.sp (by assumption)) | exact det_lenO sl24 (ev_cond hg rfl) | exact det_lenV sl24 (ev_cond hg rfl) ⟨_, _, rfl⟩)) rfl ?_ -- r23.32 codes.go:51
    refine WS.guardT rfl rfl rfl rfl (fun hg => (by first | exact det_fieldAddr rfl fo36_5 | exact det_fieldAddrS rfl fo36_5)) rfl ?_ -- r23.33 codes.go:51
    refine WS.guardT rfl rfl rfl rfl (fun hg => (by first | exact det_loadb (j := 0) (ev_cond hg rfl) rfl rfl tk24 | exact det_loadw (ev_cond hg rfl) (by assumption) rfl tk24)) rfl ?_ -- r23.34 codes.go:51
    refine WS.guardT rfl rfl rfl rfl (fun hg => (by first | exact det_lenS sl24 (ev_cond hg rfl) (by assumption) | exact det_lenS sl24 (ev_cond hg rfl) (by first | exact SlL.sp (by assumption) | exact ClS.sp (by assumption)) | exact det_lenO sl24 (ev_cond hg rfl) | exact det_lenV sl24 (ev_cond hg rfl) ⟨_, _, rfl⟩)) rfl ?_ -- r23.35 codes.go:51
    refine WS.guardT rfl rfl rfl rfl (fun hg => det_eq (ev_cond hg rfl) (ev_cond hg rfl)) rfl ?_ -- r23.36 codes.go:51
    refine WS.det rfl rfl rfl (det_pick_and rfl rfl rfl) rfl ?_ -- r23.37 codes.go:51
    refine WS.det rfl rfl rfl (det_assign rfl) rfl ?_ -- r23.38 codes.go:51
    refine WS.done ?_
    refine QS.then_code ?_
    refine CS.ret ?_
    exact out1 rfl rfl (retBe (by rw [← hs]; rfl)) -- ret 1

end Go.Proofs.Ytldagbcceefcdaa
