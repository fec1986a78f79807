/- Contracts of functions, printed by a program of the prover (gen.py). -/
import Derived.Test.YtldagbcceefcdaaC19
namespace Go.Proofs.Ytldagbcceefcdaa
open Go.RowKit Go.Proofs
set_option maxRecDepth 100000
set_option linter.unusedVariables false
set_option linter.unusedSimpArgs false

theorem choose0_c (lw ls : Int) (cs : List Clue) (gs : List Value) (cv : Value) (xs : List Int) (xv : Value) (w : World) (hk : ClS w cv cs gs) (h2 : SlI w xv xs) (hL : lockB lw ls = true) (hU : ∀ c ∈ cs, Use lw ls c xs) (ks : List Nat) (bv : Value) (h1 : SlI w bv (ks.map Int.ofNat)) (hks : ∀ k ∈ ks, k < cs.length) (i0 : Int) (hi0 : 0 ≤ i0 ∧ i0 ≤ cs.length) (hm : ks.length ≤ 1000) :
    Calls Try.prog 79 #[.agg #[.int .i64 lw, .int .i64 ls], cv, xv, bv, .int .i64 i0, .int .i64 0] w (RetB w (.tuple #[bv, .bool (decide ((readL lw ls (pickN cs ks)).length = 1))])) := by
  have hkl := hk.le
  have hpc : ∀ c ∈ pickN cs ks, clueB lw ls c = true := fun c hc => (hU c (pickN_mem hks hc)).cl
  refine enter Try.func79 rfl rfl (Nat.le_of_ble_eq_true rfl) ?_
  refine CS.seq ?_
  refine CS.region ?_
  refine WS.box rfl rfl (fun _ => rfl) ?_; intro b6 hb6 -- r0.0 ref.go:368
  refine WS.det rfl rfl rfl (det_assign rfl) rfl ?_ -- r0.1 ref.go:368
  refine WS.det rfl rfl rfl (det_assign rfl) rfl ?_ -- r0.2 ref.go:368
  refine WS.done ?_
  refine QS.then_code ?_
  refine CS.seq ?_
  refine CS.seq ?_
  refine CS.region ?_
  refine WS.det rfl rfl rfl (det_move rfl) rfl ?_ -- r1.0 ref.go:369
  refine WS.det rfl rfl rfl (det_eq rfl rfl) rfl ?_ -- r1.1 ref.go:369
  refine WS.done ?_
  refine QS.then_code ?_
  refine CS.cond rfl (fun hc1 => ?_) (fun hc1 => ?_) <;> (try simp only [decide_eq_true_eq, decide_eq_false_iff_not, Bool.and_eq_true, Bool.or_eq_true, Bool.and_eq_false_iff, Bool.or_eq_false_iff, Bool.not_eq_true', Bool.not_eq_false', ne_eq, Decidable.not_not, Bool.not_true, Bool.not_false, bne_iff_ne, bne_eq_false_iff_eq, beq_iff_eq, beq_eq_false_iff_ne] at hc1)
  · skip
    refine CS.seq ?_
    refine CS.drawnAll (k := 10) mixed rfl rfl ?_
    refine AS.take 0 rfl (by kernel_rfl) (by kernel_rfl) (by kernel_rfl) rfl rfl (det_move rfl) rfl rfl ?_ -- r2.0 ref.go:370
    refine AS.take 1 rfl (by kernel_rfl) (by kernel_rfl) (by kernel_rfl) rfl rfl ((by first | exact det_loadb0 (j := 0) rfl rfl tk23 | exact det_loadbN (j := 0) rfl rfl (by rfl) tk23 | exact det_loadwN rfl (by assumption) (by rfl) tk23 | exact det_loadbK (n := 2) (j := 0) rfl rfl rfl rfl tk23)) rfl rfl ?_ -- r2.1 ref.go:370
    refine AS.take 2 rfl (by kernel_rfl) (by kernel_rfl) (by kernel_rfl) rfl rfl (det_move rfl) rfl rfl ?_ -- r2.2 ref.go:370
    refine AS.take 3 rfl (by kernel_rfl) (by kernel_rfl) (by kernel_rfl) rfl rfl (det_move rfl) rfl rfl ?_ -- r2.3 ref.go:370
    refine AS.one (i := 4) (by kernel_rfl) rfl (by first | exact fun _ h => h | exact fun _ h => h.sub (by repeat first | exact List.Sublist.refl _ | apply List.Sublist.cons_cons | apply List.Sublist.cons)) rfl ?_
    refine WS.callF rfl rfl ent75 (fun u hu => Some_c cs gs _ ks _ u (hk.st hu) (h1.st hu) hks hm) (fun _ => rfl) ?_; intro v23 hv23 -- r2.4 ref.go:370
    refine WS.done ?_
    refine QS.then_AS ?_
    refine AS.one (i := 5) (by kernel_rfl) rfl (by first | exact fun _ h => h | exact fun _ h => h.sub (by repeat first | exact List.Sublist.refl _ | apply List.Sublist.cons_cons | apply List.Sublist.cons)) rfl ?_
    refine WS.callF rfl rfl ent69 (fun u hu => RAll_c _ _ _ _ _ u hL hpc ((hk.st hu).pick hks (osl_SlC hu (j := 0) rfl))) (fun _ => rfl) ?_; rintro ⟨va, ga⟩ ⟨ua, hva⟩ -- r2.5 ref.go:370
    refine WS.done ?_
    refine QS.then_AS ?_
    refine AS.two (i := 6) (j := 8) (by kernel_rfl) rfl rfl (by first | exact fun _ h => h | exact fun _ h => h.sub (by repeat first | exact List.Sublist.refl _ | apply List.Sublist.cons_cons | apply List.Sublist.cons)) rfl rfl ?_ ?_
    · skip
      refine WS.det rfl rfl rfl (det_lenS sl51 rfl (SlL.sp hva)) rfl ?_ -- r2.6 ref.go:370
      refine WS.done ?_
      refine QS.then_AS ?_
      refine AS.two (i := 7) (j := 8) (by kernel_rfl) rfl rfl (by first | exact fun _ h => h | exact fun _ h => h.sub (by repeat first | exact List.Sublist.refl _ | apply List.Sublist.cons_cons | apply List.Sublist.cons)) rfl rfl ?_ ?_
      · skip
        refine WS.det rfl rfl rfl (det_eq rfl rfl) rfl ?_ -- r2.7 ref.go:370
        refine WS.done ?_
        refine QS.then_AS ?_
        refine AS.one (i := 8) (by kernel_rfl) rfl (by first | exact fun _ h => h | exact fun _ h => h.sub (by repeat first | exact List.Sublist.refl _ | apply List.Sublist.cons_cons | apply List.Sublist.cons)) rfl ?_
        refine WS.det rfl rfl rfl (det_assign rfl) rfl ?_ -- r2.8 ref.go:370
        refine WS.done ?_
        refine QS.then_AS ?_
        refine AS.one (i := 9) (by kernel_rfl) rfl (by first | exact fun _ h => h | exact fun _ h => h.sub (by repeat first | exact List.Sublist.refl _ | apply List.Sublist.cons_cons | apply List.Sublist.cons)) rfl ?_
        refine WS.det rfl rfl rfl (det_assign rfl) rfl ?_ -- r2.9 ref.go:370
        refine WS.done ?_
        refine QS.then_AS ?_
        refine AS.done (by kernel_rfl) (by first | exact fun _ h => h | exact fun _ h => h.sub (by repeat first | exact List.Sublist.refl _ | apply List.Sublist.cons_cons | apply List.Sublist.cons)) ?_
        refine QS.then_code ?_
        refine CS.ret ?_
        refine QS.then_ret ?_
        exact out2 rfl rfl rfl (retBe (by simp; omega)) -- ret 1
      · skip
        refine WS.det rfl rfl rfl (det_assign rfl) rfl ?_ -- r2.8 ref.go:370
        refine WS.done ?_
        refine QS.then_AS ?_
        refine AS.one (i := 7) (by kernel_rfl) rfl (by first | exact fun _ h => h | exact fun _ h => h.sub (by repeat first | exact List.Sublist.refl _ | apply List.Sublist.cons_cons | apply List.Sublist.cons)) rfl ?_
        refine WS.det rfl rfl rfl (det_eq rfl rfl) rfl ?_ -- r2.7 ref.go:370
        refine WS.done ?_
        refine QS.then_AS ?_
        refine AS.one (i := 9) (by kernel_rfl) rfl (by first | exact fun _ h => h | exact fun _ h => h.sub (by repeat first | exact List.Sublist.refl _ | apply List.Sublist.cons_cons | apply List.Sublist.cons)) rfl ?_
        refine WS.det rfl rfl rfl (det_assign rfl) rfl ?_ -- r2.9 ref.go:370
        refine WS.done ?_
        refine QS.then_AS ?_
        refine AS.done (by kernel_rfl) (by first | exact fun _ h => h | exact fun _ h => h.sub (by repeat first | exact List.Sublist.refl _ | apply List.Sublist.cons_cons | apply List.Sublist.cons)) ?_
        refine QS.then_code ?_
        refine CS.ret ?_
        refine QS.then_ret ?_
        exact out2 rfl rfl rfl (retBe (by simp; omega)) -- ret 2
    · skip
      refine WS.det rfl rfl rfl (det_assign rfl) rfl ?_ -- r2.8 ref.go:370
      refine WS.done ?_
      refine QS.then_AS ?_
      refine AS.one (i := 6) (by kernel_rfl) rfl (by first | exact fun _ h => h | exact fun _ h => h.sub (by repeat first | exact List.Sublist.refl _ | apply List.Sublist.cons_cons | apply List.Sublist.cons)) rfl ?_
      refine WS.det rfl rfl rfl (det_lenS sl51 rfl (SlL.sp hva)) rfl ?_ -- r2.6 ref.go:370
      refine WS.done ?_
      refine QS.then_AS ?_
      refine AS.one (i := 7) (by kernel_rfl) rfl (by first | exact fun _ h => h | exact fun _ h => h.sub (by repeat first | exact List.Sublist.refl _ | apply List.Sublist.cons_cons | apply List.Sublist.cons)) rfl ?_
      refine WS.det rfl rfl rfl (det_eq rfl rfl) rfl ?_ -- r2.7 ref.go:370
      refine WS.done ?_
      refine QS.then_AS ?_
      refine AS.one (i := 9) (by kernel_rfl) rfl (by first | exact fun _ h => h | exact fun _ h => h.sub (by repeat first | exact List.Sublist.refl _ | apply List.Sublist.cons_cons | apply List.Sublist.cons)) rfl ?_
      refine WS.det rfl rfl rfl (det_assign rfl) rfl ?_ -- r2.9 ref.go:370
      refine WS.done ?_
      refine QS.then_AS ?_
      refine AS.done (by kernel_rfl) (by first | exact fun _ h => h | exact fun _ h => h.sub (by repeat first | exact List.Sublist.refl _ | apply List.Sublist.cons_cons | apply List.Sublist.cons)) ?_
      refine QS.then_code ?_
      refine CS.ret ?_
      refine QS.then_ret ?_
      exact out2 rfl rfl rfl (retBe (by simp; omega)) -- ret 3
  · skip
    exact absurd trivial hc1

set_option maxHeartbeats 1000000 in
theorem choose1_c (lw ls : Int) (cs : List Clue) (gs : List Value) (cv : Value) (xs : List Int) (xv : Value) (w : World) (hk : ClS w cv cs gs) (h2 : SlI w xv xs) (hL : lockB lw ls = true) (hU : ∀ c ∈ cs, Use lw ls c xs) (ks : List Nat) (bv : Value) (h1 : SlI w bv (ks.map Int.ofNat)) (hks : ∀ k ∈ ks, k < cs.length) (i0 : Int) (hi0 : 0 ≤ i0 ∧ i0 ≤ cs.length)  (N : Int) (hN : N = ((0 + 1 : Nat) : Int)) (hm : ks.length + 0 ≤ 100) :
    Calls Try.prog 79 #[.agg #[.int .i64 lw, .int .i64 ls], cv, xv, bv, .int .i64 i0, .int .i64 N] w (fun e w' => ∃ v : Value, (∃ u0, SlI u0 v (((moreF lw ls cs (0 + 1) ks (usFrom cs xs i0.toNat)).getD []).map Int.ofNat)) ∧ RetF w (.tuple #[v, .bool (moreF lw ls cs (0 + 1) ks (usFrom cs xs i0.toNat)).isSome]) (roI v (((moreF lw ls cs (0 + 1) ks (usFrom cs xs i0.toNat)).getD []).map Int.ofNat)) e w') := by
  have hkl := hk.le
  have hlk : (ks.map Int.ofNat).length = ks.length := by simp
  refine enter Try.func79 rfl rfl (Nat.le_of_ble_eq_true rfl) ?_
  refine CS.seq ?_
  refine CS.region ?_
  refine WS.box rfl rfl (fun _ => rfl) ?_; intro b6 hb6 -- r0.0 ref.go:368
  refine WS.det rfl rfl rfl (det_assign rfl) rfl ?_ -- r0.1 ref.go:368
  refine WS.det rfl rfl rfl (det_assign rfl) rfl ?_ -- r0.2 ref.go:368
  refine WS.done ?_
  refine QS.then_code ?_
  refine CS.seq ?_
  refine CS.seq ?_
  refine CS.region ?_
  refine WS.det rfl rfl rfl (det_move rfl) rfl ?_ -- r1.0 ref.go:369
  refine WS.det rfl rfl rfl (det_eq rfl rfl) rfl ?_ -- r1.1 ref.go:369
  refine WS.done ?_
  refine QS.then_code ?_
  refine CS.cond rfl (fun hc1 => ?_) (fun hc1 => ?_) <;> (try simp only [decide_eq_true_eq, decide_eq_false_iff_not, Bool.and_eq_true, Bool.or_eq_true, Bool.and_eq_false_iff, Bool.or_eq_false_iff, Bool.not_eq_true', Bool.not_eq_false', ne_eq, Decidable.not_not, Bool.not_true, Bool.not_false, bne_iff_ne, bne_eq_false_iff_eq, beq_iff_eq, beq_eq_false_iff_ne] at hc1)
  · skip
    omega
  · skip
    refine CS.skip ?_
    refine QS.then_code ?_
    refine CS.seq ?_
    refine CS.seq ?_
    refine CS.region ?_
    refine WS.det rfl rfl rfl (det_move rfl) rfl ?_ -- r3.0 ref.go:372
    refine WS.det rfl rfl rfl (det_assign rfl) rfl ?_ -- r3.1 ref.go:372
    refine WS.done ?_
    refine QS.then_code ?_
    refine CS.block ?_
    refine CS.loopM (σ := Int) [12, 13, 15, 16, 28, 29, 30, 31, 32, 33, 34, 35, 36, 37, 38, 39, 40, 41, 42, 43, 44, 45, 46, 47, 48, 49, 50, 51, 52, 53, 54, 55, 56, 57, 58] (fun s => [(14, .int .i64 s)]) (fun _ => _) (fun s => 0 ≤ s ∧ s ≤ cs.length ∧ moreF lw ls cs (0 + 1) ks (usFrom cs xs i0.toNat) = moreF lw ls cs (0 + 1) ks (usFrom cs xs s.toNat)) (fun s => (cs.length - s).toNat) i0 (fun _ _ => rfl) rfl rfl ⟨by omega, by omega, rfl⟩ ?_
    intro i t hs
    obtain ⟨hi1, hi2, hi3⟩ := hs
    refine CS.seq ?_
    refine CS.seq ?_
    refine CS.region ?_
    refine WS.det rfl rfl rfl (det_move rfl) rfl ?_ -- r4.0 ref.go:372
    refine WS.det rfl rfl rfl (det_move rfl) rfl ?_ -- r4.1 ref.go:372
    refine WS.det rfl rfl rfl ((by first | exact det_lenS sl31 rfl (by assumption) | exact det_lenS sl31 rfl (by first | exact SlL.sp (by assumption) | exact ClS.sp (by assumption)) | exact det_lenO sl31 rfl | exact det_lenV sl31 rfl ⟨_, _, rfl⟩)) rfl ?_ -- r4.2 ref.go:372
    refine WS.det rfl rfl rfl (det_lt rfl rfl) rfl ?_ -- r4.3 ref.go:372
    refine WS.done ?_
    refine QS.then_code ?_
    refine CS.cond rfl (fun hc2 => ?_) (fun hc2 => ?_) <;> (try simp only [decide_eq_true_eq, decide_eq_false_iff_not, Bool.and_eq_true, Bool.or_eq_true, Bool.and_eq_false_iff, Bool.or_eq_false_iff, Bool.not_eq_true', Bool.not_eq_false', ne_eq, Decidable.not_not, Bool.not_true, Bool.not_false, bne_iff_ne, bne_eq_false_iff_eq, beq_iff_eq, beq_eq_false_iff_ne] at hc2)
    · skip
      have hin : i.toNat < cs.length := by omega
      have hUi : Use lw ls (nth cs i) xs := hU _ (nth_mem hi1 (by omega))
      have hel := hk.el i hi1 (by omega)
      have e1 : (i + 1).toNat = i.toNat + 1 := by omega
      refine CS.skip ?_
      refine QS.then_code ?_
      refine CS.seq ?_
      refine CS.block ?_
      refine CS.seq ?_
      refine CS.seq ?_
      refine CS.region ?_
      refine WS.det rfl rfl rfl (det_move rfl) rfl ?_ -- r6.0 ref.go:373
      refine WS.det rfl rfl rfl (det_move rfl) rfl ?_ -- r6.1 ref.go:373
      refine WS.det rfl rfl rfl (det_idxCl sl31 rfl rfl (by assumption) (by omega) (by omega)) rfl ?_ -- r6.2 ref.go:373
      refine WS.det rfl rfl rfl ((by first | exact det_ldCl rfl (by assumption) (by omega) tk36 | exact det_loadb0 (j := 0) rfl rfl tk36 | exact det_loadb0 (j := 1) rfl rfl tk36 | exact det_loadb0 (j := 2) rfl rfl tk36 | exact det_loadb0 (j := 3) rfl rfl tk36 | exact det_loadbN (j := 0) rfl rfl (by rfl) tk36 | exact det_loadbN (j := 1) rfl rfl (by rfl) tk36 | exact det_loadbN (j := 2) rfl rfl (by rfl) tk36 | exact det_loadbN (j := 3) rfl rfl (by rfl) tk36 | exact det_loadwN rfl (by assumption) (by rfl) tk36 | exact det_loadbK (n := 7) (j := 0) rfl rfl rfl rfl tk36 | exact det_loadbK (n := 7) (j := 1) rfl rfl rfl rfl tk36 | exact det_loadbK (n := 7) (j := 2) rfl rfl rfl rfl tk36 | exact det_loadbK (n := 7) (j := 3) rfl rfl rfl rfl tk36)) rfl ?_ -- r6.3 ref.go:373
      refine WS.det rfl rfl rfl (det_move rfl) rfl ?_ -- r6.4 ref.go:373
      refine WS.det rfl rfl rfl (det_callB rfl rfl ent66 (fun u hu => True_c _ _ _ _ _ _ u hUi (hel.st hu) (h2.st hu))) rfl ?_ -- r6.5 ref.go:373
      refine WS.det rfl rfl rfl (det_not rfl) rfl ?_ -- r6.6 ref.go:373
      refine WS.done ?_
      refine QS.then_code ?_
      refine CS.cond rfl (fun hc3 => ?_) (fun hc3 => ?_) <;> (try simp only [decide_eq_true_eq, decide_eq_false_iff_not, Bool.and_eq_true, Bool.or_eq_true, Bool.and_eq_false_iff, Bool.or_eq_false_iff, Bool.not_eq_true', Bool.not_eq_false', ne_eq, Decidable.not_not, Bool.not_true, Bool.not_false, bne_iff_ne, bne_eq_false_iff_eq, beq_iff_eq, beq_eq_false_iff_ne] at hc3)
      · skip
        have hun : usFrom cs xs i.toNat = usFrom cs xs (i + 1).toNat := by rw [e1]; exact usFrom_no hin hc3
        refine CS.leave ?_
        refine QS.then_exit ?_
        refine QS.block_exit ?_
        refine QS.then_code ?_
        refine CS.region ?_
        refine WS.det rfl rfl rfl (det_move rfl) rfl ?_ -- r5.0 ref.go:372
        refine WS.det rfl rfl rfl (det_add rfl rfl (by omega)) rfl ?_ -- r5.1 ref.go:372
        refine WS.det rfl rfl rfl (det_assign rfl) rfl ?_ -- r5.2 ref.go:372
        refine WS.done ?_
        exact QS.head (i + 1) rfl rfl ⟨⟨by omega, by omega, by rw [hi3, hun]⟩, by omega⟩
      · skip
        have huy : usFrom cs xs i.toNat = i.toNat :: usFrom cs xs (i + 1).toNat := by rw [e1]; exact usFrom_yes hin hc3
        have hks2 : ∀ k ∈ ks ++ [i.toNat], k < cs.length := fun k hk => by
          simp only [List.mem_append, List.mem_singleton] at hk
          rcases hk with hk | hk
          · exact hks k hk
          · rw [hk]; exact hin
        have hkm : ks.map Int.ofNat ++ [i] = (ks ++ [i.toNat]).map Int.ofNat := by simp; omega
        refine CS.skip ?_
        refine QS.then_code ?_
        refine CS.cut (σ := Value × List Int) [41, 42, 43, 44, 45, 46, 47, 48, 49, 50, 51, 52, 53, 54, 55, 56] (fun s => [(15, s.1), (16, .bool (moreF lw ls cs 0 (ks ++ [i.toNat]) (usFrom cs xs (i + 1).toNat)).isSome)]) (fun s => [roI s.1 s.2, blk b6 [.int .i64 lw, .int .i64 ls] 23]) (fun s => (moreF lw ls cs 0 (ks ++ [i.toNat]) (usFrom cs xs (i + 1).toNat)).isSome = true → s.2 = ((moreF lw ls cs 0 (ks ++ [i.toNat]) (usFrom cs xs (i + 1).toNat)).getD []).map Int.ofNat) (fun _ _ => rfl) ?_ ?_
        · skip
          refine CS.drawnAll (k := 18) mixed rfl rfl ?_
          refine AS.take 0 rfl (by kernel_rfl) (by kernel_rfl) (by kernel_rfl) rfl rfl ((by first | exact det_loadb0 (j := 0) rfl rfl tk23 | exact det_loadbN (j := 0) rfl rfl (by rfl) tk23 | exact det_loadwN rfl (by assumption) (by rfl) tk23 | exact det_loadbK (n := 2) (j := 0) rfl rfl rfl rfl tk23)) rfl rfl ?_ -- r7.0 ref.go:376
          refine AS.take 1 rfl (by kernel_rfl) (by kernel_rfl) (by kernel_rfl) rfl rfl (det_move rfl) rfl rfl ?_ -- r7.1 ref.go:376
          refine AS.take 2 rfl (by kernel_rfl) (by kernel_rfl) (by kernel_rfl) rfl rfl (det_move rfl) rfl rfl ?_ -- r7.2 ref.go:376
          refine AS.take 3 rfl (by kernel_rfl) (by kernel_rfl) (by kernel_rfl) rfl rfl (det_move rfl) rfl rfl ?_ -- r7.3 ref.go:376
          refine AS.take 5 rfl (by kernel_rfl) (by kernel_rfl) (by kernel_rfl) rfl rfl (det_move rfl) rfl rfl ?_ -- r7.5 ref.go:376
          refine AS.take 8 rfl (by kernel_rfl) (by kernel_rfl) (by kernel_rfl) rfl rfl (det_move rfl) rfl rfl ?_ -- r7.8 ref.go:376
          refine AS.take 9 rfl (by kernel_rfl) (by kernel_rfl) (by kernel_rfl) rfl rfl (det_add rfl rfl (by omega)) rfl rfl ?_ -- r7.9 ref.go:376
          refine AS.take 10 rfl (by kernel_rfl) (by kernel_rfl) (by kernel_rfl) rfl rfl (det_move rfl) rfl rfl ?_ -- r7.10 ref.go:376
          refine AS.take 11 rfl (by kernel_rfl) (by kernel_rfl) (by kernel_rfl) rfl rfl (det_sub rfl rfl (by omega)) rfl rfl ?_ -- r7.11 ref.go:376
          refine AS.two (i := 4) (j := 6) (by kernel_rfl) rfl rfl (by first | exact fun _ h => h | exact fun _ h => h.sub (by repeat first | exact List.Sublist.refl _ | apply List.Sublist.cons_cons | apply List.Sublist.cons)) rfl rfl ?_ ?_
          · skip
            refine WS.appendNil (news := ints (ks.map Int.ofNat)) (n := (ks.map Int.ofNat).length) sl24 zv3 rfl (by decide) rfl rfl (fun u hu => h1.st hu) (by simp [ints, Value.oneCell']) (by omega) (by omega) (fun _ => rfl) ?_; intro v46 hv46 -- r7.4 ref.go:376
            refine WS.done ?_
            refine QS.then_AS ?_
            refine AS.one (i := 6) (by kernel_rfl) rfl (by first | exact fun _ h => h | exact fun _ h => h.sub (by repeat first | exact List.Sublist.refl _ | apply List.Sublist.cons_cons | apply List.Sublist.cons)) rfl ?_
            refine WS.buildI1 sl24 zv3 rfl (fun _ => rfl) ?_; intro v48 -- r7.6 ref.go:376
            refine WS.done ?_
            refine QS.then_AS ?_
            refine AS.one (i := 7) (by kernel_rfl) rfl (by first | exact fun _ h => h | exact fun _ h => h.sub (by repeat first | exact List.Sublist.refl _ | apply List.Sublist.cons_cons | apply List.Sublist.cons)) rfl ?_
            refine WS.appendI (j := 1) (xs := ks.map Int.ofNat) (ys := [i]) sl24 zv3 rfl rfl rfl (fun u hu => oints_SlI hu (j := 0) rfl) (by simp only [List.length_singleton]; omega) (by simp only [List.length_singleton]; omega) (fun _ => rfl) (fun _ => rfl) ?_; intro v49; refine WS.weak (fun u hu => by rw [hkm] at hu; exact hu) ?_ -- r7.7 ref.go:376
            refine WS.done ?_
            refine QS.then_AS ?_
            refine AS.one (i := 12) (by kernel_rfl) rfl (by first | exact fun _ h => h | exact fun _ h => h.sub (by repeat first | exact List.Sublist.refl _ | apply List.Sublist.cons_cons | apply List.Sublist.cons)) rfl ?_
            refine WS.det rfl rfl rfl (det_callB rfl rfl ent79 (v := .tuple #[v49, .bool (moreF lw ls cs 0 (ks ++ [i.toNat]) (usFrom cs xs (i + 1).toNat)).isSome]) (fun u hu => by have h0 := choose0_c lw ls cs gs cv xs xv u (hk.st hu) (h2.st hu) hL hU (ks ++ [i.toNat]) v49 (oints_SlI hu (j := 1) rfl) hks2 (i + 1) (by omega) (by simp; omega); rw [show N - 1 = 0 by omega, moreF_isSome]; exact h0)) rfl ?_ -- r7.12 ref.go:376
            refine WS.done ?_
            refine QS.then_AS ?_
            refine AS.take 13 rfl (by kernel_rfl) (by kernel_rfl) (by kernel_rfl) rfl rfl (det_move rfl) rfl rfl ?_ -- r7.13 ref.go:376
            refine AS.take 14 rfl (by kernel_rfl) (by kernel_rfl) (by kernel_rfl) rfl rfl (det_extract rfl rfl) rfl rfl ?_ -- r7.14 ref.go:376
            refine AS.take 15 rfl (by kernel_rfl) (by kernel_rfl) (by kernel_rfl) rfl rfl (det_extract rfl rfl) rfl rfl ?_ -- r7.15 ref.go:376
            refine AS.take 16 rfl (by kernel_rfl) (by kernel_rfl) (by kernel_rfl) rfl rfl (det_assign rfl) rfl rfl ?_ -- r7.16 ref.go:376
            refine AS.take 17 rfl (by kernel_rfl) (by kernel_rfl) (by kernel_rfl) rfl rfl (det_assign rfl) rfl rfl ?_ -- r7.17 ref.go:376
            refine AS.done (by kernel_rfl) (by first | exact fun _ h => h | exact fun _ h => h.sub (by repeat first | exact List.Sublist.refl _ | apply List.Sublist.cons_cons | apply List.Sublist.cons)) ?_
            refine QS.sel [1, 1] rfl ?_
            refine QS.weak (L' := [roI v49 ((ks ++ [i.toNat]).map Int.ofNat), blk b6 [.int .i64 lw, .int .i64 ls] 23]) (fun u hu => hu.toRoI) ?_
            exact QS.head ((v49, (ks ++ [i.toNat]).map Int.ofNat)) rfl rfl (fun h => moreF_getD h)
          · skip
            refine WS.buildI1 sl24 zv3 rfl (fun _ => rfl) ?_; intro v48 -- r7.6 ref.go:376
            refine WS.done ?_
            refine QS.then_AS ?_
            refine AS.one (i := 4) (by kernel_rfl) rfl (by first | exact fun _ h => h | exact fun _ h => h.sub (by repeat first | exact List.Sublist.refl _ | apply List.Sublist.cons_cons | apply List.Sublist.cons)) rfl ?_
            refine WS.appendNil (news := ints (ks.map Int.ofNat)) (n := (ks.map Int.ofNat).length) sl24 zv3 rfl (by decide) rfl rfl (fun u hu => h1.st hu) (by simp [ints, Value.oneCell']) (by omega) (by omega) (fun _ => rfl) ?_; intro v46 hv46 -- r7.4 ref.go:376
            refine WS.done ?_
            refine QS.then_AS ?_
            refine AS.one (i := 7) (by kernel_rfl) rfl (by first | exact fun _ h => h | exact fun _ h => h.sub (by repeat first | exact List.Sublist.refl _ | apply List.Sublist.cons_cons | apply List.Sublist.cons)) rfl ?_
            refine WS.appendI (j := 0) (xs := ks.map Int.ofNat) (ys := [i]) sl24 zv3 rfl rfl rfl (fun u hu => oints_SlI hu (j := 1) rfl) (by simp only [List.length_singleton]; omega) (by simp only [List.length_singleton]; omega) (fun _ => rfl) (fun _ => rfl) ?_; intro v49; refine WS.weak (fun u hu => by rw [hkm] at hu; exact hu) ?_ -- r7.7 ref.go:376
            refine WS.done ?_
            refine QS.then_AS ?_
            refine AS.one (i := 12) (by kernel_rfl) rfl (by first | exact fun _ h => h | exact fun _ h => h.sub (by repeat first | exact List.Sublist.refl _ | apply List.Sublist.cons_cons | apply List.Sublist.cons)) rfl ?_
            refine WS.det rfl rfl rfl (det_callB rfl rfl ent79 (v := .tuple #[v49, .bool (moreF lw ls cs 0 (ks ++ [i.toNat]) (usFrom cs xs (i + 1).toNat)).isSome]) (fun u hu => by have h0 := choose0_c lw ls cs gs cv xs xv u (hk.st hu) (h2.st hu) hL hU (ks ++ [i.toNat]) v49 (oints_SlI hu (j := 0) rfl) hks2 (i + 1) (by omega) (by simp; omega); rw [show N - 1 = 0 by omega, moreF_isSome]; exact h0)) rfl ?_ -- r7.12 ref.go:376
            refine WS.done ?_
            refine QS.then_AS ?_
            refine AS.take 13 rfl (by kernel_rfl) (by kernel_rfl) (by kernel_rfl) rfl rfl (det_move rfl) rfl rfl ?_ -- r7.13 ref.go:376
            refine AS.take 14 rfl (by kernel_rfl) (by kernel_rfl) (by kernel_rfl) rfl rfl (det_extract rfl rfl) rfl rfl ?_ -- r7.14 ref.go:376
            refine AS.take 15 rfl (by kernel_rfl) (by kernel_rfl) (by kernel_rfl) rfl rfl (det_extract rfl rfl) rfl rfl ?_ -- r7.15 ref.go:376
            refine AS.take 16 rfl (by kernel_rfl) (by kernel_rfl) (by kernel_rfl) rfl rfl (det_assign rfl) rfl rfl ?_ -- r7.16 ref.go:376
            refine AS.take 17 rfl (by kernel_rfl) (by kernel_rfl) (by kernel_rfl) rfl rfl (det_assign rfl) rfl rfl ?_ -- r7.17 ref.go:376
            refine AS.done (by kernel_rfl) (by first | exact fun _ h => h | exact fun _ h => h.sub (by repeat first | exact List.Sublist.refl _ | apply List.Sublist.cons_cons | apply List.Sublist.cons)) ?_
            refine QS.sel [0, 1] rfl ?_
            refine QS.weak (L' := [roI v49 ((ks ++ [i.toNat]).map Int.ofNat), blk b6 [.int .i64 lw, .int .i64 ls] 23]) (fun u hu => hu.toRoI) ?_
            exact QS.head ((v49, (ks ++ [i.toNat]).map Int.ofNat)) rfl rfl (fun h => moreF_getD h)
        · intro s t hs
          refine CS.seq ?_
          refine CS.region ?_
          refine WS.det rfl rfl rfl (det_move rfl) rfl ?_ -- r8.0 ref.go:376
          refine WS.done ?_
          refine QS.then_code ?_
          refine CS.cond rfl (fun hc4 => ?_) (fun hc4 => ?_) <;> (try simp only [decide_eq_true_eq, decide_eq_false_iff_not, Bool.and_eq_true, Bool.or_eq_true, Bool.and_eq_false_iff, Bool.or_eq_false_iff, Bool.not_eq_true', Bool.not_eq_false', ne_eq, Decidable.not_not, Bool.not_true, Bool.not_false, bne_iff_ne, bne_eq_false_iff_eq, beq_iff_eq, beq_eq_false_iff_ne] at hc4)
          · skip
            obtain ⟨r, hr⟩ := Option.isSome_iff_exists.1 hc4
            have hfin : moreF lw ls cs (0 + 1) ks (usFrom cs xs i0.toNat) = some r := by rw [hi3, huy]; exact moreF_some hr
            have hse := hs hc4
            refine CS.seq ?_
            refine CS.region ?_
            refine WS.det rfl rfl rfl (det_move rfl) rfl ?_ -- r9.0 ref.go:377
            refine WS.det rfl rfl rfl (det_assign rfl) rfl ?_ -- r9.1 ref.go:377
            refine WS.det rfl rfl rfl (det_assign rfl) rfl ?_ -- r9.2 ref.go:377
            refine WS.done ?_
            refine QS.then_code ?_
            refine CS.ret ?_
            refine QS.block_ret ?_
            refine QS.then_ret ?_
            refine QS.then_ret ?_
            refine QS.block_ret ?_
            refine QS.then_ret ?_
            exact out2 rfl rfl rfl (retIq (fun S u hs9 => Star.ro (j := 0) rfl hs9) (by rw [hse, hr, hfin]) (by rw [hfin]; rfl)) -- ret 1
          · skip
            have hr : (moreF lw ls cs 0 (ks ++ [i.toNat]) (usFrom cs xs (i + 1).toNat)) = none := by
              cases h : (moreF lw ls cs 0 (ks ++ [i.toNat]) (usFrom cs xs (i + 1).toNat)) with
              | none => rfl
              | some r => rw [h] at hc4; cases hc4
            refine CS.skip ?_
            refine QS.block_normal ?_
            refine QS.then_code ?_
            refine CS.region ?_
            refine WS.det rfl rfl rfl (det_move rfl) rfl ?_ -- r5.0 ref.go:372
            refine WS.det rfl rfl rfl (det_add rfl rfl (by omega)) rfl ?_ -- r5.1 ref.go:372
            refine WS.det rfl rfl rfl (det_assign rfl) rfl ?_ -- r5.2 ref.go:372
            refine WS.done ?_
            refine QS.sel [1] rfl ?_
            exact QS.head (i + 1) rfl rfl ⟨⟨by omega, by omega, by rw [hi3, huy, moreF_none hr]⟩, by omega⟩
    · skip
      have hfin : moreF lw ls cs (0 + 1) ks (usFrom cs xs i0.toNat) = none := by rw [hi3, usFrom_end (by omega)]; exact moreF_nil _ _
      refine CS.leave ?_
      refine QS.then_exit ?_
      refine QS.then_exit ?_
      refine QS.block_exit ?_
      refine QS.then_code ?_
      refine CS.seq ?_
      refine CS.region ?_
      refine WS.det rfl rfl rfl (det_assign rfl) rfl ?_ -- r10.0 ref.go:380
      refine WS.det rfl rfl rfl (det_assign rfl) rfl ?_ -- r10.1 ref.go:380
      refine WS.done ?_
      refine QS.then_code ?_
      refine CS.ret ?_
      exact out2 rfl rfl rfl (retIn (by rw [hfin]; rfl) (by rw [hfin]; rfl)) -- ret 2

set_option maxHeartbeats 1000000 in
theorem chooseS_c (lw ls : Int) (cs : List Clue) (gs : List Value) (cv : Value) (xs : List Int) (xv : Value) (w : World) (hk : ClS w cv cs gs) (h2 : SlI w xv xs) (hL : lockB lw ls = true) (hU : ∀ c ∈ cs, Use lw ls c xs) (ks : List Nat) (bv : Value) (h1 : SlI w bv (ks.map Int.ofNat)) (hks : ∀ k ∈ ks, k < cs.length) (i0 : Int) (hi0 : 0 ≤ i0 ∧ i0 ≤ cs.length) (m : Nat) (ih : ∀ (ks : List Nat) (bv : Value) (w : World) (hk : ClS w cv cs gs) (h2 : SlI w xv xs) (h1 : SlI w bv (ks.map Int.ofNat)) (hks : ∀ k ∈ ks, k < cs.length) (i0 : Int) (hi0 : 0 ≤ i0 ∧ i0 ≤ cs.length) (N : Int) (hN : N = ((m + 1 : Nat) : Int)) (hm : ks.length + m ≤ 100), Calls Try.prog 79 #[.agg #[.int .i64 lw, .int .i64 ls], cv, xv, bv, .int .i64 i0, .int .i64 N] w (fun e w' => ∃ v : Value, (∃ u0, SlI u0 v (((moreF lw ls cs (m + 1) ks (usFrom cs xs i0.toNat)).getD []).map Int.ofNat)) ∧ RetF w (.tuple #[v, .bool (moreF lw ls cs (m + 1) ks (usFrom cs xs i0.toNat)).isSome]) (roI v (((moreF lw ls cs (m + 1) ks (usFrom cs xs i0.toNat)).getD []).map Int.ofNat)) e w')) (N : Int) (hN : N = (((m + 1) + 1 : Nat) : Int)) (hm : ks.length + (m + 1) ≤ 100) :
    Calls Try.prog 79 #[.agg #[.int .i64 lw, .int .i64 ls], cv, xv, bv, .int .i64 i0, .int .i64 N] w (fun e w' => ∃ v : Value, (∃ u0, SlI u0 v (((moreF lw ls cs ((m + 1) + 1) ks (usFrom cs xs i0.toNat)).getD []).map Int.ofNat)) ∧ RetF w (.tuple #[v, .bool (moreF lw ls cs ((m + 1) + 1) ks (usFrom cs xs i0.toNat)).isSome]) (roI v (((moreF lw ls cs ((m + 1) + 1) ks (usFrom cs xs i0.toNat)).getD []).map Int.ofNat)) e w') := by
  have hkl := hk.le
  have hlk : (ks.map Int.ofNat).length = ks.length := by simp
  refine enter Try.func79 rfl rfl (Nat.le_of_ble_eq_true rfl) ?_
  refine CS.seq ?_
  refine CS.region ?_
  refine WS.box rfl rfl (fun _ => rfl) ?_; intro b6 hb6 -- r0.0 ref.go:368
  refine WS.det rfl rfl rfl (det_assign rfl) rfl ?_ -- r0.1 ref.go:368
  refine WS.det rfl rfl rfl (det_assign rfl) rfl ?_ -- r0.2 ref.go:368
  refine WS.done ?_
  refine QS.then_code ?_
  refine CS.seq ?_
  refine CS.seq ?_
  refine CS.region ?_
  refine WS.det rfl rfl rfl (det_move rfl) rfl ?_ -- r1.0 ref.go:369
  refine WS.det rfl rfl rfl (det_eq rfl rfl) rfl ?_ -- r1.1 ref.go:369
  refine WS.done ?_
  refine QS.then_code ?_
  refine CS.cond rfl (fun hc1 => ?_) (fun hc1 => ?_) <;> (try simp only [decide_eq_true_eq, decide_eq_false_iff_not, Bool.and_eq_true, Bool.or_eq_true, Bool.and_eq_false_iff, Bool.or_eq_false_iff, Bool.not_eq_true', Bool.not_eq_false', ne_eq, Decidable.not_not, Bool.not_true, Bool.not_false, bne_iff_ne, bne_eq_false_iff_eq, beq_iff_eq, beq_eq_false_iff_ne] at hc1)
  · skip
    omega
  · skip
    refine CS.skip ?_
    refine QS.then_code ?_
    refine CS.seq ?_
    refine CS.seq ?_
    refine CS.region ?_
    refine WS.det rfl rfl rfl (det_move rfl) rfl ?_ -- r3.0 ref.go:372
    refine WS.det rfl rfl rfl (det_assign rfl) rfl ?_ -- r3.1 ref.go:372
    refine WS.done ?_
    refine QS.then_code ?_
    refine CS.block ?_
    refine CS.loopM (σ := Int) [12, 13, 15, 16, 28, 29, 30, 31, 32, 33, 34, 35, 36, 37, 38, 39, 40, 41, 42, 43, 44, 45, 46, 47, 48, 49, 50, 51, 52, 53, 54, 55, 56, 57, 58] (fun s => [(14, .int .i64 s)]) (fun _ => _) (fun s => 0 ≤ s ∧ s ≤ cs.length ∧ moreF lw ls cs ((m + 1) + 1) ks (usFrom cs xs i0.toNat) = moreF lw ls cs ((m + 1) + 1) ks (usFrom cs xs s.toNat)) (fun s => (cs.length - s).toNat) i0 (fun _ _ => rfl) rfl rfl ⟨by omega, by omega, rfl⟩ ?_
    intro i t hs
    obtain ⟨hi1, hi2, hi3⟩ := hs
    refine CS.seq ?_
    refine CS.seq ?_
    refine CS.region ?_
    refine WS.det rfl rfl rfl (det_move rfl) rfl ?_ -- r4.0 ref.go:372
    refine WS.det rfl rfl rfl (det_move rfl) rfl ?_ -- r4.1 ref.go:372
    refine WS.det rfl rfl rfl ((by first | exact det_lenS sl31 rfl (by assumption) | exact det_lenS sl31 rfl (by first | exact SlL.sp (by assumption) | exact ClS.sp (by assumption)) | exact det_lenO sl31 rfl | exact det_lenV sl31 rfl ⟨_, _, rfl⟩)) rfl ?_ -- r4.2 ref.go:372
    refine WS.det rfl rfl rfl (det_lt rfl rfl) rfl ?_ -- r4.3 ref.go:372
    refine WS.done ?_
    refine QS.then_code ?_
    refine CS.cond rfl (fun hc2 => ?_) (fun hc2 => ?_) <;> (try simp only [decide_eq_true_eq, decide_eq_false_iff_not, Bool.and_eq_true, Bool.or_eq_true, Bool.and_eq_false_iff, Bool.or_eq_false_iff, Bool.not_eq_true', Bool.not_eq_false', ne_eq, Decidable.not_not, Bool.not_true, Bool.not_false, bne_iff_ne, bne_eq_false_iff_eq, beq_iff_eq, beq_eq_false_iff_ne] at hc2)
    · skip
      have hin : i.toNat < cs.length := by omega
      have hUi : Use lw ls (nth cs i) xs := hU _ (nth_mem hi1 (by omega))
      have hel := hk.el i hi1 (by omega)
      have e1 : (i + 1).toNat = i.toNat + 1 := by omega
      refine CS.skip ?_
      refine QS.then_code ?_
      refine CS.seq ?_
      refine CS.block ?_
      refine CS.seq ?_
      refine CS.seq ?_
      refine CS.region ?_
      refine WS.det rfl rfl rfl (det_move rfl) rfl ?_ -- r6.0 ref.go:373
      refine WS.det rfl rfl rfl (det_move rfl) rfl ?_ -- r6.1 ref.go:373
      refine WS.det rfl rfl rfl (det_idxCl sl31 rfl rfl (by assumption) (by omega) (by omega)) rfl ?_ -- r6.2 ref.go:373
      refine WS.det rfl rfl rfl ((by first | exact det_ldCl rfl (by assumption) (by omega) tk36 | exact det_loadb0 (j := 0) rfl rfl tk36 | exact det_loadb0 (j := 1) rfl rfl tk36 | exact det_loadb0 (j := 2) rfl rfl tk36 | exact det_loadb0 (j := 3) rfl rfl tk36 | exact det_loadbN (j := 0) rfl rfl (by rfl) tk36 | exact det_loadbN (j := 1) rfl rfl (by rfl) tk36 | exact det_loadbN (j := 2) rfl rfl (by rfl) tk36 | exact det_loadbN (j := 3) rfl rfl (by rfl) tk36 | exact det_loadwN rfl (by assumption) (by rfl) tk36 | exact det_loadbK (n := 7) (j := 0) rfl rfl rfl rfl tk36 | exact det_loadbK (n := 7) (j := 1) rfl rfl rfl rfl tk36 | exact det_loadbK (n := 7) (j := 2) rfl rfl rfl rfl tk36 | exact det_loadbK (n := 7) (j := 3) rfl rfl rfl rfl tk36)) rfl ?_ -- r6.3 ref.go:373
      refine WS.det rfl rfl rfl (det_move rfl) rfl ?_ -- r6.4 ref.go:373
      refine WS.det rfl rfl rfl (det_callB rfl rfl ent66 (fun u hu => True_c _ _ _ _ _ _ u hUi (hel.st hu) (h2.st hu))) rfl ?_ -- r6.5 ref.go:373
      refine WS.det rfl rfl rfl (det_not rfl) rfl ?_ -- r6.6 ref.go:373
      refine WS.done ?_
      refine QS.then_code ?_
      refine CS.cond rfl (fun hc3 => ?_) (fun hc3 => ?_) <;> (try simp only [decide_eq_true_eq, decide_eq_false_iff_not, Bool.and_eq_true, Bool.or_eq_true, Bool.and_eq_false_iff, Bool.or_eq_false_iff, Bool.not_eq_true', Bool.not_eq_false', ne_eq, Decidable.not_not, Bool.not_true, Bool.not_false, bne_iff_ne, bne_eq_false_iff_eq, beq_iff_eq, beq_eq_false_iff_ne] at hc3)
      · skip
        have hun : usFrom cs xs i.toNat = usFrom cs xs (i + 1).toNat := by rw [e1]; exact usFrom_no hin hc3
        refine CS.leave ?_
        refine QS.then_exit ?_
        refine QS.block_exit ?_
        refine QS.then_code ?_
        refine CS.region ?_
        refine WS.det rfl rfl rfl (det_move rfl) rfl ?_ -- r5.0 ref.go:372
        refine WS.det rfl rfl rfl (det_add rfl rfl (by omega)) rfl ?_ -- r5.1 ref.go:372
        refine WS.det rfl rfl rfl (det_assign rfl) rfl ?_ -- r5.2 ref.go:372
        refine WS.done ?_
        exact QS.head (i + 1) rfl rfl ⟨⟨by omega, by omega, by rw [hi3, hun]⟩, by omega⟩
      · skip
        have huy : usFrom cs xs i.toNat = i.toNat :: usFrom cs xs (i + 1).toNat := by rw [e1]; exact usFrom_yes hin hc3
        have hks2 : ∀ k ∈ ks ++ [i.toNat], k < cs.length := fun k hk => by
          simp only [List.mem_append, List.mem_singleton] at hk
          rcases hk with hk | hk
          · exact hks k hk
          · rw [hk]; exact hin
        have hkm : ks.map Int.ofNat ++ [i] = (ks ++ [i.toNat]).map Int.ofNat := by simp; omega
        refine CS.skip ?_
        refine QS.then_code ?_
        refine CS.cut (σ := Value × List Int) [41, 42, 43, 44, 45, 46, 47, 48, 49, 50, 51, 52, 53, 54, 55, 56] (fun s => [(15, s.1), (16, .bool (moreF lw ls cs (m + 1) (ks ++ [i.toNat]) (usFrom cs xs (i + 1).toNat)).isSome)]) (fun s => [roI s.1 s.2, blk b6 [.int .i64 lw, .int .i64 ls] 23]) (fun s => (moreF lw ls cs (m + 1) (ks ++ [i.toNat]) (usFrom cs xs (i + 1).toNat)).isSome = true → s.2 = ((moreF lw ls cs (m + 1) (ks ++ [i.toNat]) (usFrom cs xs (i + 1).toNat)).getD []).map Int.ofNat) (fun _ _ => rfl) ?_ ?_
        · skip
          refine CS.drawnAll (k := 18) mixed rfl rfl ?_
          refine AS.take 0 rfl (by kernel_rfl) (by kernel_rfl) (by kernel_rfl) rfl rfl ((by first | exact det_loadb0 (j := 0) rfl rfl tk23 | exact det_loadbN (j := 0) rfl rfl (by rfl) tk23 | exact det_loadwN rfl (by assumption) (by rfl) tk23 | exact det_loadbK (n := 2) (j := 0) rfl rfl rfl rfl tk23)) rfl rfl ?_ -- r7.0 ref.go:376
          refine AS.take 1 rfl (by kernel_rfl) (by kernel_rfl) (by kernel_rfl) rfl rfl (det_move rfl) rfl rfl ?_ -- r7.1 ref.go:376
          refine AS.take 2 rfl (by kernel_rfl) (by kernel_rfl) (by kernel_rfl) rfl rfl (det_move rfl) rfl rfl ?_ -- r7.2 ref.go:376
          refine AS.take 3 rfl (by kernel_rfl) (by kernel_rfl) (by kernel_rfl) rfl rfl (det_move rfl) rfl rfl ?_ -- r7.3 ref.go:376
          refine AS.take 5 rfl (by kernel_rfl) (by kernel_rfl) (by kernel_rfl) rfl rfl (det_move rfl) rfl rfl ?_ -- r7.5 ref.go:376
          refine AS.take 8 rfl (by kernel_rfl) (by kernel_rfl) (by kernel_rfl) rfl rfl (det_move rfl) rfl rfl ?_ -- r7.8 ref.go:376
          refine AS.take 9 rfl (by kernel_rfl) (by kernel_rfl) (by kernel_rfl) rfl rfl (det_add rfl rfl (by omega)) rfl rfl ?_ -- r7.9 ref.go:376
          refine AS.take 10 rfl (by kernel_rfl) (by kernel_rfl) (by kernel_rfl) rfl rfl (det_move rfl) rfl rfl ?_ -- r7.10 ref.go:376
          refine AS.take 11 rfl (by kernel_rfl) (by kernel_rfl) (by kernel_rfl) rfl rfl (det_sub rfl rfl (by omega)) rfl rfl ?_ -- r7.11 ref.go:376
          refine AS.two (i := 4) (j := 6) (by kernel_rfl) rfl rfl (by first | exact fun _ h => h | exact fun _ h => h.sub (by repeat first | exact List.Sublist.refl _ | apply List.Sublist.cons_cons | apply List.Sublist.cons)) rfl rfl ?_ ?_
          · skip
            refine WS.appendNil (news := ints (ks.map Int.ofNat)) (n := (ks.map Int.ofNat).length) sl24 zv3 rfl (by decide) rfl rfl (fun u hu => h1.st hu) (by simp [ints, Value.oneCell']) (by omega) (by omega) (fun _ => rfl) ?_; intro v46 hv46 -- r7.4 ref.go:376
            refine WS.done ?_
            refine QS.then_AS ?_
            refine AS.one (i := 6) (by kernel_rfl) rfl (by first | exact fun _ h => h | exact fun _ h => h.sub (by repeat first | exact List.Sublist.refl _ | apply List.Sublist.cons_cons | apply List.Sublist.cons)) rfl ?_
            refine WS.buildI1 sl24 zv3 rfl (fun _ => rfl) ?_; intro v48 -- r7.6 ref.go:376
            refine WS.done ?_
            refine QS.then_AS ?_
            refine AS.one (i := 7) (by kernel_rfl) rfl (by first | exact fun _ h => h | exact fun _ h => h.sub (by repeat first | exact List.Sublist.refl _ | apply List.Sublist.cons_cons | apply List.Sublist.cons)) rfl ?_
            refine WS.appendI (j := 1) (xs := ks.map Int.ofNat) (ys := [i]) sl24 zv3 rfl rfl rfl (fun u hu => oints_SlI hu (j := 0) rfl) (by simp only [List.length_singleton]; omega) (by simp only [List.length_singleton]; omega) (fun _ => rfl) (fun _ => rfl) ?_; intro v49; refine WS.weak (fun u hu => by rw [hkm] at hu; exact hu) ?_ -- r7.7 ref.go:376
            refine WS.done ?_
            refine QS.then_AS ?_
            refine AS.one (i := 12) (by kernel_rfl) rfl (by first | exact fun _ h => h | exact fun _ h => h.sub (by repeat first | exact List.Sublist.refl _ | apply List.Sublist.cons_cons | apply List.Sublist.cons)) rfl ?_
            refine WS.callF rfl rfl ent79 (fun u hu => ih (ks ++ [i.toNat]) v49 u (hk.st hu) (h2.st hu) (oints_SlI hu (j := 1) rfl) hks2 (i + 1) (by omega) (N - 1) (by omega) (by simp; omega)) (fun _ => rfl) ?_; rintro v54 ⟨u54, hv54⟩ -- r7.12 ref.go:376
            refine WS.done ?_
            refine QS.then_AS ?_
            refine AS.take 13 rfl (by kernel_rfl) (by kernel_rfl) (by kernel_rfl) rfl rfl (det_move rfl) rfl rfl ?_ -- r7.13 ref.go:376
            refine AS.take 14 rfl (by kernel_rfl) (by kernel_rfl) (by kernel_rfl) rfl rfl (det_extract rfl rfl) rfl rfl ?_ -- r7.14 ref.go:376
            refine AS.take 15 rfl (by kernel_rfl) (by kernel_rfl) (by kernel_rfl) rfl rfl (det_extract rfl rfl) rfl rfl ?_ -- r7.15 ref.go:376
            refine AS.take 16 rfl (by kernel_rfl) (by kernel_rfl) (by kernel_rfl) rfl rfl (det_assign rfl) rfl rfl ?_ -- r7.16 ref.go:376
            refine AS.take 17 rfl (by kernel_rfl) (by kernel_rfl) (by kernel_rfl) rfl rfl (det_assign rfl) rfl rfl ?_ -- r7.17 ref.go:376
            refine AS.done (by kernel_rfl) (by first | exact fun _ h => h | exact fun _ h => h.sub (by repeat first | exact List.Sublist.refl _ | apply List.Sublist.cons_cons | apply List.Sublist.cons)) ?_
            refine QS.sel [0, 2] rfl ?_
            exact QS.head ((v54, ((moreF lw ls cs (m + 1) (ks ++ [i.toNat]) (usFrom cs xs (i + 1).toNat)).getD []).map Int.ofNat)) rfl rfl (fun _ => rfl)
          · skip
            refine WS.buildI1 sl24 zv3 rfl (fun _ => rfl) ?_; intro v48 -- r7.6 ref.go:376
            refine WS.done ?_
            refine QS.then_AS ?_
            refine AS.one (i := 4) (by kernel_rfl) rfl (by first | exact fun _ h => h | exact fun _ h => h.sub (by repeat first | exact List.Sublist.refl _ | apply List.Sublist.cons_cons | apply List.Sublist.cons)) rfl ?_
            refine WS.appendNil (news := ints (ks.map Int.ofNat)) (n := (ks.map Int.ofNat).length) sl24 zv3 rfl (by decide) rfl rfl (fun u hu => h1.st hu) (by simp [ints, Value.oneCell']) (by omega) (by omega) (fun _ => rfl) ?_; intro v46 hv46 -- r7.4 ref.go:376
            refine WS.done ?_
            refine QS.then_AS ?_
            refine AS.one (i := 7) (by kernel_rfl) rfl (by first | exact fun _ h => h | exact fun _ h => h.sub (by repeat first | exact List.Sublist.refl _ | apply List.Sublist.cons_cons | apply List.Sublist.cons)) rfl ?_
            refine WS.appendI (j := 0) (xs := ks.map Int.ofNat) (ys := [i]) sl24 zv3 rfl rfl rfl (fun u hu => oints_SlI hu (j := 1) rfl) (by simp only [List.length_singleton]; omega) (by simp only [List.length_singleton]; omega) (fun _ => rfl) (fun _ => rfl) ?_; intro v49; refine WS.weak (fun u hu => by rw [hkm] at hu; exact hu) ?_ -- r7.7 ref.go:376
            refine WS.done ?_
            refine QS.then_AS ?_
            refine AS.one (i := 12) (by kernel_rfl) rfl (by first | exact fun _ h => h | exact fun _ h => h.sub (by repeat first | exact List.Sublist.refl _ | apply List.Sublist.cons_cons | apply List.Sublist.cons)) rfl ?_
            refine WS.callF rfl rfl ent79 (fun u hu => ih (ks ++ [i.toNat]) v49 u (hk.st hu) (h2.st hu) (oints_SlI hu (j := 0) rfl) hks2 (i + 1) (by omega) (N - 1) (by omega) (by simp; omega)) (fun _ => rfl) ?_; rintro v54 ⟨u54, hv54⟩ -- r7.12 ref.go:376
            refine WS.done ?_
            refine QS.then_AS ?_
            refine AS.take 13 rfl (by kernel_rfl) (by kernel_rfl) (by kernel_rfl) rfl rfl (det_move rfl) rfl rfl ?_ -- r7.13 ref.go:376
            refine AS.take 14 rfl (by kernel_rfl) (by kernel_rfl) (by kernel_rfl) rfl rfl (det_extract rfl rfl) rfl rfl ?_ -- r7.14 ref.go:376
            refine AS.take 15 rfl (by kernel_rfl) (by kernel_rfl) (by kernel_rfl) rfl rfl (det_extract rfl rfl) rfl rfl ?_ -- r7.15 ref.go:376
            refine AS.take 16 rfl (by kernel_rfl) (by kernel_rfl) (by kernel_rfl) rfl rfl (det_assign rfl) rfl rfl ?_ -- r7.16 ref.go:376
            refine AS.take 17 rfl (by kernel_rfl) (by kernel_rfl) (by kernel_rfl) rfl rfl (det_assign rfl) rfl rfl ?_ -- r7.17 ref.go:376
            refine AS.done (by kernel_rfl) (by first | exact fun _ h => h | exact fun _ h => h.sub (by repeat first | exact List.Sublist.refl _ | apply List.Sublist.cons_cons | apply List.Sublist.cons)) ?_
            refine QS.sel [0, 2] rfl ?_
            exact QS.head ((v54, ((moreF lw ls cs (m + 1) (ks ++ [i.toNat]) (usFrom cs xs (i + 1).toNat)).getD []).map Int.ofNat)) rfl rfl (fun _ => rfl)
        · intro s t hs
          refine CS.seq ?_
          refine CS.region ?_
          refine WS.det rfl rfl rfl (det_move rfl) rfl ?_ -- r8.0 ref.go:376
          refine WS.done ?_
          refine QS.then_code ?_
          refine CS.cond rfl (fun hc4 => ?_) (fun hc4 => ?_) <;> (try simp only [decide_eq_true_eq, decide_eq_false_iff_not, Bool.and_eq_true, Bool.or_eq_true, Bool.and_eq_false_iff, Bool.or_eq_false_iff, Bool.not_eq_true', Bool.not_eq_false', ne_eq, Decidable.not_not, Bool.not_true, Bool.not_false, bne_iff_ne, bne_eq_false_iff_eq, beq_iff_eq, beq_eq_false_iff_ne] at hc4)
          · skip
            obtain ⟨r, hr⟩ := Option.isSome_iff_exists.1 hc4
            have hfin : moreF lw ls cs ((m + 1) + 1) ks (usFrom cs xs i0.toNat) = some r := by rw [hi3, huy]; exact moreF_some hr
            have hse := hs hc4
            refine CS.seq ?_
            refine CS.region ?_
            refine WS.det rfl rfl rfl (det_move rfl) rfl ?_ -- r9.0 ref.go:377
            refine WS.det rfl rfl rfl (det_assign rfl) rfl ?_ -- r9.1 ref.go:377
            refine WS.det rfl rfl rfl (det_assign rfl) rfl ?_ -- r9.2 ref.go:377
            refine WS.done ?_
            refine QS.then_code ?_
            refine CS.ret ?_
            refine QS.block_ret ?_
            refine QS.then_ret ?_
            refine QS.then_ret ?_
            refine QS.block_ret ?_
            refine QS.then_ret ?_
            exact out2 rfl rfl rfl (retIq (fun S u hs9 => Star.ro (j := 0) rfl hs9) (by rw [hse, hr, hfin]) (by rw [hfin]; rfl)) -- ret 1
          · skip
            have hr : (moreF lw ls cs (m + 1) (ks ++ [i.toNat]) (usFrom cs xs (i + 1).toNat)) = none := by
              cases h : (moreF lw ls cs (m + 1) (ks ++ [i.toNat]) (usFrom cs xs (i + 1).toNat)) with
              | none => rfl
              | some r => rw [h] at hc4; cases hc4
            refine CS.skip ?_
            refine QS.block_normal ?_
            refine QS.then_code ?_
            refine CS.region ?_
            refine WS.det rfl rfl rfl (det_move rfl) rfl ?_ -- r5.0 ref.go:372
            refine WS.det rfl rfl rfl (det_add rfl rfl (by omega)) rfl ?_ -- r5.1 ref.go:372
            refine WS.det rfl rfl rfl (det_assign rfl) rfl ?_ -- r5.2 ref.go:372
            refine WS.done ?_
            refine QS.sel [1] rfl ?_
            exact QS.head (i + 1) rfl rfl ⟨⟨by omega, by omega, by rw [hi3, huy, moreF_none hr]⟩, by omega⟩
    · skip
      have hfin : moreF lw ls cs ((m + 1) + 1) ks (usFrom cs xs i0.toNat) = none := by rw [hi3, usFrom_end (by omega)]; exact moreF_nil _ _
      refine CS.leave ?_
      refine QS.then_exit ?_
      refine QS.then_exit ?_
      refine QS.block_exit ?_
      refine QS.then_code ?_
      refine CS.seq ?_
      refine CS.region ?_
      refine WS.det rfl rfl rfl (det_assign rfl) rfl ?_ -- r10.0 ref.go:380
      refine WS.det rfl rfl rfl (det_assign rfl) rfl ?_ -- r10.1 ref.go:380
      refine WS.done ?_
      refine QS.then_code ?_
      refine CS.ret ?_
      exact out2 rfl rfl rfl (retIn (by rw [hfin]; rfl) (by rw [hfin]; rfl)) -- ret 2

theorem choose_c (lw ls : Int) (cs : List Clue) (gs : List Value) (cv : Value) (xs : List Int) (xv : Value) (hL : lockB lw ls = true) (hU : ∀ c ∈ cs, Use lw ls c xs) : ∀ (m : Nat) (ks : List Nat) (bv : Value) (w : World) (hk : ClS w cv cs gs) (h2 : SlI w xv xs) (h1 : SlI w bv (ks.map Int.ofNat)) (hks : ∀ k ∈ ks, k < cs.length) (i0 : Int) (hi0 : 0 ≤ i0 ∧ i0 ≤ cs.length) (N : Int) (hN : N = ((m + 1 : Nat) : Int)) (hm : ks.length + m ≤ 100), Calls Try.prog 79 #[.agg #[.int .i64 lw, .int .i64 ls], cv, xv, bv, .int .i64 i0, .int .i64 N] w (fun e w' => ∃ v : Value, (∃ u0, SlI u0 v (((moreF lw ls cs (m + 1) ks (usFrom cs xs i0.toNat)).getD []).map Int.ofNat)) ∧ RetF w (.tuple #[v, .bool (moreF lw ls cs (m + 1) ks (usFrom cs xs i0.toNat)).isSome]) (roI v (((moreF lw ls cs (m + 1) ks (usFrom cs xs i0.toNat)).getD []).map Int.ofNat)) e w')
  | 0, ks, bv, w, hk, h2, h1, hks, i0, hi0, N, hN, hm => choose1_c lw ls cs gs cv xs xv w hk h2 hL hU ks bv h1 hks i0 hi0 N hN hm
  | m + 1, ks, bv, w, hk, h2, h1, hks, i0, hi0, N, hN, hm => chooseS_c lw ls cs gs cv xs xv w hk h2 hL hU ks bv h1 hks i0 hi0 m (choose_c lw ls cs gs cv xs xv hL hU m) N hN hm
/-- From nothing on. -/
theorem chooseT_c (lw ls : Int) (cs : List Clue) (gs : List Value) (cv : Value) (xs : List Int) (xv : Value) (hL : lockB lw ls = true) (hU : ∀ c ∈ cs, Use lw ls c xs) (m : Nat) (w : World) (hk : ClS w cv cs gs) (h2 : SlI w xv xs) (N : Int) (hN : N = (m : Int)) (hm : m ≤ 50) :
    Calls Try.prog 79 #[.agg #[.int .i64 lw, .int .i64 ls], cv, xv, .slice none 0 0, .int .i64 0, .int .i64 N] w (fun e w' => ∃ v : Value, (∃ u0, SlI u0 v (((moreF lw ls cs m [] (usFrom cs xs 0)).getD []).map Int.ofNat)) ∧ RetF w (.tuple #[v, .bool (moreF lw ls cs m [] (usFrom cs xs 0)).isSome]) (roI v (((moreF lw ls cs m [] (usFrom cs xs 0)).getD []).map Int.ofNat)) e w') := by
  cases m with
  | zero =>
    have h0 := choose0_c lw ls cs gs cv xs xv w hk h2 hL hU [] (.slice none 0 0) (SlI.none w) (by simp) 0 (by omega) (by simp)
    rw [← moreF_isSome (us := usFrom cs xs 0)] at h0
    rw [show N = 0 by omega]
    refine h0.mono fun e w' h => ⟨.slice none 0 0, ⟨w', ?_⟩, ?_⟩
    · rw [moreF_zero hL]; exact SlI.none w'
    · have := retB_roI h
      rw [moreF_zero hL] at this ⊢
      exact this
  | succ m => exact choose_c lw ls cs gs cv xs xv hL hU m [] (.slice none 0 0) w hk h2 (SlI.none w) (by simp) 0 (by omega) N hN (by simp; omega)

theorem RChoose_c (lw ls : Int) (cs : List Clue) (gs : List Value) (cv : Value) (xs : List Int) (xv : Value) (w : World) (hk : ClS w cv cs gs) (h2 : SlI w xv xs) :
    Calls Try.prog 52 #[.agg #[.int .i64 lw, .int .i64 ls], cv, xv] w (fun e w' => ∃ x : Value, (∃ u0, SlI u0 x (if chE lw ls cs xs = 0 then ((chooseX lw ls cs xs).getD []).map Int.ofNat else [])) ∧ RetF w (.tuple #[x, .int .i64 (chE lw ls cs xs)]) (roI x (if chE lw ls cs xs = 0 then ((chooseX lw ls cs xs).getD []).map Int.ofNat else [])) e w') := by
  have hkl := hk.le
  refine enter Try.func52 rfl rfl (Nat.le_of_ble_eq_true rfl) ?_
  refine CS.seq ?_
  refine CS.region ?_
  refine WS.box rfl rfl (fun _ => rfl) ?_; intro b3 hb3 -- r0.0 ref.go:384
  refine WS.det rfl rfl rfl (det_assign rfl) rfl ?_ -- r0.1 ref.go:384
  refine WS.det rfl rfl rfl (det_assign rfl) rfl ?_ -- r0.2 ref.go:384
  refine WS.done ?_
  refine QS.then_code ?_
  refine CS.seq ?_
  refine CS.seq ?_
  refine CS.region ?_
  refine WS.det rfl rfl rfl ((by first | exact det_loadb0 (j := 0) rfl rfl tk23 | exact det_loadbN (j := 0) rfl rfl (by rfl) tk23 | exact det_loadwN rfl (by assumption) (by rfl) tk23 | exact det_loadbK (n := 2) (j := 0) rfl rfl rfl rfl tk23)) rfl ?_ -- r1.0 ref.go:385
  refine WS.det rfl rfl rfl (det_callB rfl rfl ent24 (fun u hu => RCheck_c _ _ u)) rfl ?_ -- r1.1 ref.go:385
  refine WS.det rfl rfl rfl (det_assign rfl) rfl ?_ -- r1.2 ref.go:385
  refine WS.done ?_
  refine QS.then_code ?_
  refine CS.seq ?_
  refine CS.region ?_
  refine WS.det rfl rfl rfl (det_move rfl) rfl ?_ -- r2.0 ref.go:385
  refine WS.det rfl rfl rfl (det_ne rfl rfl) rfl ?_ -- r2.1 ref.go:385
  refine WS.done ?_
  refine QS.then_code ?_
  refine CS.cond rfl (fun hc1 => ?_) (fun hc1 => ?_) <;> (try simp only [decide_eq_true_eq, decide_eq_false_iff_not, Bool.and_eq_true, Bool.or_eq_true, Bool.and_eq_false_iff, Bool.or_eq_false_iff, Bool.not_eq_true', Bool.not_eq_false', ne_eq, Decidable.not_not, Bool.not_true, Bool.not_false, bne_iff_ne, bne_eq_false_iff_eq, beq_iff_eq, beq_eq_false_iff_ne] at hc1)
  · skip
    refine CS.seq ?_
    refine CS.region ?_
    refine WS.det rfl rfl rfl (det_move rfl) rfl ?_ -- r3.0 ref.go:386
    refine WS.det rfl rfl rfl (det_assign rfl) rfl ?_ -- r3.1 ref.go:386
    refine WS.det rfl rfl rfl (det_assign rfl) rfl ?_ -- r3.2 ref.go:386
    refine WS.done ?_
    refine QS.then_code ?_
    refine CS.ret ?_
    refine QS.then_ret ?_
    exact out2 rfl rfl rfl (retIn (by simp [chE, hc1]) (by simp [chE, hc1])) -- ret 1
  · skip
    have hL : lockB lw ls = true := by
      cases h : lockB lw ls with
      | true => rfl
      | false => simp [lockE, h] at hc1
    refine CS.skip ?_
    refine QS.then_code ?_
    refine CS.seq ?_
    refine CS.seq ?_
    refine CS.region ?_
    refine WS.det rfl rfl rfl (det_move rfl) rfl ?_ -- r4.0 ref.go:388
    refine WS.det rfl rfl rfl ((by first | exact det_lenS sl31 rfl (by assumption) | exact det_lenS sl31 rfl (by first | exact SlL.sp (by assumption) | exact ClS.sp (by assumption)) | exact det_lenO sl31 rfl | exact det_lenV sl31 rfl ⟨_, _, rfl⟩)) rfl ?_ -- r4.1 ref.go:388
    refine WS.det rfl rfl rfl (det_gt rfl rfl) rfl ?_ -- r4.2 ref.go:388
    refine WS.done ?_
    refine QS.then_code ?_
    refine CS.cond rfl (fun hc2 => ?_) (fun hc2 => ?_) <;> (try simp only [decide_eq_true_eq, decide_eq_false_iff_not, Bool.and_eq_true, Bool.or_eq_true, Bool.and_eq_false_iff, Bool.or_eq_false_iff, Bool.not_eq_true', Bool.not_eq_false', ne_eq, Decidable.not_not, Bool.not_true, Bool.not_false, bne_iff_ne, bne_eq_false_iff_eq, beq_iff_eq, beq_eq_false_iff_ne] at hc2)
    · skip
      refine CS.seq ?_
      refine CS.region ?_
      refine WS.det rfl rfl rfl (det_assign rfl) rfl ?_ -- r5.0 ref.go:389
      refine WS.det rfl rfl rfl (det_assign rfl) rfl ?_ -- r5.1 ref.go:389
      refine WS.done ?_
      refine QS.then_code ?_
      refine CS.ret ?_
      refine QS.then_ret ?_
      exact out2 rfl rfl rfl (retIn (by simp [chE, hc1, show 12 < cs.length by omega]) (by simp [chE, hc1, show 12 < cs.length by omega])) -- ret 2
    · skip
      refine CS.skip ?_
      refine QS.then_code ?_
      refine CS.seq ?_
      refine CS.seq ?_
      refine CS.region ?_
      refine WS.det rfl rfl rfl ((by first | exact det_loadb0 (j := 0) rfl rfl tk23 | exact det_loadbN (j := 0) rfl rfl (by rfl) tk23 | exact det_loadwN rfl (by assumption) (by rfl) tk23 | exact det_loadbK (n := 2) (j := 0) rfl rfl rfl rfl tk23)) rfl ?_ -- r6.0 ref.go:391
      refine WS.det rfl rfl rfl (det_move rfl) rfl ?_ -- r6.1 ref.go:391
      refine WS.det rfl rfl rfl (det_callB rfl rfl ent33 (fun u hu => RCheckClues_c _ _ _ _ _ u (hk.st hu))) rfl ?_ -- r6.2 ref.go:391
      refine WS.det rfl rfl rfl (det_assign rfl) rfl ?_ -- r6.3 ref.go:391
      refine WS.done ?_
      refine QS.then_code ?_
      refine CS.seq ?_
      refine CS.region ?_
      refine WS.det rfl rfl rfl (det_move rfl) rfl ?_ -- r7.0 ref.go:391
      refine WS.det rfl rfl rfl (det_ne rfl rfl) rfl ?_ -- r7.1 ref.go:391
      refine WS.done ?_
      refine QS.then_code ?_
      refine CS.cond rfl (fun hc3 => ?_) (fun hc3 => ?_) <;> (try simp only [decide_eq_true_eq, decide_eq_false_iff_not, Bool.and_eq_true, Bool.or_eq_true, Bool.and_eq_false_iff, Bool.or_eq_false_iff, Bool.not_eq_true', Bool.not_eq_false', ne_eq, Decidable.not_not, Bool.not_true, Bool.not_false, bne_iff_ne, bne_eq_false_iff_eq, beq_iff_eq, beq_eq_false_iff_ne] at hc3)
      · skip
        refine CS.seq ?_
        refine CS.region ?_
        refine WS.det rfl rfl rfl (det_move rfl) rfl ?_ -- r8.0 ref.go:392
        refine WS.det rfl rfl rfl (det_assign rfl) rfl ?_ -- r8.1 ref.go:392
        refine WS.det rfl rfl rfl (det_assign rfl) rfl ?_ -- r8.2 ref.go:392
        refine WS.done ?_
        refine QS.then_code ?_
        refine CS.ret ?_
        refine QS.then_ret ?_
        exact out2 rfl rfl rfl (retIn (by simp [chE, hc1, show ¬ 12 < cs.length by omega, hc3]) (by simp [chE, hc1, show ¬ 12 < cs.length by omega, hc3])) -- ret 3
      · skip
        refine CS.skip ?_
        refine QS.then_code ?_
        refine CS.seq ?_
        refine CS.seq ?_
        refine CS.region ?_
        refine WS.det rfl rfl rfl ((by first | exact det_loadb0 (j := 0) rfl rfl tk23 | exact det_loadbN (j := 0) rfl rfl (by rfl) tk23 | exact det_loadwN rfl (by assumption) (by rfl) tk23 | exact det_loadbK (n := 2) (j := 0) rfl rfl rfl rfl tk23)) rfl ?_ -- r9.0 ref.go:394
        refine WS.det rfl rfl rfl (det_move rfl) rfl ?_ -- r9.1 ref.go:394
        refine WS.det rfl rfl rfl (det_callB rfl rfl ent59 (fun u hu => isCode_c _ _ _ _ u hL (h2.st hu))) rfl ?_ -- r9.2 ref.go:394
        refine WS.det rfl rfl rfl (det_not rfl) rfl ?_ -- r9.3 ref.go:394
        refine WS.done ?_
        refine QS.then_code ?_
        refine CS.cond rfl (fun hc4 => ?_) (fun hc4 => ?_) <;> (try simp only [decide_eq_true_eq, decide_eq_false_iff_not, Bool.and_eq_true, Bool.or_eq_true, Bool.and_eq_false_iff, Bool.or_eq_false_iff, Bool.not_eq_true', Bool.not_eq_false', ne_eq, Decidable.not_not, Bool.not_true, Bool.not_false, bne_iff_ne, bne_eq_false_iff_eq, beq_iff_eq, beq_eq_false_iff_ne] at hc4)
        · skip
          refine CS.seq ?_
          refine CS.region ?_
          refine WS.det rfl rfl rfl (det_assign rfl) rfl ?_ -- r10.0 ref.go:395
          refine WS.det rfl rfl rfl (det_assign rfl) rfl ?_ -- r10.1 ref.go:395
          refine WS.done ?_
          refine QS.then_code ?_
          refine CS.ret ?_
          refine QS.then_ret ?_
          exact out2 rfl rfl rfl (retIn (by have : codeE lw ls xs = 12 := (by simp [codeE, hL, hc4]); simp [chE, hc1, show ¬ 12 < cs.length by omega, hc3, this]) (by have : codeE lw ls xs = 12 := (by simp [codeE, hL, hc4]); simp [chE, hc1, show ¬ 12 < cs.length by omega, hc3, this])) -- ret 4
        · skip
          have hC := cluesE_clue hc3
          have hc5 := codeE_of hL hc4
          have hU := use_all hc3 hc5
          have hul := usFrom_len (cs := cs) (xs := xs)
          have hche : chE lw ls cs xs = if (chooseX lw ls cs xs).isNone then 3 else 0 := by
            have h12 : ¬ 12 < cs.length := by omega
            simp only [chE, hc1, h12, hc3, hc5, not_true_eq_false, if_false]
          refine CS.skip ?_
          refine QS.then_code ?_
          refine CS.seq ?_
          refine CS.seq ?_
          refine CS.region ?_
          refine WS.det rfl rfl rfl (det_assign rfl) rfl ?_ -- r11.0 ref.go:397
          refine WS.done ?_
          refine QS.then_code ?_
          refine CS.block ?_
          refine CS.loopM (σ := Int) [6, 7, 11, 12, 31, 32, 33, 34, 35, 36, 37, 38, 39, 40, 41, 42, 43, 44, 45, 46] (fun s => [(10, .int .i64 s)]) (fun _ => _) (fun s => 0 ≤ s ∧ s ≤ cs.length + 1 ∧ chF lw ls cs xs (s - 1).toNat = none) (fun s => (cs.length + 1 - s).toNat) 0 (fun _ _ => rfl) rfl rfl ⟨by omega, by omega, rfl⟩ ?_
          intro n t hs
          obtain ⟨hn1, hn2, hn3⟩ := hs
          refine CS.seq ?_
          refine CS.seq ?_
          refine CS.region ?_
          refine WS.det rfl rfl rfl (det_move rfl) rfl ?_ -- r12.0 ref.go:397
          refine WS.det rfl rfl rfl (det_move rfl) rfl ?_ -- r12.1 ref.go:397
          refine WS.det rfl rfl rfl ((by first | exact det_lenS sl31 rfl (by assumption) | exact det_lenS sl31 rfl (by first | exact SlL.sp (by assumption) | exact ClS.sp (by assumption)) | exact det_lenO sl31 rfl | exact det_lenV sl31 rfl ⟨_, _, rfl⟩)) rfl ?_ -- r12.2 ref.go:397
          refine WS.det rfl rfl rfl (det_le rfl rfl) rfl ?_ -- r12.3 ref.go:397
          refine WS.done ?_
          refine QS.then_code ?_
          refine CS.cond rfl (fun hc5 => ?_) (fun hc5 => ?_) <;> (try simp only [decide_eq_true_eq, decide_eq_false_iff_not, Bool.and_eq_true, Bool.or_eq_true, Bool.and_eq_false_iff, Bool.or_eq_false_iff, Bool.not_eq_true', Bool.not_eq_false', ne_eq, Decidable.not_not, Bool.not_true, Bool.not_false, bne_iff_ne, bne_eq_false_iff_eq, beq_iff_eq, beq_eq_false_iff_ne] at hc5)
          · skip
            refine CS.skip ?_
            refine QS.then_code ?_
            refine CS.seq ?_
            refine CS.block ?_
            refine CS.seq ?_
            refine CS.region ?_
            refine WS.det rfl rfl rfl ((by first | exact det_loadb0 (j := 0) rfl rfl tk23 | exact det_loadbN (j := 0) rfl rfl (by rfl) tk23 | exact det_loadwN rfl (by assumption) (by rfl) tk23 | exact det_loadbK (n := 2) (j := 0) rfl rfl rfl rfl tk23)) rfl ?_ -- r14.0 ref.go:398
            refine WS.det rfl rfl rfl (det_move rfl) rfl ?_ -- r14.1 ref.go:398
            refine WS.det rfl rfl rfl (det_move rfl) rfl ?_ -- r14.2 ref.go:398
            refine WS.det rfl rfl rfl (det_move rfl) rfl ?_ -- r14.3 ref.go:398
            refine WS.callF rfl rfl ent79 (fun u hu => chooseT_c lw ls cs gs cv xs xv hL hU n.toNat u (hk.st hu) (h2.st hu) n (by omega) (by omega)) (fun _ => rfl) ?_; rintro vm ⟨um, hvm⟩ -- r14.4 ref.go:398
            refine WS.det rfl rfl rfl (det_move rfl) rfl ?_ -- r14.5 ref.go:398
            refine WS.det rfl rfl rfl (det_extract rfl rfl) rfl ?_ -- r14.6 ref.go:398
            refine WS.det rfl rfl rfl (det_extract rfl rfl) rfl ?_ -- r14.7 ref.go:398
            refine WS.det rfl rfl rfl (det_assign rfl) rfl ?_ -- r14.8 ref.go:398
            refine WS.det rfl rfl rfl (det_assign rfl) rfl ?_ -- r14.9 ref.go:398
            refine WS.done ?_
            refine QS.then_code ?_
            refine CS.seq ?_
            refine CS.region ?_
            refine WS.det rfl rfl rfl (det_move rfl) rfl ?_ -- r15.0 ref.go:398
            refine WS.done ?_
            refine QS.then_code ?_
            refine CS.cond rfl (fun hc6 => ?_) (fun hc6 => ?_) <;> (try simp only [decide_eq_true_eq, decide_eq_false_iff_not, Bool.and_eq_true, Bool.or_eq_true, Bool.and_eq_false_iff, Bool.or_eq_false_iff, Bool.not_eq_true', Bool.not_eq_false', ne_eq, Decidable.not_not, Bool.not_true, Bool.not_false, bne_iff_ne, bne_eq_false_iff_eq, beq_iff_eq, beq_eq_false_iff_ne] at hc6)
            · skip
              obtain ⟨r, hr⟩ := Option.isSome_iff_exists.1 hc6
              have hle := moreF_le hr
              have hn0 : n.toNat = (n - 1).toNat + 1 := by
                rcases (show n = 0 ∨ 1 ≤ n by omega) with h | h
                · subst h; rw [show (0 : Int).toNat = 0 from rfl, moreF_zero hL] at hr; cases hr
                · omega
              have hfin : chooseX lw ls cs xs = some r := chF_found hn3 (hn0 ▸ hr) (by omega)
              rw [hfin] at hche
              have hche2 : chE lw ls cs xs = 0 := hche
              refine CS.seq ?_
              refine CS.region ?_
              refine WS.det rfl rfl rfl (det_move rfl) rfl ?_ -- r16.0 ref.go:399
              refine WS.det rfl rfl rfl (det_assign rfl) rfl ?_ -- r16.1 ref.go:399
              refine WS.det rfl rfl rfl (det_assign rfl) rfl ?_ -- r16.2 ref.go:399
              refine WS.done ?_
              refine QS.then_code ?_
              refine CS.ret ?_
              refine QS.block_ret ?_
              refine QS.then_ret ?_
              refine QS.then_ret ?_
              refine QS.block_ret ?_
              refine QS.then_ret ?_
              exact out2 rfl rfl rfl (retIq (v := vm) (fun S u hs => Star.ro (j := 0) rfl hs) (by rw [if_pos hche2, hfin, hr]) (by rw [hche2])) -- ret 5
            · skip
              have hr : moreF lw ls cs n.toNat [] (usFrom cs xs 0) = none := by
                cases h : moreF lw ls cs n.toNat [] (usFrom cs xs 0) with
                | none => rfl
                | some r => rw [h] at hc6; cases hc6
              refine CS.skip ?_
              refine QS.block_normal ?_
              refine QS.then_code ?_
              refine CS.region ?_
              refine WS.det rfl rfl rfl (det_move rfl) rfl ?_ -- r13.0 ref.go:397
              refine WS.det rfl rfl rfl (det_add rfl rfl (by omega)) rfl ?_ -- r13.1 ref.go:397
              refine WS.det rfl rfl rfl (det_assign rfl) rfl ?_ -- r13.2 ref.go:397
              refine WS.done ?_
              refine QS.sel [1] rfl ?_
              exact QS.head (n + 1) rfl rfl ⟨⟨by omega, by omega, by
                    rcases (show n = 0 ∨ 1 ≤ n by omega) with h | h
                    · subst h; rfl
                    · rw [show (n + 1 - 1).toNat = (n - 1).toNat + 1 by omega]; exact chF_next hn3 (by rw [show (n - 1).toNat + 1 = n.toNat by omega]; exact hr)⟩, by omega⟩
          · skip
            have hfin : chooseX lw ls cs xs = none := chF_end (n := (n - 1).toNat) (by omega) hn3
            rw [hfin] at hche
            have hche2 : chE lw ls cs xs = 3 := hche
            refine CS.leave ?_
            refine QS.then_exit ?_
            refine QS.then_exit ?_
            refine QS.block_exit ?_
            refine QS.then_code ?_
            refine CS.seq ?_
            refine CS.region ?_
            refine WS.det rfl rfl rfl (det_assign rfl) rfl ?_ -- r17.0 ref.go:402
            refine WS.det rfl rfl rfl (det_assign rfl) rfl ?_ -- r17.1 ref.go:402
            refine WS.done ?_
            refine QS.then_code ?_
            refine CS.ret ?_
            exact out2 rfl rfl rfl (retIn (by rw [if_neg (by rw [hche2]; decide)]) (by rw [hche2])) -- ret 6

theorem vast_c (lw ls most : Int) (w : World) : Calls Try.prog 50 #[.agg #[.int .i64 lw, .int .i64 ls], .int .i64 most] w (RetB w (.bool (lockB lw ls && decide (most < manyC lw ls)))) := by
  refine enter Try.func50 rfl rfl (Nat.le_of_ble_eq_true rfl) ?_
  refine CS.seq ?_
  refine CS.region ?_
  refine WS.box rfl rfl (fun _ => rfl) ?_; intro b2 hb2 -- r0.0 law.go:101
  refine WS.det rfl rfl rfl (det_assign rfl) rfl ?_ -- r0.1 law.go:101
  refine WS.done ?_
  refine QS.then_code ?_
  refine CS.seq ?_
  refine CS.seq ?_
  refine CS.region ?_
  refine WS.det rfl rfl rfl ((by first | exact det_loadb0 (j := 0) rfl rfl tk23 | exact det_loadbN (j := 0) rfl rfl (by rfl) tk23 | exact det_loadwN rfl (by assumption) (by rfl) tk23 | exact det_loadbK (n := 2) (j := 0) rfl rfl rfl rfl tk23)) rfl ?_ -- r1.0 law.go:102
  refine WS.det rfl rfl rfl (det_callB rfl rfl ent24 (fun u hu => RCheck_c _ _ u)) rfl ?_ -- r1.1 law.go:102
  refine WS.det rfl rfl rfl (det_ne rfl rfl) rfl ?_ -- r1.2 law.go:102
  refine WS.done ?_
  refine QS.then_code ?_
  refine CS.cond rfl (fun hc1 => ?_) (fun hc1 => ?_) <;> (try simp only [decide_eq_true_eq, decide_eq_false_iff_not, Bool.and_eq_true, Bool.or_eq_true, Bool.and_eq_false_iff, Bool.or_eq_false_iff, Bool.not_eq_true', Bool.not_eq_false', ne_eq, Decidable.not_not, Bool.not_true, Bool.not_false, bne_iff_ne, bne_eq_false_iff_eq, beq_iff_eq, beq_eq_false_iff_ne] at hc1)
  · skip
    refine CS.seq ?_
    refine CS.region ?_
    refine WS.det rfl rfl rfl (det_assign rfl) rfl ?_ -- r2.0 law.go:103
    refine WS.done ?_
    refine QS.then_code ?_
    refine CS.ret ?_
    refine QS.then_ret ?_
    exact out1 rfl rfl (retBe (by cases h : lockB lw ls with
          | true => exact absurd (by simp [lockE, h]) hc1
          | false => rfl)) -- ret 1
  · skip
    have hL : lockB lw ls = true := by
      cases h : lockB lw ls with
      | true => rfl
      | false => simp [lockE, h] at hc1
    have hl := lock_of hL
    refine CS.skip ?_
    refine QS.then_code ?_
    refine CS.seq ?_
    refine CS.region ?_
    refine WS.det rfl rfl rfl (det_assign rfl) rfl ?_ -- r3.0 law.go:105
    refine WS.done ?_
    refine QS.then_code ?_
    refine CS.seq ?_
    refine CS.seq ?_
    refine CS.region ?_
    refine WS.det rfl rfl rfl (det_assign rfl) rfl ?_ -- r4.0 law.go:106
    refine WS.done ?_
    refine QS.then_code ?_
    refine CS.block ?_
    refine CS.loopM (σ := Int × Int) [10, 11, 12, 13, 14, 15, 16, 17, 18, 19] (fun s => [(5, .int .i64 s.2), (6, .int .i64 s.1)]) (fun _ => _) (fun s => 0 ≤ s.1 ∧ s.1 ≤ lw ∧ s.2 = ls ^ s.1.toNat) (fun s => (lw - s.1).toNat) (0, 1) (fun _ _ => rfl) rfl rfl ⟨by simp, by simp; omega, by simp⟩ ?_
    intro s t hs
    obtain ⟨hs1, hs2, hs3⟩ := hs
    refine CS.seq ?_
    refine CS.seq ?_
    refine CS.region ?_
    refine WS.det rfl rfl rfl (det_move rfl) rfl ?_ -- r5.0 law.go:106
    refine WS.det rfl rfl rfl ((by first | exact det_fieldAddr rfl fo23_0 | exact det_fieldAddrS rfl fo23_0)) rfl ?_ -- r5.1 law.go:106
    refine WS.det rfl rfl rfl ((by first | exact det_loadb (j := 0) rfl rfl rfl tk3 | exact det_loadw rfl (by assumption) rfl tk3)) rfl ?_ -- r5.2 law.go:106
    refine WS.det rfl rfl rfl (det_lt rfl rfl) rfl ?_ -- r5.3 law.go:106
    refine WS.done ?_
    refine QS.then_code ?_
    refine CS.cond rfl (fun hc2 => ?_) (fun hc2 => ?_) <;> (try simp only [decide_eq_true_eq, decide_eq_false_iff_not, Bool.and_eq_true, Bool.or_eq_true, Bool.and_eq_false_iff, Bool.or_eq_false_iff, Bool.not_eq_true', Bool.not_eq_false', ne_eq, Decidable.not_not, Bool.not_true, Bool.not_false, bne_iff_ne, bne_eq_false_iff_eq, beq_iff_eq, beq_eq_false_iff_ne] at hc2)
    · skip
      have hb2 := pow_bd4 hl.2.2.1 hl.2.2.2 (k := (s.1 + 1).toNat) (by omega)
      rw [pow_next hs1, ← hs3] at hb2
      refine CS.skip ?_
      refine QS.then_code ?_
      refine CS.seq ?_
      refine CS.block ?_
      refine CS.region ?_
      refine WS.det rfl rfl rfl (det_move rfl) rfl ?_ -- r7.0 law.go:107
      refine WS.det rfl rfl rfl ((by first | exact det_fieldAddr rfl fo23_1 | exact det_fieldAddrS rfl fo23_1)) rfl ?_ -- r7.1 law.go:107
      refine WS.det rfl rfl rfl ((by first | exact det_loadb (j := 0) rfl rfl rfl tk3 | exact det_loadw rfl (by assumption) rfl tk3)) rfl ?_ -- r7.2 law.go:107
      refine WS.det rfl rfl rfl (det_mul rfl rfl (by omega)) rfl ?_ -- r7.3 law.go:107
      refine WS.det rfl rfl rfl (det_assign rfl) rfl ?_ -- r7.4 law.go:107
      refine WS.done ?_
      refine QS.block_normal ?_
      refine QS.then_code ?_
      refine CS.region ?_
      refine WS.det rfl rfl rfl (det_move rfl) rfl ?_ -- r6.0 law.go:106
      refine WS.det rfl rfl rfl (det_add rfl rfl (by omega)) rfl ?_ -- r6.1 law.go:106
      refine WS.det rfl rfl rfl (det_assign rfl) rfl ?_ -- r6.2 law.go:106
      refine WS.done ?_
      exact QS.head ((s.1 + 1, s.2 * ls)) rfl rfl ⟨⟨by simp; omega, by simp; omega, by simp only; rw [pow_next hs1, hs3]⟩, by simp; omega⟩
    · skip
      have he : s.1 = lw := by omega
      rw [he, ← manyC_pow hl.2.2.1] at hs3
      refine CS.leave ?_
      refine QS.then_exit ?_
      refine QS.then_exit ?_
      refine QS.block_exit ?_
      refine QS.then_code ?_
      refine CS.seq ?_
      refine CS.region ?_
      refine WS.det rfl rfl rfl (det_move rfl) rfl ?_ -- r8.0 law.go:109
      refine WS.det rfl rfl rfl (det_move rfl) rfl ?_ -- r8.1 law.go:109
      refine WS.det rfl rfl rfl (det_gt rfl rfl) rfl ?_ -- r8.2 law.go:109
      refine WS.det rfl rfl rfl (det_assign rfl) rfl ?_ -- r8.3 law.go:109
      refine WS.done ?_
      refine QS.then_code ?_
      refine CS.ret ?_
      exact out1 rfl rfl (retBe (by rw [hL, hs3]; simp)) -- ret 2

end Go.Proofs.Ytldagbcceefcdaa
