/- Contracts of functions, printed by a program of the prover (gen.py). -/
import Derived.Test.YtldagbcceefcdaaL8
import Derived.Test.YtldagbcceefcdaaLol
namespace Go.Proofs.Ytldagbcceefcdaa
open Go.RowKit Go.Proofs
set_option maxRecDepth 100000
set_option linter.unusedVariables false
set_option linter.unusedSimpArgs false

theorem singleF_c (lw ls : Int) (cs : List Clue) (b : Nat) (e : TypeId) (rv : Value) (gs : List Value) (w : World) (hL : lockB lw ls = true) (hch : ChB w b e (flagsOf lw ls cs) (manyC lw ls) rv gs) (i k : Int) (b2 b6 : Nat) (e2 e6 : TypeId) (hi : 0 ≤ i ∧ i < cs.length) (hk : 0 ≤ k ∧ k < manyC lw ls) (hb2 : BlkAt w b2 [.pointer (some ⟨b, 0, none⟩)] e2) (hb6 : BlkAt w b6 [.int .i64 k] e6) :
    Calls Try.prog 98 #[.int .i64 i, .pointer (some ⟨b2, 0, none⟩), .pointer (some ⟨b6, 0, none⟩)] w (RetB w (.bool (!holdsT (nth cs i) (nth (allC lw ls) k)))) := by
  have hbk := hch.bk
  have hfl := flagsOf_len lw ls cs
  have hrow := flagsOf_at (w := lw) (s := ls) hi.1 hi.2
  have hal := allC_len lw ls
  have hrl : (nth (flagsOf lw ls cs) i).length = manyC lw ls := by rw [hrow, List.length_map, hal]
  have hnm : nth (nth (flagsOf lw ls cs) i) k = holdsT (nth cs i) (nth (allC lw ls) k) := by
    rw [hrow]
    have : k.toNat < (allC lw ls).length := by omega
    simp [nth, List.getD, this]
  refine enter Try.func98 rfl rfl (Nat.le_of_ble_eq_true rfl) ?_
  refine CS.seq ?_
  refine CS.region ?_
  refine WS.det rfl rfl rfl (det_assign rfl) rfl ?_ -- r0.0 codes.go:352
  refine WS.done ?_
  refine QS.then_code ?_
  refine CS.seq ?_
  refine CS.draw mixed (by kernel_rfl) (by kernel_rfl) ?_
  refine DS.det rfl rfl ((by first | exact det_loadb (j := 0) rfl rfl rfl tk97 | exact det_loadb (j := 1) rfl rfl rfl tk97 | exact det_loadb (j := 2) rfl rfl rfl tk97 | exact det_loadb (j := 3) rfl rfl rfl tk97 | exact det_loadw rfl (by assumption) rfl tk97)) rfl ?_ -- r1.0 codes.go:352
  refine DS.det rfl rfl (det_nilCheck rfl) rfl ?_ -- r1.1 codes.go:352
  refine DS.det rfl rfl ((by first | exact det_fieldAddr rfl fo100_0 | exact det_fieldAddrS rfl fo100_0)) rfl ?_ -- r1.2 codes.go:352
  refine DS.det rfl rfl ((by first | exact det_loadb (j := 0) rfl rfl rfl tk98 | exact det_loadb (j := 1) rfl rfl rfl tk98 | exact det_loadb (j := 2) rfl rfl rfl tk98 | exact det_loadb (j := 3) rfl rfl rfl tk98 | exact det_loadw rfl (by assumption) rfl tk98)) rfl ?_ -- r1.3 codes.go:352
  refine DS.det rfl rfl (det_move rfl) rfl ?_ -- r1.4 codes.go:352
  refine DS.det rfl rfl (det_indexS sl98 rfl rfl hch.sp hi.1 (by omega)) rfl ?_ -- r1.5 codes.go:352
  refine DS.det rfl rfl (det_chRow rfl hch hi.1 (by omega) tk102) rfl ?_ -- r1.6 codes.go:352
  refine DS.det rfl rfl ((by first | exact det_ldI rfl (by assumption) (by omega) tk3 | exact det_loadb (j := 0) rfl rfl rfl tk3 | exact det_loadb (j := 1) rfl rfl rfl tk3 | exact det_loadb (j := 2) rfl rfl rfl tk3 | exact det_loadb (j := 3) rfl rfl rfl tk3 | exact det_loadw rfl (by assumption) rfl tk3)) rfl ?_ -- r1.7 codes.go:352
  refine DS.det rfl rfl (det_indexS sl102 rfl rfl (hch.el i hi.1 (by omega)) hk.1 (by omega)) rfl ?_ -- r1.8 codes.go:352
  refine DS.det rfl rfl (det_chFlag rfl hch hi.1 (by omega) (by omega) tk4) rfl ?_ -- r1.9 codes.go:352
  refine DS.det rfl rfl (det_not rfl) rfl ?_ -- r1.10 codes.go:352
  refine DS.det rfl rfl (det_assign rfl) rfl ?_ -- r1.11 codes.go:352
  refine DS.done ?_
  refine QS.then_code ?_
  refine CS.ret ?_
  exact out1 rfl rfl (retBe (by rw [hnm])) -- ret 1

theorem single_c (lw ls : Int) (cs : List Clue) (b : Nat) (e : TypeId) (rv : Value) (gs : List Value) (w : World) (hL : lockB lw ls = true) (hch : ChB w b e (flagsOf lw ls cs) (manyC lw ls) rv gs) (ks : List Nat) (vk : Value) (h1 : SlI w vk (ks.map Int.ofNat)) (hks : ∀ k ∈ ks, k < cs.length) :
    Calls Try.prog 94 #[.pointer (some ⟨b, 0, none⟩), vk] w (RetB w (.bool (decide ((readL lw ls (pickN cs ks)).length = 1)))) := by
  have hbk := hch.bk
  have hmc := manyC_le hL
  have hal := allC_len lw ls
  have hkl : (ks.map Int.ofNat).length = ks.length := by simp
  refine enter Try.func94 rfl rfl (Nat.le_of_ble_eq_true rfl) ?_
  refine CS.seq ?_
  refine CS.region ?_
  refine WS.box rfl rfl (fun _ => rfl) ?_; intro b2 hb2 -- r0.0 codes.go:349
  refine WS.det rfl rfl rfl (det_assign rfl) rfl ?_ -- r0.1 codes.go:349
  refine WS.done ?_
  refine QS.then_code ?_
  refine CS.seq ?_
  refine CS.region ?_
  refine WS.det rfl rfl rfl (det_assign rfl) rfl ?_ -- r1.0 codes.go:350
  refine WS.done ?_
  refine QS.then_code ?_
  refine CS.seq ?_
  refine CS.seq ?_
  refine CS.region ?_
  refine WS.det rfl rfl rfl ((by first | exact det_loadb (j := 0) rfl rfl rfl tk97 | exact det_loadw rfl (by assumption) rfl tk97)) rfl ?_ -- r2.0 codes.go:351
  refine WS.det rfl rfl rfl (det_nilCheck rfl) rfl ?_ -- r2.1 codes.go:351
  refine WS.det rfl rfl rfl ((by first | exact det_fieldAddr rfl fo100_1 | exact det_fieldAddrS rfl fo100_1)) rfl ?_ -- r2.2 codes.go:351
  refine WS.det rfl rfl rfl ((by first | exact det_ldI rfl (by assumption) (by omega) tk3 | exact det_loadb (j := 0) rfl rfl rfl tk3 | exact det_loadb (j := 1) rfl rfl rfl tk3 | exact det_loadb (j := 2) rfl rfl rfl tk3 | exact det_loadb (j := 3) rfl rfl rfl tk3 | exact det_loadw rfl (by assumption) rfl tk3)) rfl ?_ -- r2.3 codes.go:351
  refine WS.det rfl rfl rfl (det_move rfl) rfl ?_ -- r2.4 codes.go:351
  refine WS.done ?_
  refine QS.then_code ?_
  refine CS.block ?_
  refine CS.loopM (σ := Int × Int) [6, 12, 13, 14, 15, 16, 17, 18, 19, 20] (fun s => [(5, .int .i64 s.2), (11, .int .i64 s.1)]) (fun _ => _) (fun s => 0 ≤ s.1 ∧ s.1 ≤ manyC lw ls ∧ s.2 = (readTo lw ls (pickN cs ks) s.1.toNat).length) (fun s => (manyC lw ls - s.1).toNat) (0, 0) (fun _ _ => rfl) rfl rfl ⟨by simp, by simp, by simp [readTo]⟩ ?_
  intro s t hs
  obtain ⟨hs1, hs2, hs3⟩ := hs
  refine CS.seq ?_
  refine CS.region ?_
  refine WS.det rfl rfl rfl (det_lt rfl rfl) rfl ?_ -- r3.0 codes.go:351
  refine WS.done ?_
  refine QS.then_code ?_
  refine CS.seq ?_
  refine CS.cond rfl (fun hc1 => ?_) (fun hc1 => ?_) <;> (try simp only [decide_eq_true_eq, decide_eq_false_iff_not, Bool.and_eq_true, Bool.or_eq_true, Bool.and_eq_false_iff, Bool.or_eq_false_iff, Bool.not_eq_true', Bool.not_eq_false', ne_eq, Decidable.not_not, Bool.not_true, Bool.not_false, bne_iff_ne, bne_eq_false_iff_eq, beq_iff_eq, beq_eq_false_iff_ne] at hc1)
  · skip
    have hlt : s.1.toNat < manyC lw ls := by omega
    have e1 : (s.1 + 1).toNat = s.1.toNat + 1 := by omega
    have hca : codeAt lw ls s.1.toNat = nth (allC lw ls) s.1 := by
      have := allC_at (w := lw) (s := ls) hlt
      simp [nth, List.getD, this]
    have hrt := readTo_len (w := lw) (s := ls) (cs := pickN cs ks) (n := s.1.toNat)
    refine CS.skip ?_
    refine QS.then_code ?_
    refine CS.seq ?_
    refine CS.block ?_
    refine CS.seq ?_
    refine CS.region ?_
    refine WS.det rfl rfl rfl (det_move rfl) rfl ?_ -- r4.0 codes.go:351
    refine WS.alloc zv3 (fun _ => rfl) ?_; intro b6 hb6 -- r4.1 codes.go:351
    first | refine WS.store (j := 0) rfl rfl (by first | decide | omega | (simp; done) | (simp; omega)) rfl (by first | rfl | assumption) tk3 rfl rfl ?_ | refine WS.store (j := 0) rfl rfl (by first | decide | omega | (simp; done) | (simp; omega)) rfl (by first | rfl | assumption) tk3 (lset_eq _ _ _) rfl ?_ -- r4.2 codes.go:351
    refine WS.done ?_
    refine QS.then_code ?_
    refine CS.seq ?_
    refine CS.region ?_
    refine WS.det rfl rfl rfl (det_move rfl) rfl ?_ -- r5.0 codes.go:352
    refine WS.det rfl rfl rfl (det_makeFunc rfl) rfl ?_ -- r5.1 codes.go:352
    refine WS.det rfl rfl rfl (det_callB rfl rfl ent96 (fun u hu => ContainsI_c (ks.map Int.ofNat) vk u (h1.st hu) _ [.pointer (some ⟨b2, 0, none⟩), .pointer (some ⟨b6, 0, none⟩)] (fun i => !holdsT (nth cs i) (nth (allC lw ls) s.1)) ent98 (fun u2 h2 i h3 h4 => singleF_c lw ls cs b e rv gs u2 hL ((hch.st hu).ext h2) _ s.1 b2 b6 _ _ (by rw [ofNat_at ks h3 (by omega)]; have hlt2 : i.toNat < ks.length := (by omega); have := hks _ (List.getElem_mem hlt2); simp only [List.getD, List.getElem?_eq_getElem hlt2, Option.getD_some]; omega) (by omega) ((st_blk hu (j := 1) rfl).ext h2) ((st_blk hu (j := 0) rfl).ext h2)))) rfl ?_ -- r5.2 codes.go:352
    refine WS.det rfl rfl rfl (det_not rfl) rfl ?_ -- r5.3 codes.go:352
    refine WS.done ?_
    refine QS.then_code ?_
    refine CS.cond rfl (fun hc2 => ?_) (fun hc2 => ?_) <;> (try simp only [decide_eq_true_eq, decide_eq_false_iff_not, Bool.and_eq_true, Bool.or_eq_true, Bool.and_eq_false_iff, Bool.or_eq_false_iff, Bool.not_eq_true', Bool.not_eq_false', ne_eq, Decidable.not_not, Bool.not_true, Bool.not_false, bne_iff_ne, bne_eq_false_iff_eq, beq_iff_eq, beq_eq_false_iff_ne] at hc2)
    · skip
      rw [any_fit, Bool.not_eq_false'] at hc2
      refine CS.region ?_
      refine WS.det rfl rfl rfl (det_move rfl) rfl ?_ -- r6.0 codes.go:353
      refine WS.det rfl rfl rfl (det_add rfl rfl (by omega)) rfl ?_ -- r6.1 codes.go:353
      refine WS.det rfl rfl rfl (det_assign rfl) rfl ?_ -- r6.2 codes.go:353
      refine WS.done ?_
      refine QS.block_normal ?_
      refine QS.then_code ?_
      refine CS.region ?_
      refine WS.det rfl rfl rfl (det_add rfl rfl (by omega)) rfl ?_ -- r7.0 codes.go:351
      refine WS.det rfl rfl rfl (det_move rfl) rfl ?_ -- r7.1 codes.go:351
      refine WS.done ?_
      refine QS.sel [1] rfl ?_
      exact QS.head ((s.1 + 1, s.2 + 1)) rfl rfl ⟨⟨by simp; omega, by simp; omega, by simp only; rw [e1, readTo_yes hlt (by rw [hca]; exact hc2), hs3]; simp⟩, by simp; omega⟩
    · skip
      rw [any_fit, Bool.not_eq_true'] at hc2
      refine CS.skip ?_
      refine QS.block_normal ?_
      refine QS.then_code ?_
      refine CS.region ?_
      refine WS.det rfl rfl rfl (det_add rfl rfl (by omega)) rfl ?_ -- r7.0 codes.go:351
      refine WS.det rfl rfl rfl (det_move rfl) rfl ?_ -- r7.1 codes.go:351
      refine WS.done ?_
      refine QS.sel [1] rfl ?_
      exact QS.head ((s.1 + 1, s.2)) rfl rfl ⟨⟨by simp; omega, by simp; omega, by simp only; rw [e1, readTo_no hlt (by rw [hca]; exact hc2), hs3]⟩, by simp; omega⟩
  · skip
    refine CS.leave ?_
    refine QS.then_exit ?_
    refine QS.then_exit ?_
    refine QS.block_exit ?_
    refine QS.then_code ?_
    refine CS.seq ?_
    refine CS.region ?_
    refine WS.det rfl rfl rfl (det_move rfl) rfl ?_ -- r8.0 codes.go:356
    refine WS.det rfl rfl rfl (det_eq rfl rfl) rfl ?_ -- r8.1 codes.go:356
    refine WS.det rfl rfl rfl (det_assign rfl) rfl ?_ -- r8.2 codes.go:356
    refine WS.done ?_
    refine QS.then_code ?_
    refine CS.ret ?_
    exact out1 rfl rfl (retBe (by rw [hs3, readTo_all (by omega)]; simp; omega)) -- ret 1

theorem more0_c (lw ls : Int) (cs : List Clue) (b : Nat) (e : TypeId) (rv : Value) (gs : List Value) (w : World) (hL : lockB lw ls = true) (hch : ChB w b e (flagsOf lw ls cs) (manyC lw ls) rv gs) (ks us : List Nat) (vk vu : Value) (h1 : SlI w vk (ks.map Int.ofNat)) (h2 : SlI w vu (us.map Int.ofNat)) (hks : ∀ k ∈ ks, k < cs.length) (hus : ∀ k ∈ us, k < cs.length) :
    Calls Try.prog 78 #[.pointer (some ⟨b, 0, none⟩), vk, vu, .int .i64 0] w (RetB w (if (readL lw ls (pickN cs ks)).length = 1 then vk else .slice none 0 0)) := by
  refine enter Try.func78 rfl rfl (Nat.le_of_ble_eq_true rfl) ?_
  refine CS.seq ?_
  refine CS.region ?_
  refine WS.det rfl rfl rfl (det_assign rfl) rfl ?_ -- r0.0 codes.go:360
  refine WS.done ?_
  refine QS.then_code ?_
  refine CS.seq ?_
  refine CS.seq ?_
  refine CS.region ?_
  refine WS.det rfl rfl rfl (det_move rfl) rfl ?_ -- r1.0 codes.go:361
  refine WS.det rfl rfl rfl (det_eq rfl rfl) rfl ?_ -- r1.1 codes.go:361
  refine WS.done ?_
  refine QS.then_code ?_
  refine CS.cond rfl (fun hc1 => ?_) (fun hc1 => ?_) <;> (try simp only [decide_eq_true_eq, decide_eq_false_iff_not, Bool.and_eq_true, Bool.or_eq_true, Bool.and_eq_false_iff, Bool.or_eq_false_iff, Bool.not_eq_true', Bool.not_eq_false', ne_eq, Decidable.not_not, Bool.not_true, Bool.not_false, bne_iff_ne, bne_eq_false_iff_eq, beq_iff_eq, beq_eq_false_iff_ne] at hc1)
  · skip
    refine CS.seq ?_
    refine CS.seq ?_
    refine CS.region ?_
    refine WS.det rfl rfl rfl (det_move rfl) rfl ?_ -- r2.0 codes.go:362
    refine WS.det rfl rfl rfl (det_move rfl) rfl ?_ -- r2.1 codes.go:362
    refine WS.det rfl rfl rfl (det_callB rfl rfl ent94 (fun u hu => single_c lw ls cs b e rv gs u hL (hch.st hu) ks vk (h1.st hu) hks)) rfl ?_ -- r2.2 codes.go:362
    refine WS.done ?_
    refine QS.then_code ?_
    refine CS.cond rfl (fun hc2 => ?_) (fun hc2 => ?_) <;> (try simp only [decide_eq_true_eq, decide_eq_false_iff_not, Bool.and_eq_true, Bool.or_eq_true, Bool.and_eq_false_iff, Bool.or_eq_false_iff, Bool.not_eq_true', Bool.not_eq_false', ne_eq, Decidable.not_not, Bool.not_true, Bool.not_false, bne_iff_ne, bne_eq_false_iff_eq, beq_iff_eq, beq_eq_false_iff_ne] at hc2)
    · skip
      refine CS.seq ?_
      refine CS.region ?_
      refine WS.det rfl rfl rfl (det_move rfl) rfl ?_ -- r3.0 codes.go:363
      refine WS.det rfl rfl rfl (det_assign rfl) rfl ?_ -- r3.1 codes.go:363
      refine WS.done ?_
      refine QS.then_code ?_
      refine CS.ret ?_
      refine QS.then_ret ?_
      refine QS.then_ret ?_
      exact out1 rfl rfl (retBe (by rw [if_pos hc2])) -- ret 1
    · skip
      refine CS.skip ?_
      refine QS.then_code ?_
      refine CS.seq ?_
      refine CS.region ?_
      refine WS.det rfl rfl rfl (det_assign rfl) rfl ?_ -- r4.0 codes.go:365
      refine WS.done ?_
      refine QS.then_code ?_
      refine CS.ret ?_
      refine QS.then_ret ?_
      exact out1 rfl rfl (retBe (by rw [if_neg hc2])) -- ret 2
  · skip
    exact absurd trivial hc1

set_option maxHeartbeats 1000000 in
theorem more1_c (lw ls : Int) (cs : List Clue) (b : Nat) (e : TypeId) (rv : Value) (gs : List Value) (w : World) (hL : lockB lw ls = true) (hch : ChB w b e (flagsOf lw ls cs) (manyC lw ls) rv gs)  (ks us : List Nat) (vk vu : Value) (h1 : SlI w vk (ks.map Int.ofNat)) (h2 : SlI w vu (us.map Int.ofNat)) (hks : ∀ k ∈ ks, k < cs.length) (hus : ∀ k ∈ us, k < cs.length) (N : Int) (hN : N = ((0 + 1 : Nat) : Int)) (hm : ks.length + 0 ≤ 100) (hul : us.length ≤ 1000) :
    Calls Try.prog 78 #[.pointer (some ⟨b, 0, none⟩), vk, vu, .int .i64 N] w (fun e w' => ∃ v : Value, (nilB v = (moreF lw ls cs (0 + 1) ks us).isNone ∧ ∃ u0, SlI u0 v (((moreF lw ls cs (0 + 1) ks us).getD []).map Int.ofNat)) ∧ RetF w v (roI v (((moreF lw ls cs (0 + 1) ks us).getD []).map Int.ofNat)) e w') := by
  have hlu : (us.map Int.ofNat).length = us.length := by simp
  have hlk : (ks.map Int.ofNat).length = ks.length := by simp
  have hll := h1.le
  refine enter Try.func78 rfl rfl (Nat.le_of_ble_eq_true rfl) ?_
  refine CS.seq ?_
  refine CS.region ?_
  refine WS.det rfl rfl rfl (det_assign rfl) rfl ?_ -- r0.0 codes.go:360
  refine WS.done ?_
  refine QS.then_code ?_
  refine CS.seq ?_
  refine CS.seq ?_
  refine CS.region ?_
  refine WS.det rfl rfl rfl (det_move rfl) rfl ?_ -- r1.0 codes.go:361
  refine WS.det rfl rfl rfl (det_eq rfl rfl) rfl ?_ -- r1.1 codes.go:361
  refine WS.done ?_
  refine QS.then_code ?_
  refine CS.cond rfl (fun hc1 => ?_) (fun hc1 => ?_) <;> (try simp only [decide_eq_true_eq, decide_eq_false_iff_not, Bool.and_eq_true, Bool.or_eq_true, Bool.and_eq_false_iff, Bool.or_eq_false_iff, Bool.not_eq_true', Bool.not_eq_false', ne_eq, Decidable.not_not, Bool.not_true, Bool.not_false, bne_iff_ne, bne_eq_false_iff_eq, beq_iff_eq, beq_eq_false_iff_ne] at hc1)
  · skip
    omega
  · skip
    refine CS.skip ?_
    refine QS.then_code ?_
    refine CS.seq ?_
    refine CS.seq ?_
    refine CS.region ?_
    refine WS.det rfl rfl rfl (det_move rfl) rfl ?_ -- r5.0 codes.go:367
    refine WS.det rfl rfl rfl ((by first | exact det_lenS sl24 rfl (by assumption) | exact det_lenS sl24 rfl (by first | exact SlL.sp (by assumption) | exact ClS.sp (by assumption)) | exact det_lenO sl24 rfl | exact det_lenV sl24 rfl ⟨_, _, rfl⟩)) rfl ?_ -- r5.1 codes.go:367
    refine WS.det rfl rfl rfl (det_move rfl) rfl ?_ -- r5.2 codes.go:367
    refine WS.done ?_
    refine QS.then_code ?_
    refine CS.block ?_
    refine CS.loopM (σ := Int) [8, 9, 10, 11, 21, 22, 23, 24, 25, 26, 27, 28, 29, 30, 31, 32, 33, 34, 35, 36, 37, 38, 39, 40, 41] (fun s => [(20, .int .i64 s)]) (fun _ => _) (fun s => 0 ≤ s ∧ s ≤ us.length ∧ moreF lw ls cs (0 + 1) ks us = moreF lw ls cs (0 + 1) ks (us.drop s.toNat)) (fun s => (us.length - s).toNat) 0 (fun _ _ => rfl) rfl rfl ⟨by omega, by omega, by simp⟩ ?_
    intro q t hs
    obtain ⟨hq1, hq2, hq4⟩ := hs
    refine CS.seq ?_
    refine CS.region ?_
    refine WS.det rfl rfl rfl (det_lt rfl rfl) rfl ?_ -- r6.0 codes.go:367
    refine WS.done ?_
    refine QS.then_code ?_
    refine CS.seq ?_
    refine CS.cond rfl (fun hc2 => ?_) (fun hc2 => ?_) <;> (try simp only [decide_eq_true_eq, decide_eq_false_iff_not, Bool.and_eq_true, Bool.or_eq_true, Bool.and_eq_false_iff, Bool.or_eq_false_iff, Bool.not_eq_true', Bool.not_eq_false', ne_eq, Decidable.not_not, Bool.not_true, Bool.not_false, bne_iff_ne, bne_eq_false_iff_eq, beq_iff_eq, beq_eq_false_iff_ne] at hc2)
    · skip
      have hq3 : q < (us.length : Int) := by omega
      have hat := ofNat_at us hq1 hq3
      have hdr := drop_getD hq1 hq3
      have hlt : us.getD q.toNat 0 < cs.length := by
        have h3 : q.toNat < us.length := by omega
        simp only [List.getD, List.getElem?_eq_getElem h3, Option.getD_some]
        exact hus _ (List.getElem_mem h3)
      have hks2 : ∀ k ∈ ks ++ [us.getD q.toNat 0], k < cs.length := fun k hk => by
        simp only [List.mem_append, List.mem_singleton] at hk
        rcases hk with hk | hk
        · exact hks k hk
        · rw [hk]; exact hlt
      have hus2 : ∀ k ∈ us.drop (q + 1).toNat, k < cs.length := fun k hk => hus k (List.mem_of_mem_drop hk)
      have hsub : ∀ u, SlI u vu (us.map Int.ofNat) → SlI u (sub2 1 vu (q + 1).toNat (us.map Int.ofNat).length) ((us.drop (q + 1).toNat).map Int.ofNat) := fun u hu => by
        have h3 := hu.sub2 (lo := (q + 1).toNat) (hi := (us.map Int.ofNat).length) (by omega) (by omega)
        rw [List.take_of_length_le (by simp), ← List.map_drop] at h3
        exact h3
      have hkm : ks.map Int.ofNat ++ [nth (us.map Int.ofNat) q] = (ks ++ [us.getD q.toNat 0]).map Int.ofNat := by rw [hat]; simp
      refine CS.skip ?_
      refine QS.then_code ?_
      refine CS.seq ?_
      refine CS.block ?_
      refine CS.seq ?_
      refine CS.region ?_
      refine WS.det rfl rfl rfl (det_move rfl) rfl ?_ -- r7.0 codes.go:367
      refine WS.det rfl rfl rfl ((by first | exact det_idxI sl24 rfl rfl (by assumption) (by omega) (by omega) | exact det_idxO sl24 rfl rfl (by omega) (by omega))) rfl ?_ -- r7.1 codes.go:367
      refine WS.det rfl rfl rfl ((by first | exact det_ldI rfl (by assumption) (by omega) tk3 | exact det_loadb (j := 0) rfl rfl rfl tk3 | exact det_loadb (j := 1) rfl rfl rfl tk3 | exact det_loadb (j := 2) rfl rfl rfl tk3 | exact det_loadb (j := 3) rfl rfl rfl tk3 | exact det_loadw rfl (by assumption) rfl tk3)) rfl ?_ -- r7.2 codes.go:367
      refine WS.det rfl rfl rfl (det_assign rfl) rfl ?_ -- r7.3 codes.go:367
      refine WS.det rfl rfl rfl (det_assign rfl) rfl ?_ -- r7.4 codes.go:367
      refine WS.done ?_
      refine QS.then_code ?_
      refine CS.cut (σ := Value) [25, 26, 27, 28, 29, 30, 31, 32, 33, 34, 35, 36, 37] (fun s => [(11, s)]) (fun s => [roI s (((moreF lw ls cs 0 (ks ++ [us.getD q.toNat 0]) (us.drop (q + 1).toNat)).getD []).map Int.ofNat)]) (fun s => nilB s = (moreF lw ls cs 0 (ks ++ [us.getD q.toNat 0]) (us.drop (q + 1).toNat)).isNone ∧ ∃ p n c, s = .slice p n c) (fun _ _ => rfl) ?_ ?_
      · skip
        refine CS.drawnAll (k := 14) mixed rfl rfl ?_
        refine AS.take 0 rfl (by kernel_rfl) (by kernel_rfl) (by kernel_rfl) rfl rfl (det_move rfl) rfl rfl ?_ -- r8.0 codes.go:368
        refine AS.take 1 rfl (by kernel_rfl) (by kernel_rfl) (by kernel_rfl) rfl rfl (det_move rfl) rfl rfl ?_ -- r8.1 codes.go:368
        refine AS.take 3 rfl (by kernel_rfl) (by kernel_rfl) (by kernel_rfl) rfl rfl (det_move rfl) rfl rfl ?_ -- r8.3 codes.go:368
        refine AS.take 6 rfl (by kernel_rfl) (by kernel_rfl) (by kernel_rfl) rfl rfl (det_move rfl) rfl rfl ?_ -- r8.6 codes.go:368
        refine AS.take 7 rfl (by kernel_rfl) (by kernel_rfl) (by kernel_rfl) rfl rfl (det_move rfl) rfl rfl ?_ -- r8.7 codes.go:368
        refine AS.take 8 rfl (by kernel_rfl) (by kernel_rfl) (by kernel_rfl) rfl rfl (det_add rfl rfl (by omega)) rfl rfl ?_ -- r8.8 codes.go:368
        refine AS.take 9 rfl (by kernel_rfl) (by kernel_rfl) (by kernel_rfl) rfl rfl (det_slFrom sl24 rfl rfl (by first | assumption | exact SlL.sp (by assumption) | exact ClS.sp (by assumption)) (by omega) (by omega)) rfl rfl ?_ -- r8.9 codes.go:368
        refine AS.take 10 rfl (by kernel_rfl) (by kernel_rfl) (by kernel_rfl) rfl rfl (det_move rfl) rfl rfl ?_ -- r8.10 codes.go:368
        refine AS.take 11 rfl (by kernel_rfl) (by kernel_rfl) (by kernel_rfl) rfl rfl (det_sub rfl rfl (by omega)) rfl rfl ?_ -- r8.11 codes.go:368
        refine AS.two (i := 2) (j := 4) (by kernel_rfl) rfl rfl (by first | exact fun _ h => h | exact fun _ h => h.sub (by repeat first | exact List.Sublist.refl _ | apply List.Sublist.cons_cons | apply List.Sublist.cons)) rfl rfl ?_ ?_
        · skip
          refine WS.callF rfl rfl ent68 (fun u hu => CloneI_c (ks.map Int.ofNat) vk u (h1.st hu) (by omega)) (fun _ => rfl) ?_; intro v27 hv27 -- r8.2 codes.go:368
          refine WS.done ?_
          refine QS.then_AS ?_
          refine AS.one (i := 4) (by kernel_rfl) rfl (by first | exact fun _ h => h | exact fun _ h => h.sub (by repeat first | exact List.Sublist.refl _ | apply List.Sublist.cons_cons | apply List.Sublist.cons)) rfl ?_
          refine WS.buildI1 sl24 zv3 rfl (fun _ => rfl) ?_; intro v29 -- r8.4 codes.go:368
          refine WS.done ?_
          refine QS.then_AS ?_
          refine AS.one (i := 5) (by kernel_rfl) rfl (by first | exact fun _ h => h | exact fun _ h => h.sub (by repeat first | exact List.Sublist.refl _ | apply List.Sublist.cons_cons | apply List.Sublist.cons)) rfl ?_
          refine WS.appendI (j := 1) (ys := [nth (us.map Int.ofNat) q]) sl24 zv3 rfl rfl rfl (fun u hu => oints_SlI hu (j := 0) rfl) (by simp only [List.length_singleton]; omega) (by simp only [List.length_singleton]; omega) (fun _ => rfl) (fun _ => rfl) ?_; intro v30; refine WS.sn (j := 1) rfl (by simp) (fun hvn30 hvs30 => ?_) -- r8.5 codes.go:368
          refine WS.done ?_
          refine QS.then_AS ?_
          refine AS.one (i := 12) (by kernel_rfl) rfl (by first | exact fun _ h => h | exact fun _ h => h.sub (by repeat first | exact List.Sublist.refl _ | apply List.Sublist.cons_cons | apply List.Sublist.cons)) rfl ?_
          refine WS.weak (fun u hu => by rw [hkm] at hu; exact hu) ?_; refine WS.det rfl rfl rfl (det_callB rfl rfl ent78 (v := (if (readL lw ls (pickN cs (ks ++ [us.getD q.toNat 0]))).length = 1 then v30 else .slice none 0 0)) (fun u hu => by have h0 := more0_c lw ls cs b e rv gs u hL (hch.st hu) (ks ++ [us.getD q.toNat 0]) (us.drop (q + 1).toNat) v30 _ (oints_SlI hu (j := 1) rfl) (hsub u (h2.st hu)) hks2 hus2; rw [show N - 1 = 0 by omega]; exact h0)) rfl ?_ -- r8.12 codes.go:368
          refine WS.done ?_
          refine QS.then_AS ?_
          refine AS.take 13 rfl (by kernel_rfl) (by kernel_rfl) (by kernel_rfl) rfl rfl (det_assign rfl) rfl rfl ?_ -- r8.13 codes.go:368
          refine AS.done (by kernel_rfl) (by first | exact fun _ h => h | exact fun _ h => h.sub (by repeat first | exact List.Sublist.refl _ | apply List.Sublist.cons_cons | apply List.Sublist.cons)) ?_
          refine QS.sel [1] rfl ?_
          refine QS.weak (L' := [roI (if (readL lw ls (pickN cs (ks ++ [us.getD q.toNat 0]))).length = 1 then v30 else .slice none 0 0) (((moreF lw ls cs 0 (ks ++ [us.getD q.toNat 0]) (us.drop (q + 1).toNat)).getD []).map Int.ofNat)]) (fun u hu => by
                by_cases h : (readL lw ls (pickN cs (ks ++ [us.getD q.toNat 0]))).length = 1
                · rw [if_pos h, moreF, if_pos h]; exact hu.toRoI
                · rw [if_neg h, moreF, if_neg h]; exact (hu.nilRoI).sel [0] rfl) ?_
          exact QS.head ((if (readL lw ls (pickN cs (ks ++ [us.getD q.toNat 0]))).length = 1 then v30 else .slice none 0 0)) rfl rfl (by
                by_cases h : (readL lw ls (pickN cs (ks ++ [us.getD q.toNat 0]))).length = 1
                · rw [if_pos h, moreF, if_pos h]
                  exact ⟨hvn30, hvs30⟩
                · rw [if_neg h, moreF, if_neg h]; exact ⟨rfl, _, _, _, rfl⟩)
        · skip
          refine WS.buildI1 sl24 zv3 rfl (fun _ => rfl) ?_; intro v29 -- r8.4 codes.go:368
          refine WS.done ?_
          refine QS.then_AS ?_
          refine AS.one (i := 2) (by kernel_rfl) rfl (by first | exact fun _ h => h | exact fun _ h => h.sub (by repeat first | exact List.Sublist.refl _ | apply List.Sublist.cons_cons | apply List.Sublist.cons)) rfl ?_
          refine WS.callF rfl rfl ent68 (fun u hu => CloneI_c (ks.map Int.ofNat) vk u (h1.st hu) (by omega)) (fun _ => rfl) ?_; intro v27 hv27 -- r8.2 codes.go:368
          refine WS.done ?_
          refine QS.then_AS ?_
          refine AS.one (i := 5) (by kernel_rfl) rfl (by first | exact fun _ h => h | exact fun _ h => h.sub (by repeat first | exact List.Sublist.refl _ | apply List.Sublist.cons_cons | apply List.Sublist.cons)) rfl ?_
          refine WS.appendI (j := 0) (ys := [nth (us.map Int.ofNat) q]) sl24 zv3 rfl rfl rfl (fun u hu => oints_SlI hu (j := 1) rfl) (by simp only [List.length_singleton]; omega) (by simp only [List.length_singleton]; omega) (fun _ => rfl) (fun _ => rfl) ?_; intro v30; refine WS.sn (j := 0) rfl (by simp) (fun hvn30 hvs30 => ?_) -- r8.5 codes.go:368
          refine WS.done ?_
          refine QS.then_AS ?_
          refine AS.one (i := 12) (by kernel_rfl) rfl (by first | exact fun _ h => h | exact fun _ h => h.sub (by repeat first | exact List.Sublist.refl _ | apply List.Sublist.cons_cons | apply List.Sublist.cons)) rfl ?_
          refine WS.weak (fun u hu => by rw [hkm] at hu; exact hu) ?_; refine WS.det rfl rfl rfl (det_callB rfl rfl ent78 (v := (if (readL lw ls (pickN cs (ks ++ [us.getD q.toNat 0]))).length = 1 then v30 else .slice none 0 0)) (fun u hu => by have h0 := more0_c lw ls cs b e rv gs u hL (hch.st hu) (ks ++ [us.getD q.toNat 0]) (us.drop (q + 1).toNat) v30 _ (oints_SlI hu (j := 0) rfl) (hsub u (h2.st hu)) hks2 hus2; rw [show N - 1 = 0 by omega]; exact h0)) rfl ?_ -- r8.12 codes.go:368
          refine WS.done ?_
          refine QS.then_AS ?_
          refine AS.take 13 rfl (by kernel_rfl) (by kernel_rfl) (by kernel_rfl) rfl rfl (det_assign rfl) rfl rfl ?_ -- r8.13 codes.go:368
          refine AS.done (by kernel_rfl) (by first | exact fun _ h => h | exact fun _ h => h.sub (by repeat first | exact List.Sublist.refl _ | apply List.Sublist.cons_cons | apply List.Sublist.cons)) ?_
          refine QS.sel [0] rfl ?_
          refine QS.weak (L' := [roI (if (readL lw ls (pickN cs (ks ++ [us.getD q.toNat 0]))).length = 1 then v30 else .slice none 0 0) (((moreF lw ls cs 0 (ks ++ [us.getD q.toNat 0]) (us.drop (q + 1).toNat)).getD []).map Int.ofNat)]) (fun u hu => by
                by_cases h : (readL lw ls (pickN cs (ks ++ [us.getD q.toNat 0]))).length = 1
                · rw [if_pos h, moreF, if_pos h]; exact hu.toRoI
                · rw [if_neg h, moreF, if_neg h]; exact (hu.nilRoI).sel [0] rfl) ?_
          exact QS.head ((if (readL lw ls (pickN cs (ks ++ [us.getD q.toNat 0]))).length = 1 then v30 else .slice none 0 0)) rfl rfl (by
                by_cases h : (readL lw ls (pickN cs (ks ++ [us.getD q.toNat 0]))).length = 1
                · rw [if_pos h, moreF, if_pos h]
                  exact ⟨hvn30, hvs30⟩
                · rw [if_neg h, moreF, if_neg h]; exact ⟨rfl, _, _, _, rfl⟩)
      · intro s t hs
        refine CS.seq ?_
        refine CS.region ?_
        refine WS.det rfl rfl rfl (det_move rfl) rfl ?_ -- r9.0 codes.go:368
        refine WS.det rfl rfl rfl (det_nenilV sl24 rfl rfl hs.2) rfl ?_ -- r9.1 codes.go:368
        refine WS.done ?_
        refine QS.then_code ?_
        refine CS.cond rfl (fun hc3 => ?_) (fun hc3 => ?_) <;> (try simp only [decide_eq_true_eq, decide_eq_false_iff_not, Bool.and_eq_true, Bool.or_eq_true, Bool.and_eq_false_iff, Bool.or_eq_false_iff, Bool.not_eq_true', Bool.not_eq_false', ne_eq, Decidable.not_not, Bool.not_true, Bool.not_false, bne_iff_ne, bne_eq_false_iff_eq, beq_iff_eq, beq_eq_false_iff_ne] at hc3)
        · skip
          obtain ⟨r, hr⟩ : ∃ r, (moreF lw ls cs 0 (ks ++ [us.getD q.toNat 0]) (us.drop (q + 1).toNat)) = some r := by
            cases h : (moreF lw ls cs 0 (ks ++ [us.getD q.toNat 0]) (us.drop (q + 1).toNat)) with
            | none => rw [hs.1, h] at hc3; cases hc3
            | some r => exact ⟨r, rfl⟩
          have hfin : moreF lw ls cs (0 + 1) ks us = some r := by rw [hq4, hdr]; exact moreF_some hr
          refine CS.seq ?_
          refine CS.region ?_
          refine WS.det rfl rfl rfl (det_move rfl) rfl ?_ -- r10.0 codes.go:369
          refine WS.det rfl rfl rfl (det_assign rfl) rfl ?_ -- r10.1 codes.go:369
          refine WS.done ?_
          refine QS.then_code ?_
          refine CS.ret ?_
          refine QS.block_ret ?_
          refine QS.then_ret ?_
          refine QS.then_ret ?_
          refine QS.block_ret ?_
          refine QS.then_ret ?_
          exact out1 rfl rfl (moreRet (j := 0) (by rw [hs.1, hr, hfin]) rfl (by rw [hr, hfin])) -- ret 1
        · skip
          have hr : (moreF lw ls cs 0 (ks ++ [us.getD q.toNat 0]) (us.drop (q + 1).toNat)) = none := by
            cases h : (moreF lw ls cs 0 (ks ++ [us.getD q.toNat 0]) (us.drop (q + 1).toNat)) with
            | none => rfl
            | some r => rw [hs.1, h] at hc3; cases hc3
          refine CS.skip ?_
          refine QS.block_normal ?_
          refine QS.then_code ?_
          refine CS.region ?_
          refine WS.det rfl rfl rfl (det_add rfl rfl (by omega)) rfl ?_ -- r11.0 codes.go:367
          refine WS.det rfl rfl rfl (det_move rfl) rfl ?_ -- r11.1 codes.go:367
          refine WS.done ?_
          refine QS.sel [] rfl ?_
          exact QS.head (q + 1) rfl rfl ⟨⟨by omega, by omega, by rw [hq4, hdr, moreF_none hr]⟩, by omega⟩
    · skip
      have hfin : moreF lw ls cs (0 + 1) ks us = none := by rw [hq4, List.drop_eq_nil_of_le (by omega)]; exact moreF_nil _ _
      refine CS.leave ?_
      refine QS.then_exit ?_
      refine QS.then_exit ?_
      refine QS.block_exit ?_
      refine QS.then_code ?_
      refine CS.seq ?_
      refine CS.region ?_
      refine WS.det rfl rfl rfl (det_assign rfl) rfl ?_ -- r12.0 codes.go:372
      refine WS.done ?_
      refine QS.then_code ?_
      refine CS.ret ?_
      exact out1 rfl rfl (moreRetN (by rw [hfin]; rfl) (by rw [hfin]; rfl)) -- ret 2

set_option maxHeartbeats 1000000 in
theorem moreS_c (lw ls : Int) (cs : List Clue) (b : Nat) (e : TypeId) (rv : Value) (gs : List Value) (w : World) (hL : lockB lw ls = true) (hch : ChB w b e (flagsOf lw ls cs) (manyC lw ls) rv gs) (m : Nat) (ih : ∀ (ks us : List Nat) (vk vu : Value) (w : World) (hch : ChB w b e (flagsOf lw ls cs) (manyC lw ls) rv gs) (h1 : SlI w vk (ks.map Int.ofNat)) (h2 : SlI w vu (us.map Int.ofNat)) (hks : ∀ k ∈ ks, k < cs.length) (hus : ∀ k ∈ us, k < cs.length) (N : Int) (hN : N = ((m + 1 : Nat) : Int)) (hm : ks.length + m ≤ 100) (hul : us.length ≤ 1000), Calls Try.prog 78 #[.pointer (some ⟨b, 0, none⟩), vk, vu, .int .i64 N] w (fun e w' => ∃ v : Value, (nilB v = (moreF lw ls cs (m + 1) ks us).isNone ∧ ∃ u0, SlI u0 v (((moreF lw ls cs (m + 1) ks us).getD []).map Int.ofNat)) ∧ RetF w v (roI v (((moreF lw ls cs (m + 1) ks us).getD []).map Int.ofNat)) e w')) (ks us : List Nat) (vk vu : Value) (h1 : SlI w vk (ks.map Int.ofNat)) (h2 : SlI w vu (us.map Int.ofNat)) (hks : ∀ k ∈ ks, k < cs.length) (hus : ∀ k ∈ us, k < cs.length) (N : Int) (hN : N = (((m + 1) + 1 : Nat) : Int)) (hm : ks.length + (m + 1) ≤ 100) (hul : us.length ≤ 1000) :
    Calls Try.prog 78 #[.pointer (some ⟨b, 0, none⟩), vk, vu, .int .i64 N] w (fun e w' => ∃ v : Value, (nilB v = (moreF lw ls cs ((m + 1) + 1) ks us).isNone ∧ ∃ u0, SlI u0 v (((moreF lw ls cs ((m + 1) + 1) ks us).getD []).map Int.ofNat)) ∧ RetF w v (roI v (((moreF lw ls cs ((m + 1) + 1) ks us).getD []).map Int.ofNat)) e w') := by
  have hlu : (us.map Int.ofNat).length = us.length := by simp
  have hlk : (ks.map Int.ofNat).length = ks.length := by simp
  have hll := h1.le
  refine enter Try.func78 rfl rfl (Nat.le_of_ble_eq_true rfl) ?_
  refine CS.seq ?_
  refine CS.region ?_
  refine WS.det rfl rfl rfl (det_assign rfl) rfl ?_ -- r0.0 codes.go:360
  refine WS.done ?_
  refine QS.then_code ?_
  refine CS.seq ?_
  refine CS.seq ?_
  refine CS.region ?_
  refine WS.det rfl rfl rfl (det_move rfl) rfl ?_ -- r1.0 codes.go:361
  refine WS.det rfl rfl rfl (det_eq rfl rfl) rfl ?_ -- r1.1 codes.go:361
  refine WS.done ?_
  refine QS.then_code ?_
  refine CS.cond rfl (fun hc1 => ?_) (fun hc1 => ?_) <;> (try simp only [decide_eq_true_eq, decide_eq_false_iff_not, Bool.and_eq_true, Bool.or_eq_true, Bool.and_eq_false_iff, Bool.or_eq_false_iff, Bool.not_eq_true', Bool.not_eq_false', ne_eq, Decidable.not_not, Bool.not_true, Bool.not_false, bne_iff_ne, bne_eq_false_iff_eq, beq_iff_eq, beq_eq_false_iff_ne] at hc1)
  · skip
    omega
  · skip
    refine CS.skip ?_
    refine QS.then_code ?_
    refine CS.seq ?_
    refine CS.seq ?_
    refine CS.region ?_
    refine WS.det rfl rfl rfl (det_move rfl) rfl ?_ -- r5.0 codes.go:367
    refine WS.det rfl rfl rfl ((by first | exact det_lenS sl24 rfl (by assumption) | exact det_lenS sl24 rfl (by first | exact SlL.sp (by assumption) | exact ClS.sp (by assumption)) | exact det_lenO sl24 rfl | exact det_lenV sl24 rfl ⟨_, _, rfl⟩)) rfl ?_ -- r5.1 codes.go:367
    refine WS.det rfl rfl rfl (det_move rfl) rfl ?_ -- r5.2 codes.go:367
    refine WS.done ?_
    refine QS.then_code ?_
    refine CS.block ?_
    refine CS.loopM (σ := Int) [8, 9, 10, 11, 21, 22, 23, 24, 25, 26, 27, 28, 29, 30, 31, 32, 33, 34, 35, 36, 37, 38, 39, 40, 41] (fun s => [(20, .int .i64 s)]) (fun _ => _) (fun s => 0 ≤ s ∧ s ≤ us.length ∧ moreF lw ls cs ((m + 1) + 1) ks us = moreF lw ls cs ((m + 1) + 1) ks (us.drop s.toNat)) (fun s => (us.length - s).toNat) 0 (fun _ _ => rfl) rfl rfl ⟨by omega, by omega, by simp⟩ ?_
    intro q t hs
    obtain ⟨hq1, hq2, hq4⟩ := hs
    refine CS.seq ?_
    refine CS.region ?_
    refine WS.det rfl rfl rfl (det_lt rfl rfl) rfl ?_ -- r6.0 codes.go:367
    refine WS.done ?_
    refine QS.then_code ?_
    refine CS.seq ?_
    refine CS.cond rfl (fun hc2 => ?_) (fun hc2 => ?_) <;> (try simp only [decide_eq_true_eq, decide_eq_false_iff_not, Bool.and_eq_true, Bool.or_eq_true, Bool.and_eq_false_iff, Bool.or_eq_false_iff, Bool.not_eq_true', Bool.not_eq_false', ne_eq, Decidable.not_not, Bool.not_true, Bool.not_false, bne_iff_ne, bne_eq_false_iff_eq, beq_iff_eq, beq_eq_false_iff_ne] at hc2)
    · skip
      have hq3 : q < (us.length : Int) := by omega
      have hat := ofNat_at us hq1 hq3
      have hdr := drop_getD hq1 hq3
      have hlt : us.getD q.toNat 0 < cs.length := by
        have h3 : q.toNat < us.length := by omega
        simp only [List.getD, List.getElem?_eq_getElem h3, Option.getD_some]
        exact hus _ (List.getElem_mem h3)
      have hks2 : ∀ k ∈ ks ++ [us.getD q.toNat 0], k < cs.length := fun k hk => by
        simp only [List.mem_append, List.mem_singleton] at hk
        rcases hk with hk | hk
        · exact hks k hk
        · rw [hk]; exact hlt
      have hus2 : ∀ k ∈ us.drop (q + 1).toNat, k < cs.length := fun k hk => hus k (List.mem_of_mem_drop hk)
      have hsub : ∀ u, SlI u vu (us.map Int.ofNat) → SlI u (sub2 1 vu (q + 1).toNat (us.map Int.ofNat).length) ((us.drop (q + 1).toNat).map Int.ofNat) := fun u hu => by
        have h3 := hu.sub2 (lo := (q + 1).toNat) (hi := (us.map Int.ofNat).length) (by omega) (by omega)
        rw [List.take_of_length_le (by simp), ← List.map_drop] at h3
        exact h3
      have hkm : ks.map Int.ofNat ++ [nth (us.map Int.ofNat) q] = (ks ++ [us.getD q.toNat 0]).map Int.ofNat := by rw [hat]; simp
      refine CS.skip ?_
      refine QS.then_code ?_
      refine CS.seq ?_
      refine CS.block ?_
      refine CS.seq ?_
      refine CS.region ?_
      refine WS.det rfl rfl rfl (det_move rfl) rfl ?_ -- r7.0 codes.go:367
      refine WS.det rfl rfl rfl ((by first | exact det_idxI sl24 rfl rfl (by assumption) (by omega) (by omega) | exact det_idxO sl24 rfl rfl (by omega) (by omega))) rfl ?_ -- r7.1 codes.go:367
      refine WS.det rfl rfl rfl ((by first | exact det_ldI rfl (by assumption) (by omega) tk3 | exact det_loadb (j := 0) rfl rfl rfl tk3 | exact det_loadb (j := 1) rfl rfl rfl tk3 | exact det_loadb (j := 2) rfl rfl rfl tk3 | exact det_loadb (j := 3) rfl rfl rfl tk3 | exact det_loadw rfl (by assumption) rfl tk3)) rfl ?_ -- r7.2 codes.go:367
      refine WS.det rfl rfl rfl (det_assign rfl) rfl ?_ -- r7.3 codes.go:367
      refine WS.det rfl rfl rfl (det_assign rfl) rfl ?_ -- r7.4 codes.go:367
      refine WS.done ?_
      refine QS.then_code ?_
      refine CS.cut (σ := Value) [25, 26, 27, 28, 29, 30, 31, 32, 33, 34, 35, 36, 37] (fun s => [(11, s)]) (fun s => [roI s (((moreF lw ls cs (m + 1) (ks ++ [us.getD q.toNat 0]) (us.drop (q + 1).toNat)).getD []).map Int.ofNat)]) (fun s => nilB s = (moreF lw ls cs (m + 1) (ks ++ [us.getD q.toNat 0]) (us.drop (q + 1).toNat)).isNone ∧ ∃ p n c, s = .slice p n c) (fun _ _ => rfl) ?_ ?_
      · skip
        refine CS.drawnAll (k := 14) mixed rfl rfl ?_
        refine AS.take 0 rfl (by kernel_rfl) (by kernel_rfl) (by kernel_rfl) rfl rfl (det_move rfl) rfl rfl ?_ -- r8.0 codes.go:368
        refine AS.take 1 rfl (by kernel_rfl) (by kernel_rfl) (by kernel_rfl) rfl rfl (det_move rfl) rfl rfl ?_ -- r8.1 codes.go:368
        refine AS.take 3 rfl (by kernel_rfl) (by kernel_rfl) (by kernel_rfl) rfl rfl (det_move rfl) rfl rfl ?_ -- r8.3 codes.go:368
        refine AS.take 6 rfl (by kernel_rfl) (by kernel_rfl) (by kernel_rfl) rfl rfl (det_move rfl) rfl rfl ?_ -- r8.6 codes.go:368
        refine AS.take 7 rfl (by kernel_rfl) (by kernel_rfl) (by kernel_rfl) rfl rfl (det_move rfl) rfl rfl ?_ -- r8.7 codes.go:368
        refine AS.take 8 rfl (by kernel_rfl) (by kernel_rfl) (by kernel_rfl) rfl rfl (det_add rfl rfl (by omega)) rfl rfl ?_ -- r8.8 codes.go:368
        refine AS.take 9 rfl (by kernel_rfl) (by kernel_rfl) (by kernel_rfl) rfl rfl (det_slFrom sl24 rfl rfl (by first | assumption | exact SlL.sp (by assumption) | exact ClS.sp (by assumption)) (by omega) (by omega)) rfl rfl ?_ -- r8.9 codes.go:368
        refine AS.take 10 rfl (by kernel_rfl) (by kernel_rfl) (by kernel_rfl) rfl rfl (det_move rfl) rfl rfl ?_ -- r8.10 codes.go:368
        refine AS.take 11 rfl (by kernel_rfl) (by kernel_rfl) (by kernel_rfl) rfl rfl (det_sub rfl rfl (by omega)) rfl rfl ?_ -- r8.11 codes.go:368
        refine AS.two (i := 2) (j := 4) (by kernel_rfl) rfl rfl (by first | exact fun _ h => h | exact fun _ h => h.sub (by repeat first | exact List.Sublist.refl _ | apply List.Sublist.cons_cons | apply List.Sublist.cons)) rfl rfl ?_ ?_
        · skip
          refine WS.callF rfl rfl ent68 (fun u hu => CloneI_c (ks.map Int.ofNat) vk u (h1.st hu) (by omega)) (fun _ => rfl) ?_; intro v27 hv27 -- r8.2 codes.go:368
          refine WS.done ?_
          refine QS.then_AS ?_
          refine AS.one (i := 4) (by kernel_rfl) rfl (by first | exact fun _ h => h | exact fun _ h => h.sub (by repeat first | exact List.Sublist.refl _ | apply List.Sublist.cons_cons | apply List.Sublist.cons)) rfl ?_
          refine WS.buildI1 sl24 zv3 rfl (fun _ => rfl) ?_; intro v29 -- r8.4 codes.go:368
          refine WS.done ?_
          refine QS.then_AS ?_
          refine AS.one (i := 5) (by kernel_rfl) rfl (by first | exact fun _ h => h | exact fun _ h => h.sub (by repeat first | exact List.Sublist.refl _ | apply List.Sublist.cons_cons | apply List.Sublist.cons)) rfl ?_
          refine WS.appendI (j := 1) (ys := [nth (us.map Int.ofNat) q]) sl24 zv3 rfl rfl rfl (fun u hu => oints_SlI hu (j := 0) rfl) (by simp only [List.length_singleton]; omega) (by simp only [List.length_singleton]; omega) (fun _ => rfl) (fun _ => rfl) ?_; intro v30; refine WS.sn (j := 1) rfl (by simp) (fun hvn30 hvs30 => ?_) -- r8.5 codes.go:368
          refine WS.done ?_
          refine QS.then_AS ?_
          refine AS.one (i := 12) (by kernel_rfl) rfl (by first | exact fun _ h => h | exact fun _ h => h.sub (by repeat first | exact List.Sublist.refl _ | apply List.Sublist.cons_cons | apply List.Sublist.cons)) rfl ?_
          refine WS.weak (fun u hu => by rw [hkm] at hu; exact hu) ?_; refine WS.callF rfl rfl ent78 (fun u hu => ih (ks ++ [us.getD q.toNat 0]) (us.drop (q + 1).toNat) v30 _ u (hch.st hu) (oints_SlI hu (j := 1) rfl) (hsub u (h2.st hu)) hks2 hus2 (N - 1) (by omega) (by simp; omega) (by simp; omega)) (fun _ => rfl) ?_; rintro v37 ⟨hv37, u37, hv37s⟩ -- r8.12 codes.go:368
          refine WS.done ?_
          refine QS.then_AS ?_
          refine AS.take 13 rfl (by kernel_rfl) (by kernel_rfl) (by kernel_rfl) rfl rfl (det_assign rfl) rfl rfl ?_ -- r8.13 codes.go:368
          refine AS.done (by kernel_rfl) (by first | exact fun _ h => h | exact fun _ h => h.sub (by repeat first | exact List.Sublist.refl _ | apply List.Sublist.cons_cons | apply List.Sublist.cons)) ?_
          refine QS.sel [0] rfl ?_
          exact QS.head (v37) rfl rfl ⟨hv37, by obtain ⟨p, c, h⟩ := hv37s.shape; exact ⟨p, _, c, h⟩⟩
        · skip
          refine WS.buildI1 sl24 zv3 rfl (fun _ => rfl) ?_; intro v29 -- r8.4 codes.go:368
          refine WS.done ?_
          refine QS.then_AS ?_
          refine AS.one (i := 2) (by kernel_rfl) rfl (by first | exact fun _ h => h | exact fun _ h => h.sub (by repeat first | exact List.Sublist.refl _ | apply List.Sublist.cons_cons | apply List.Sublist.cons)) rfl ?_
          refine WS.callF rfl rfl ent68 (fun u hu => CloneI_c (ks.map Int.ofNat) vk u (h1.st hu) (by omega)) (fun _ => rfl) ?_; intro v27 hv27 -- r8.2 codes.go:368
          refine WS.done ?_
          refine QS.then_AS ?_
          refine AS.one (i := 5) (by kernel_rfl) rfl (by first | exact fun _ h => h | exact fun _ h => h.sub (by repeat first | exact List.Sublist.refl _ | apply List.Sublist.cons_cons | apply List.Sublist.cons)) rfl ?_
          refine WS.appendI (j := 0) (ys := [nth (us.map Int.ofNat) q]) sl24 zv3 rfl rfl rfl (fun u hu => oints_SlI hu (j := 1) rfl) (by simp only [List.length_singleton]; omega) (by simp only [List.length_singleton]; omega) (fun _ => rfl) (fun _ => rfl) ?_; intro v30; refine WS.sn (j := 0) rfl (by simp) (fun hvn30 hvs30 => ?_) -- r8.5 codes.go:368
          refine WS.done ?_
          refine QS.then_AS ?_
          refine AS.one (i := 12) (by kernel_rfl) rfl (by first | exact fun _ h => h | exact fun _ h => h.sub (by repeat first | exact List.Sublist.refl _ | apply List.Sublist.cons_cons | apply List.Sublist.cons)) rfl ?_
          refine WS.weak (fun u hu => by rw [hkm] at hu; exact hu) ?_; refine WS.callF rfl rfl ent78 (fun u hu => ih (ks ++ [us.getD q.toNat 0]) (us.drop (q + 1).toNat) v30 _ u (hch.st hu) (oints_SlI hu (j := 0) rfl) (hsub u (h2.st hu)) hks2 hus2 (N - 1) (by omega) (by simp; omega) (by simp; omega)) (fun _ => rfl) ?_; rintro v37 ⟨hv37, u37, hv37s⟩ -- r8.12 codes.go:368
          refine WS.done ?_
          refine QS.then_AS ?_
          refine AS.take 13 rfl (by kernel_rfl) (by kernel_rfl) (by kernel_rfl) rfl rfl (det_assign rfl) rfl rfl ?_ -- r8.13 codes.go:368
          refine AS.done (by kernel_rfl) (by first | exact fun _ h => h | exact fun _ h => h.sub (by repeat first | exact List.Sublist.refl _ | apply List.Sublist.cons_cons | apply List.Sublist.cons)) ?_
          refine QS.sel [0] rfl ?_
          exact QS.head (v37) rfl rfl ⟨hv37, by obtain ⟨p, c, h⟩ := hv37s.shape; exact ⟨p, _, c, h⟩⟩
      · intro s t hs
        refine CS.seq ?_
        refine CS.region ?_
        refine WS.det rfl rfl rfl (det_move rfl) rfl ?_ -- r9.0 codes.go:368
        refine WS.det rfl rfl rfl (det_nenilV sl24 rfl rfl hs.2) rfl ?_ -- r9.1 codes.go:368
        refine WS.done ?_
        refine QS.then_code ?_
        refine CS.cond rfl (fun hc3 => ?_) (fun hc3 => ?_) <;> (try simp only [decide_eq_true_eq, decide_eq_false_iff_not, Bool.and_eq_true, Bool.or_eq_true, Bool.and_eq_false_iff, Bool.or_eq_false_iff, Bool.not_eq_true', Bool.not_eq_false', ne_eq, Decidable.not_not, Bool.not_true, Bool.not_false, bne_iff_ne, bne_eq_false_iff_eq, beq_iff_eq, beq_eq_false_iff_ne] at hc3)
        · skip
          obtain ⟨r, hr⟩ : ∃ r, (moreF lw ls cs (m + 1) (ks ++ [us.getD q.toNat 0]) (us.drop (q + 1).toNat)) = some r := by
            cases h : (moreF lw ls cs (m + 1) (ks ++ [us.getD q.toNat 0]) (us.drop (q + 1).toNat)) with
            | none => rw [hs.1, h] at hc3; cases hc3
            | some r => exact ⟨r, rfl⟩
          have hfin : moreF lw ls cs ((m + 1) + 1) ks us = some r := by rw [hq4, hdr]; exact moreF_some hr
          refine CS.seq ?_
          refine CS.region ?_
          refine WS.det rfl rfl rfl (det_move rfl) rfl ?_ -- r10.0 codes.go:369
          refine WS.det rfl rfl rfl (det_assign rfl) rfl ?_ -- r10.1 codes.go:369
          refine WS.done ?_
          refine QS.then_code ?_
          refine CS.ret ?_
          refine QS.block_ret ?_
          refine QS.then_ret ?_
          refine QS.then_ret ?_
          refine QS.block_ret ?_
          refine QS.then_ret ?_
          exact out1 rfl rfl (moreRet (j := 0) (by rw [hs.1, hr, hfin]) rfl (by rw [hr, hfin])) -- ret 1
        · skip
          have hr : (moreF lw ls cs (m + 1) (ks ++ [us.getD q.toNat 0]) (us.drop (q + 1).toNat)) = none := by
            cases h : (moreF lw ls cs (m + 1) (ks ++ [us.getD q.toNat 0]) (us.drop (q + 1).toNat)) with
            | none => rfl
            | some r => rw [hs.1, h] at hc3; cases hc3
          refine CS.skip ?_
          refine QS.block_normal ?_
          refine QS.then_code ?_
          refine CS.region ?_
          refine WS.det rfl rfl rfl (det_add rfl rfl (by omega)) rfl ?_ -- r11.0 codes.go:367
          refine WS.det rfl rfl rfl (det_move rfl) rfl ?_ -- r11.1 codes.go:367
          refine WS.done ?_
          refine QS.sel [] rfl ?_
          exact QS.head (q + 1) rfl rfl ⟨⟨by omega, by omega, by rw [hq4, hdr, moreF_none hr]⟩, by omega⟩
    · skip
      have hfin : moreF lw ls cs ((m + 1) + 1) ks us = none := by rw [hq4, List.drop_eq_nil_of_le (by omega)]; exact moreF_nil _ _
      refine CS.leave ?_
      refine QS.then_exit ?_
      refine QS.then_exit ?_
      refine QS.block_exit ?_
      refine QS.then_code ?_
      refine CS.seq ?_
      refine CS.region ?_
      refine WS.det rfl rfl rfl (det_assign rfl) rfl ?_ -- r12.0 codes.go:372
      refine WS.done ?_
      refine QS.then_code ?_
      refine CS.ret ?_
      exact out1 rfl rfl (moreRetN (by rw [hfin]; rfl) (by rw [hfin]; rfl)) -- ret 2

theorem more_c (lw ls : Int) (cs : List Clue) (b : Nat) (e : TypeId) (rv : Value) (gs : List Value) (hL : lockB lw ls = true) : ∀ (m : Nat) (ks us : List Nat) (vk vu : Value) (w : World) (hch : ChB w b e (flagsOf lw ls cs) (manyC lw ls) rv gs) (h1 : SlI w vk (ks.map Int.ofNat)) (h2 : SlI w vu (us.map Int.ofNat)) (hks : ∀ k ∈ ks, k < cs.length) (hus : ∀ k ∈ us, k < cs.length) (N : Int) (hN : N = ((m + 1 : Nat) : Int)) (hm : ks.length + m ≤ 100) (hul : us.length ≤ 1000), Calls Try.prog 78 #[.pointer (some ⟨b, 0, none⟩), vk, vu, .int .i64 N] w (fun e w' => ∃ v : Value, (nilB v = (moreF lw ls cs (m + 1) ks us).isNone ∧ ∃ u0, SlI u0 v (((moreF lw ls cs (m + 1) ks us).getD []).map Int.ofNat)) ∧ RetF w v (roI v (((moreF lw ls cs (m + 1) ks us).getD []).map Int.ofNat)) e w')
  | 0, ks, us, vk, vu, w, hch, h1, h2, hks, hus, N, hN, hm, hul => more1_c lw ls cs b e rv gs w hL hch ks us vk vu h1 h2 hks hus N hN hm hul
  | m + 1, ks, us, vk, vu, w, hch, h1, h2, hks, hus, N, hN, hm, hul => moreS_c lw ls cs b e rv gs w hL hch m (more_c lw ls cs b e rv gs hL m) ks us vk vu h1 h2 hks hus N hN hm hul

end Go.Proofs.Ytldagbcceefcdaa
