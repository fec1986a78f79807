/- Contracts of functions, printed by a program of the prover (gen.py). -/
import Derived.Test.YtldagbcceefcdaaC14
import Derived.Test.YtldagbcceefcdaaCore
namespace Go.Proofs.Ytldagbcceefcdaa
open Go.RowKit Go.Proofs
set_option maxRecDepth 100000
set_option linter.unusedVariables false
set_option linter.unusedSimpArgs false

theorem CloneC_c (cs : List Clue) (gs : List Value) (v : Value) (w : World) (h1 : ClS w v cs gs) (hm : cs.length ≤ 1000000) :
    Calls Try.prog 74 #[v] w (fun e w' => ∃ v' : Value, v'.oneCell' = true ∧ RetF w v' (osl 36 7 v' cs.length (clFlat cs gs)) e w') := by
  have hone := clFlat_one (cs := cs) h1.one
  obtain ⟨hl, p, cap, rfl, hcap, hp⟩ := h1.sp
  refine enter Try.func74 rfl rfl (Nat.le_of_ble_eq_true rfl) ?_
  refine CS.seq ?_
  refine CS.region ?_
  refine WS.det rfl rfl rfl (det_assign rfl) rfl ?_ -- r0.0 slices.go:355
  refine WS.done ?_
  refine QS.then_code ?_
  refine CS.seq ?_
  refine CS.seq ?_
  refine CS.region ?_
  refine WS.det rfl rfl rfl (det_move rfl) rfl ?_ -- r1.0 slices.go:357
  refine WS.det rfl rfl rfl (det_eqnil sl31 rfl rfl) rfl ?_ -- r1.1 slices.go:357
  refine WS.done ?_
  refine QS.then_code ?_
  refine CS.cond rfl (fun hc1 => ?_) (fun hc1 => ?_) <;> (try simp only [decide_eq_true_eq, decide_eq_false_iff_not, Bool.and_eq_true, Bool.or_eq_true, Bool.and_eq_false_iff, Bool.or_eq_false_iff, Bool.not_eq_true', Bool.not_eq_false', ne_eq, Decidable.not_not, Bool.not_true, Bool.not_false, bne_iff_ne, bne_eq_false_iff_eq, beq_iff_eq, beq_eq_false_iff_ne] at hc1)
  · skip
    have hx0 : cs = [] := by
      have : p = none := by simpa using hc1
      subst this
      exact List.eq_nil_of_length_eq_zero (SlC.nil h1.sp)
    have hg0 : gs = [] := List.eq_nil_of_length_eq_zero (by rw [h1.len, hx0]; rfl)
    subst hx0; subst hg0
    refine CS.seq ?_
    refine CS.region ?_
    refine WS.det rfl rfl rfl (det_assign rfl) rfl ?_ -- r2.0 slices.go:358
    refine WS.done ?_
    refine QS.then_code ?_
    refine CS.ret ?_
    refine QS.then_ret ?_
    exact out1 rfl rfl (fun u hu => ⟨_, rfl, retF (j := 0) rfl u hu.osl0⟩) -- ret 1
  · skip
    refine CS.skip ?_
    refine QS.then_code ?_
    refine CS.seq ?_
    refine CS.region ?_
    refine WS.build0 sl31 zv36 (fun _ => rfl) ?_; intro v5 -- r3.0 slices.go:362
    refine WS.det rfl rfl rfl (det_move rfl) rfl ?_ -- r3.1 slices.go:362
    refine WS.append (j := 0) (xs := []) (news := clFlat cs gs) (m := cs.length) sl31 zv36 rfl (by decide) rfl rfl rfl (fun u hu => (h1.st hu).sp) hone (by omega) (by omega) (fun _ => rfl) (fun _ => rfl) ?_; intro v7; refine WS.oc (j := 0) rfl (fun hv7 => ?_) -- r3.2 slices.go:362
    refine WS.det rfl rfl rfl (det_assign rfl) rfl ?_ -- r3.3 slices.go:362
    refine WS.done ?_
    refine QS.then_code ?_
    refine CS.ret ?_
    exact out1 rfl rfl (fun u hu => ⟨v7, hv7, by
        have := retF (v := v7) (j := 0) rfl u hu
        rw [Nat.zero_add] at this
        exact this⟩) -- ret 2

theorem DeleteC_c {n0 : Nat} {w0 u : World} (R : List SA) (cs : List Clue) (gs : List Value) (v : Value) (i : Int) (hu : St n0 w0 (osl 36 7 v cs.length (clFlat cs gs) :: R) u) (hg : gs.length = cs.length) (hone : ∀ g ∈ gs, g.oneCell' = true) (h0 : 0 ≤ i) (h1 : i < cs.length) (hm : cs.length ≤ 1000000) :
    Calls Try.prog 73 #[v, .int .i64 i, .int .i64 (i + 1)] u (fun e u' => ∃ v' : Value, v'.oneCell' = true ∧ e = .returned v' ∧ St n0 w0 (osl 36 7 v' (cs.eraseIdx i.toNat).length (clFlat (cs.eraseIdx i.toNat) (gs.eraseIdx i.toNat)) :: R) u') := by
  have hsp : SlC u v cs.length 7 (clFlat cs gs) := osl_SlC hu (j := 0) rfl
  obtain ⟨b, cap, cur, rfl, hcc, hcm, hcl, hct, hu⟩ := hu.openRow (by omega)
  have hel : (cs.eraseIdx i.toNat).length = cs.length - 1 := List.length_eraseIdx_of_lt (by omega)
  have hnl : ((cur.drop ((i + 1).toNat * 7)).take ((cs.length - (i + 1).toNat) * 7)).length = (cs.length - (i + 1).toNat) * 7 := by simp; omega
  have hn7 : (cur.drop ((i + 1).toNat * 7)).take ((cs.length - (i + 1).toNat) * 7) = (clFlat cs gs).drop ((i + 1).toNat * 7) := by
    rw [← hct, List.drop_take]
    congr 1
    omega
  have ht7 : cur.take (i.toNat * 7) = (clFlat cs gs).take (i.toNat * 7) := by rw [← hct, List.take_take, Nat.min_eq_left (by omega)]
  have hal := clFlat_one (cs := cs) hone
  have hv1 : sub2 7 (.slice (some ⟨b, 0, none⟩) cs.length cap) 0 i.toNat = .slice (some ⟨b, 0, none⟩) i.toNat cap := by simp [sub2, addr_add]
  obtain ⟨m, hmm⟩ : ∃ m, m = cs.length - (i + 1).toNat := ⟨_, rfl⟩
  obtain ⟨off, hoff⟩ : ∃ off, off = if cap = (i + 1).toNat then 0 else (i + 1).toNat * 7 := ⟨_, rfl⟩
  obtain ⟨news, hnw⟩ : ∃ news, news = (clFlat cs gs).drop ((i + 1).toNat * 7) := ⟨_, rfl⟩
  have hfl := clFlat_len hg
  have hnwl : news.length = m * 7 := by rw [hnw, List.length_drop, hfl]; omega
  have hv2 : sub2 7 (.slice (some ⟨b, 0, none⟩) cs.length cap) (i + 1).toNat cs.length = .slice (some ⟨b, off, none⟩) m (cap - (i + 1).toNat) := by
    rw [hoff, hmm]; simp only [sub2, Option.map_some, addr_add, Nat.zero_add]; split <;> rfl
  have hnews : (cur.drop off).take (m * 7) = news := by
    rw [hoff]
    split
    · have e : m = 0 := by omega
      rw [e] at hnwl ⊢
      simp
      exact List.eq_nil_of_length_eq_zero (by omega)
    · rw [hmm, hn7, hnw]
  have hnone : ∀ a ∈ news, a.oneCell' = true := fun a ha => hal a (by rw [hnw] at ha; exact List.mem_of_mem_drop ha)
  have hera : cur.take (i.toNat * 7) ++ news = clFlat (cs.eraseIdx i.toNat) (gs.eraseIdx i.toNat) := by
    rw [ht7, hnw, ← clFlat_era hg, show (i + 1).toNat = i.toNat + 1 by omega]
  have htl : (cur.take (i.toNat * 7)).length = i.toNat * 7 := by simp; omega
  refine enterI hu Try.func73 rfl rfl (Nat.le_of_ble_eq_true rfl) ?_
  refine CS.seq ?_
  refine CS.region ?_
  refine WS.det rfl rfl rfl (det_assign rfl) rfl ?_ -- r0.0 slices.go:224
  refine WS.done ?_
  refine QS.then_code ?_
  refine CS.seq ?_
  refine CS.region ?_
  refine WS.det rfl rfl rfl (det_move rfl) rfl ?_ -- r1.0 slices.go:225
  refine WS.det rfl rfl rfl (det_move rfl) rfl ?_ -- r1.1 slices.go:225
  refine WS.det rfl rfl rfl (det_move rfl) rfl ?_ -- r1.2 slices.go:225
  refine WS.det rfl rfl rfl (det_move rfl) rfl ?_ -- r1.3 slices.go:225
  refine WS.det rfl rfl rfl ((by first | exact det_lenS sl31 rfl (by assumption) | exact det_lenS sl31 rfl (by first | exact SlL.sp (by assumption) | exact ClS.sp (by assumption)) | exact det_lenO sl31 rfl | exact det_lenV sl31 rfl ⟨_, _, rfl⟩)) rfl ?_ -- r1.4 slices.go:225
  refine WS.det rfl rfl rfl (det_slPart3 sl31 rfl rfl rfl rfl (by first | assumption | exact SlL.sp (by assumption) | exact ClS.sp (by assumption)) (by omega) (by omega) (by omega) (by omega)) rfl ?_ -- r1.5 slices.go:225
  refine WS.done ?_
  refine QS.then_code ?_
  refine CS.seq ?_
  refine CS.seq ?_
  refine CS.region ?_
  refine WS.det rfl rfl rfl (det_move rfl) rfl ?_ -- r2.0 slices.go:227
  refine WS.det rfl rfl rfl (det_move rfl) rfl ?_ -- r2.1 slices.go:227
  refine WS.det rfl rfl rfl (det_eq rfl rfl) rfl ?_ -- r2.2 slices.go:227
  refine WS.done ?_
  refine QS.then_code ?_
  refine CS.cond rfl (fun hc1 => ?_) (fun hc1 => ?_) <;> (try simp only [decide_eq_true_eq, decide_eq_false_iff_not, Bool.and_eq_true, Bool.or_eq_true, Bool.and_eq_false_iff, Bool.or_eq_false_iff, Bool.not_eq_true', Bool.not_eq_false', ne_eq, Decidable.not_not, Bool.not_true, Bool.not_false, bne_iff_ne, bne_eq_false_iff_eq, beq_iff_eq, beq_eq_false_iff_ne] at hc1)
  · skip
    omega
  · skip
    refine CS.skip ?_
    refine QS.then_code ?_
    refine CS.seq ?_
    refine CS.region ?_
    refine WS.det rfl rfl rfl (det_move rfl) rfl ?_ -- r4.0 slices.go:231
    refine WS.det rfl rfl rfl ((by first | exact det_lenS sl31 rfl (by assumption) | exact det_lenS sl31 rfl (by first | exact SlL.sp (by assumption) | exact ClS.sp (by assumption)) | exact det_lenO sl31 rfl | exact det_lenV sl31 rfl ⟨_, _, rfl⟩)) rfl ?_ -- r4.1 slices.go:231
    refine WS.det rfl rfl rfl (det_assign rfl) rfl ?_ -- r4.2 slices.go:231
    refine WS.done ?_
    refine QS.then_code ?_
    refine CS.seq ?_
    refine CS.drawnTill 6 (k := 8) mixed rfl rfl ?_
    refine AT.take 0 rfl (by kernel_rfl) (na := 8) (by kernel_rfl) rfl (by kernel_rfl) (by kernel_rfl) (by kernel_rfl) rfl rfl (det_move rfl) rfl rfl ?_ -- r5.0 slices.go:232
    refine AT.take 1 rfl (by kernel_rfl) (na := 8) (by kernel_rfl) rfl (by kernel_rfl) (by kernel_rfl) (by kernel_rfl) rfl rfl (det_move rfl) rfl rfl ?_ -- r5.1 slices.go:232
    refine AT.take 2 rfl (by kernel_rfl) (na := 8) (by kernel_rfl) rfl (by kernel_rfl) (by kernel_rfl) (by kernel_rfl) rfl rfl (det_slTo sl31 rfl rfl (by first | assumption | exact SlL.sp (by assumption) | exact ClS.sp (by assumption)) (by omega) (by omega)) rfl rfl ?_ -- r5.2 slices.go:232
    refine AT.take 3 rfl (by kernel_rfl) (na := 8) (by kernel_rfl) rfl (by kernel_rfl) (by kernel_rfl) (by kernel_rfl) rfl rfl (det_move rfl) rfl rfl ?_ -- r5.3 slices.go:232
    refine AT.take 4 rfl (by kernel_rfl) (na := 8) (by kernel_rfl) rfl (by kernel_rfl) (by kernel_rfl) (by kernel_rfl) rfl rfl (det_move rfl) rfl rfl ?_ -- r5.4 slices.go:232
    refine AT.take 5 rfl (by kernel_rfl) (na := 8) (by kernel_rfl) rfl (by kernel_rfl) (by kernel_rfl) (by kernel_rfl) rfl rfl (det_slFrom sl31 rfl rfl (by first | assumption | exact SlL.sp (by assumption) | exact ClS.sp (by assumption)) (by omega) (by omega)) rfl rfl ?_ -- r5.5 slices.go:232
    refine AT.one (i := 6) (by kernel_rfl) rfl (by first | (intro h; exact absurd h (by decide)) | exact fun _ _ h => h | exact fun _ _ h => h.sub (by repeat first | exact List.Sublist.refl _ | apply List.Sublist.cons_cons | apply List.Sublist.cons)) rfl ?_
    refine WS.blkAppend (j := 0) (off := off) (news := news) (m := m) sl31 rfl hv1 rfl hv2 rfl hnews hnwl hnone (by omega) (by omega) rfl rfl ?_ -- r5.6 slices.go:232
    refine WS.done ?_
    refine QS.then_AT ?_
    refine AT.one (i := 7) (by kernel_rfl) rfl (by first | (intro h; exact absurd h (by decide)) | exact fun _ _ h => h | exact fun _ _ h => h.sub (by repeat first | exact List.Sublist.refl _ | apply List.Sublist.cons_cons | apply List.Sublist.cons)) rfl ?_
    refine WS.det rfl rfl rfl (det_assign rfl) rfl ?_ -- r5.7 slices.go:232
    refine WS.done ?_
    refine QS.then_AT ?_
    refine AT.done (by kernel_rfl) (by first | (intro h; exact absurd h (by decide)) | exact fun _ _ h => h | exact fun _ _ h => h.sub (by repeat first | exact List.Sublist.refl _ | apply List.Sublist.cons_cons | apply List.Sublist.cons)) ?_
    refine QS.then_code ?_
    refine CS.seq ?_
    refine CS.region ?_
    refine WS.det rfl rfl rfl (det_move rfl) rfl ?_ -- r6.0 slices.go:233
    refine WS.det rfl rfl rfl (det_move rfl) rfl ?_ -- r6.1 slices.go:233
    refine WS.det rfl rfl rfl ((by first | exact det_lenS sl31 rfl (by assumption) | exact det_lenS sl31 rfl (by first | exact SlL.sp (by assumption) | exact ClS.sp (by assumption)) | exact det_lenO sl31 rfl | exact det_lenV sl31 rfl ⟨_, _, rfl⟩)) rfl ?_ -- r6.2 slices.go:233
    refine WS.det rfl rfl rfl (det_move rfl) rfl ?_ -- r6.3 slices.go:233
    refine WS.det rfl rfl rfl (det_slCap sl31 rfl rfl rfl (by omega) (by omega) (by omega) (by omega)) rfl ?_ -- r6.4 slices.go:233
    refine WS.clearBlk (j := 0) sl31 zv36 rfl rfl (by omega) rfl (by simp [Value.oneCell']) (by simp only [List.length_append, List.length_drop, htl, hnwl]; omega) rfl ?_ -- r6.5 slices.go:233
    refine WS.done ?_
    refine QS.then_code ?_
    refine CS.seq ?_
    refine CS.region ?_
    refine WS.det rfl rfl rfl (det_move rfl) rfl ?_ -- r7.0 slices.go:234
    refine WS.det rfl rfl rfl (det_assign rfl) rfl ?_ -- r7.1 slices.go:234
    refine WS.done ?_
    refine QS.then_code ?_
    refine CS.ret ?_
    exact out1 rfl rfl (fun u' hu' => ⟨_, rfl, rfl, by
          have hn1 : (cs.eraseIdx i.toNat).length = i.toNat + m := by omega
          rw [hn1]
          refine hu'.closeRow (by omega) hcm ?_ ?_
          · simp only [List.length_append, List.length_take, List.length_drop, htl, hnwl, List.length_cons, List.length_nil]
            omega
          · rw [← hera, List.append_assoc, List.take_append_of_le_length (by simp only [List.length_take, List.length_append, List.length_drop, htl, hnwl]; omega), List.take_take]
            rw [List.take_append_of_le_length (by simp only [List.length_append, htl, hnwl]; omega), List.take_of_length_le (by simp only [List.length_append, htl, hnwl]; omega)]⟩) -- ret 1

end Go.Proofs.Ytldagbcceefcdaa
