/- Contracts of functions, printed by a program of the prover (gen.py). -/
import Derived.Test.YtldagbcceefcdaaC7
namespace Go.Proofs.Ytldagbcceefcdaa
open Go.RowKit Go.Proofs
set_option maxRecDepth 100000
set_option linter.unusedVariables false
set_option linter.unusedSimpArgs false

theorem codes_c (lw ls : Int) (w : World) :
    Calls Try.prog 77 #[.agg #[.int .i64 lw, .int .i64 ls]] w (fun e w' => ∃ b : Nat, True ∧ RetF w (.func (.func 93) #[] #[.pointer (some ⟨b, 0, none⟩)]) (blk b [.int .i64 lw, .int .i64 ls] 77) e w') := by
  refine enter Try.func77 rfl rfl (Nat.le_of_ble_eq_true rfl) ?_
  refine CS.seq ?_
  refine CS.region ?_
  refine WS.box rfl rfl (fun _ => rfl) ?_; intro b1 hb1 -- r0.0 codes.go:188
  refine WS.det rfl rfl rfl (det_assign rfl) rfl ?_ -- r0.1 codes.go:188
  refine WS.done ?_
  refine QS.then_code ?_
  refine CS.seq ?_
  refine CS.region ?_
  refine WS.det rfl rfl rfl (det_makeFunc rfl) rfl ?_ -- r1.0 codes.go:189
  refine WS.det rfl rfl rfl (det_assign rfl) rfl ?_ -- r1.1 codes.go:189
  refine WS.done ?_
  refine QS.then_code ?_
  refine CS.ret ?_
  exact out1 rfl rfl (fun u hu => ⟨b1, trivial, retF (j := 0) rfl u hu⟩) -- ret 1

theorem readings_c (lw ls : Int) (cs : List Clue) (gs : List Value) (cv : Value) (w : World) (hk : ClS w cv cs gs) :
    Calls Try.prog 67 #[.agg #[.int .i64 lw, .int .i64 ls], cv] w (fun e w' => ∃ b : Nat × Nat, True ∧ RetF w (.func (.func 92) #[] #[.pointer (some ⟨b.1, 0, none⟩), .pointer (some ⟨b.2, 0, none⟩)]) (star [blk b.1 [.int .i64 lw, .int .i64 ls] 77, blk b.2 [cv] 31]) e w') := by
  obtain ⟨_, p, cap, rfl, _⟩ := hk.sp
  refine enter Try.func67 rfl rfl (Nat.le_of_ble_eq_true rfl) ?_
  refine CS.seq ?_
  refine CS.region ?_
  refine WS.box rfl rfl (fun _ => rfl) ?_; intro b2 hb2 -- r0.0 codes.go:209
  refine WS.box rfl rfl (fun _ => rfl) ?_; intro b3 hb3 -- r0.1 codes.go:209
  refine WS.det rfl rfl rfl (det_assign rfl) rfl ?_ -- r0.2 codes.go:209
  refine WS.done ?_
  refine QS.then_code ?_
  refine CS.seq ?_
  refine CS.region ?_
  refine WS.det rfl rfl rfl (det_makeFunc rfl) rfl ?_ -- r1.0 codes.go:210
  refine WS.det rfl rfl rfl (det_assign rfl) rfl ?_ -- r1.1 codes.go:210
  refine WS.done ?_
  refine QS.then_code ?_
  refine CS.ret ?_
  exact out1 rfl rfl (fun u hu => ⟨(b2, b3), trivial, retFs hu (.swap _ _ _)⟩) -- ret 1

theorem readingsI_c (lw ls : Int) (cs : List Clue) (gs : List Value) (cv : Value) (w0 : World) (b1 b2 : Nat) (hL : lockB lw ls = true) (hk : ClS w0 cv cs gs) (hC : ∀ c ∈ cs, clueB lw ls c = true) :
    Iter Try.prog w0 92 [.pointer (some ⟨b1, 0, none⟩), .pointer (some ⟨b2, 0, none⟩)] [blk b1 [.int .i64 lw, .int .i64 ls] 77, blk b2 [cv] 31] (fun v x => oints 3 v x) (readL lw ls cs) := by
  obtain ⟨hkl, pp, cap, hpv, hkr⟩ := hk.sp
  subst hpv
  replace hk : ClS w0 (.slice pp cs.length cap) cs gs := ⟨⟨hkl, _, _, rfl, hkr⟩, hk.len, hk.el⟩
  clear hkl hkr
  obtain ⟨cv, hcv⟩ : ∃ cv, cv = Value.slice pp cs.length cap := ⟨_, rfl⟩
  rw [← hcv] at hk ⊢
  intro lp C Cx hy u hu
  refine enterM hu Try.func92 rfl rfl (Nat.le_of_ble_eq_true rfl) ?_
  refine CS.seq ?_
  refine CS.region ?_
  refine WS.box rfl rfl (fun _ => rfl) ?_; intro b3 hb3 -- r0.0 codes.go:210
  refine WS.done ?_
  refine QS.then_code ?_
  refine CS.seq ?_
  refine CS.region ?_
  refine WS.det rfl rfl rfl ((by first | exact det_loadb0 (j := 2) rfl rfl tk77 | exact det_loadbN (j := 2) rfl rfl (by rfl) tk77 | exact det_loadwN rfl (by assumption) (by rfl) tk77)) rfl ?_ -- r1.0 codes.go:211
  refine WS.callF rfl rfl ent77 (fun u hu => codes_c _ _ u) (fun _ => rfl) ?_; intro bc _ -- r1.1 codes.go:211
  refine WS.done ?_
  refine QS.then_code ?_
  refine CS.block ?_
  refine CS.perm (L' := [C [], blk b3 [.func (.yield lp) #[] #[]] 107, blk b1 [.int .i64 lw, .int .i64 ls] 77, blk b2 [cv] 31] ++ [blk bc [.int .i64 lw, .int .i64 ls] 77]) ((List.perm_append_comm (l₁ := [_]) (l₂ := [_, _, _, _])).trans (.swap _ _ _)) ?_
  refine CS.rangeA (A := [blk bc [.int .i64 lw, .int .i64 ls] 77]) rfl ent93 (codesI_c lw ls w0 bc hL) (fun pre => [C (pre.filter (fitB cs)), blk b3 [.func (.yield lp) #[] #[]] 107, blk b1 [.int .i64 lw, .int .i64 ls] 77, blk b2 [cv] 31]) (fun c pre => match c with | .ret => [Cx (pre.filter (fitB cs)), fact (∀ q z, pre = q ++ [z] → fitB cs z = true), blk b1 [.int .i64 lw, .int .i64 ls] 77, blk b2 [cv] 31] | _ => [fact False]) (fun _ => rfl) (Nat.le_of_ble_eq_true rfl) (fun _ => rfl) ?_ ?_ ?_
  · intro lr pre x post v F hall
    have hx : codeB lw ls x = true := allC_mem hL (by rw [hall]; simp)
    refine CS.block ?_
    refine CS.seq ?_
    refine CS.region ?_
    refine WS.det rfl rfl rfl ((by first | exact det_loadb (j := 4) rfl rfl rfl tk31 | exact det_loadw rfl (by assumption) rfl tk31)) rfl ?_ -- r3.0 codes.go:212
    refine WS.det rfl rfl rfl (det_move rfl) rfl ?_ -- r3.1 codes.go:212
    refine WS.det rfl rfl rfl (det_callB rfl rfl ent58 (fun u hu => fails_c lw ls cs gs cv x v u (fun c hc => ⟨hL, hC c hc, hx⟩) (hk.st hu) (oints_SlI hu (j := 0) rfl))) rfl ?_ -- r3.2 codes.go:212
    refine WS.det rfl rfl rfl (det_lt rfl rfl) rfl ?_ -- r3.3 codes.go:212
    refine WS.det rfl rfl rfl (det_move rfl) rfl ?_ -- r3.4 codes.go:212
    rcases hB : decide (failsT cs x < 0) with _ | _
    · refine WS.unwanted rfl rfl rfl ?_
      refine WS.unwanted rfl rfl rfl ?_
      refine WS.unwanted rfl rfl rfl ?_
      refine WS.unwanted rfl rfl rfl ?_
      refine WS.det rfl rfl rfl (det_pick rfl) rfl ?_
      refine WS.done ?_
      refine QS.then_code ?_
      refine CS.cond rfl (fun h => nomatch h) (fun _ => ?_)
      refine CS.skip ?_
      refine QS.block_normal ?_
      exact fun u hu => by simp only [roundQ, fit_no hB]; exact hu
    refine WS.guardT rfl rfl rfl rfl (fun _ => det_loadb (j := 2) rfl rfl rfl tk107) rfl ?_
    refine WS.guardT rfl rfl rfl rfl (fun _ => det_move rfl) rfl ?_
    refine WS.yield (L' := fun b' => oints 3 v x :: cond b' (C (pre.filter (fitB cs) ++ [x])) (Cx (pre.filter (fitB cs) ++ [x])) :: [blk b3 [.func (.yield lp) #[] #[]] 107, blk b1 [.int .i64 lw, .int .i64 ls] 77, blk b2 [cv] 31, F]) rfl rfl rfl (fun u hu => yield_lentS (fun F' u' hu' => hy _ x _ (readL_split hall hB) F' v u' hu') hu) (fun _ => rfl) ?_
    intro b'
    refine WS.guardT rfl rfl rfl rfl (fun _ => det_not rfl) rfl ?_
    refine WS.det rfl rfl rfl (det_pick_and rfl rfl rfl) rfl ?_ -- r3.5 codes.go:212
    skip -- r3.6 codes.go:212
    skip -- r3.7 codes.go:212
    skip -- r3.8 codes.go:212
    skip -- r3.9 codes.go:212
    refine WS.done ?_
    refine QS.then_code ?_
    refine CS.cond rfl (fun hc1 => ?_) (fun hc1 => ?_) <;> (try simp only [decide_eq_true_eq, decide_eq_false_iff_not, Bool.and_eq_true, Bool.or_eq_true, Bool.and_eq_false_iff, Bool.or_eq_false_iff, Bool.not_eq_true', Bool.not_eq_false', ne_eq, Decidable.not_not, Bool.not_true, Bool.not_false, bne_iff_ne, bne_eq_false_iff_eq, beq_iff_eq, beq_eq_false_iff_ne] at hc1)
    · skip
      obtain rfl : b' = false := by simpa using hc1
      refine CS.ret ?_
      refine QS.block_ret ?_
      exact fun u hu => by
        simp only [roundQ, fit_yes hB]
        have h := St.factI (p := ∀ q z, pre ++ [x] = q ++ [z] → fitB cs z = true) (fun q z e => by obtain ⟨_, e2⟩ := List.append_inj' e rfl; simp at e2; rw [← e2]; exact hB) hu
        exact (h.perm (.swap _ _ _)).perm (.cons _ (.swap _ _ _)) |>.sub (.cons_cons _ (.cons_cons _ (.cons_cons _ (.cons _ (.cons_cons _ (.cons_cons _ (.cons_cons _ .slnil)))))))
    · skip
      obtain rfl : b' = true := by simpa using hc1
      refine CS.skip ?_
      refine QS.block_normal ?_
      exact fun u hu => by simp only [roundQ, fit_yes hB]; exact hu
  · intro D
    refine QS.block_normal ?_
    exact outM (j := 0) (Or.inr rfl) rfl (res0 rfl) (fun u hu => ⟨⟨_, rfl⟩, .inl (hu.sub (.cons _ (.cons_cons _ (.cons _ (.cons_cons _ (.cons_cons _ (.cons _ .slnil)))))))⟩)
  · intro D c pre x post hall
    cases c with
    | ret =>
      refine CS.ret ?_
      refine QS.block_ret ?_
      exact outM (j := 0) (Or.inl rfl) rfl (res0 rfl) (fun u hu => ⟨⟨_, rfl⟩, .inr ⟨_, x, _, readL_split hall (hu.factE (j := 2) rfl pre x rfl), by rw [← fit_yes (hu.factE (j := 2) rfl pre x rfl)]; exact hu.sub (.cons _ (.cons_cons _ (.cons _ (.cons_cons _ (.cons_cons _ (.cons _ .slnil))))))⟩⟩) -- ret 1
    | _ => exact fun u hu => (hu.factE (j := 1) rfl).elim

end Go.Proofs.Ytldagbcceefcdaa
