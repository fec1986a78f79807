/- Plain laws on what is left behind an answer; on cores, idle clues and pairs. No program in sight. -/
import Derived.Test.YtldagbcceefcdaaExact
namespace Go.Proofs.Ytldagbcceefcdaa
set_option linter.unusedVariables false
set_option linter.unusedSimpArgs false
open Go.RowKit

section
variable {w s : Int} {cs : List Clue}
theorem nx_of (h : cluesE w s cs = 0) (h2 : nxE w s cs = 0) : 0 < (readL w s cs).length ∧ (readL w s cs).length ≤ 200 := by
  unfold nxE at h2
  rw [if_pos h] at h2
  repeat' split at h2
  all_goals omega
theorem nx_not (h : cluesE w s cs = 0) (h2 : ¬ nxE w s cs = 0) (hn : (readL w s cs).length ≤ 60) : (readL w s cs).length = 0 ∧ nxE w s cs = 3 := by
  unfold nxE at h2 ⊢
  rw [if_pos h] at h2 ⊢
  by_cases h0 : (readL w s cs).length = 0
  · rw [if_pos h0]; exact ⟨h0, rfl⟩
  · rw [if_neg h0, if_neg (by omega)] at h2; exact absurd rfl h2
theorem nxG_mem (h : 0 < (readL w s cs).length) : nxG w s cs ∈ readL w s cs := by
  have := bestJ_lt (readL w s cs) (readL w s cs).length h
  exact nth_mem (by omega) (by omega)
theorem cA_pos {L : List (List Int)} {x y : List Int} (h : y ∈ L) : 1 ≤ cA L x y := by
  have : 0 < (L.filter fun z => decide (rightN z x = rightN y x) && decide (comN z x = comN y x)).length := List.length_pos_of_mem (List.mem_filter.2 ⟨h, by simp⟩)
  unfold cA cntRC
  omega
theorem cA_le {L : List (List Int)} {x y : List Int} (h : y ∈ L) : cA L x y ≤ wN L x := maxL_ge (List.mem_map_of_mem h)
theorem wN_pos {L : List (List Int)} {x : List Int} (h : 0 < L.length) : 1 ≤ wN L x := by
  have h1 := cA_pos (x := x) (List.getElem_mem h)
  have h2 := cA_le (x := x) (List.getElem_mem h)
  omega
theorem readL_nodup (hL : lockB w s = true) : (readL w s cs).Nodup := by
  refine List.Pairwise.imp ?_ (readL_sorted hL cs)
  intro a b h e
  subst e
  rw [before_self] at h; cases h
theorem filter_one {α : Type} [DecidableEq α] {p : α → Bool} {x : α} : ∀ {L : List α}, L.Nodup → (∀ y ∈ L, p y = true → y = x) → (L.filter p).length ≤ 1
  | [], _, _ => by simp
  | a :: L, hn, h => by
    rw [List.nodup_cons] at hn
    have ih := filter_one (p := p) (x := x) hn.2 (fun y hy => h y (by simp [hy]))
    rw [List.filter_cons]
    split
    · rename_i hp
      have hax := h a (by simp) hp
      have : L.filter p = [] := by
        rw [List.filter_eq_nil_iff]
        intro y hy hp2
        have := h y (by simp [hy]) hp2
        rw [hax, ← this] at hn
        exact hn.1 hy
      rw [this]; simp
    · exact ih
theorem filter_miss {α : Type} {p : α → Bool} {x : α} : ∀ {L : List α}, x ∈ L → p x = false → (L.filter p).length < L.length
  | a :: L, h, hp => by
    have hle := List.length_filter_le p L
    rw [List.filter_cons]
    by_cases ha : p a = true
    · rw [if_pos ha]
      have : x ∈ L := by
        simp only [List.mem_cons] at h
        rcases h with rfl | h
        · rw [hp] at ha; cases ha
        · exact h
      have h3 := filter_miss (p := p) this hp
      simp only [List.length_cons]; omega
    · rw [if_neg ha]; simp only [List.length_cons]; omega
theorem wN_lt (hL : lockB w s = true) {x : List Int} (hx : x ∈ readL w s cs) (h : 1 < (readL w s cs).length) : wN (readL w s cs) x < (readL w s cs).length := by
  have hxb := (readL_mem hL hx).1
  have hm : wN (readL w s cs) x ≤ (readL w s cs).length - 1 := by
    refine maxL_le (by omega) fun a ha => ?_
    obtain ⟨y, hy, rfl⟩ := List.mem_map.1 ha
    have hyb := (readL_mem hL hy).1
    have hl1 := (code_of hxb).1
    have hl2 := (code_of hyb).1
    by_cases he : rightN y x = rightN x x
    · -- only x itself
      have hyx : y = x := right_full (by omega) (by rw [he, right_self]; omega)
      subst hyx
      have : ((readL w s cs).filter fun z => decide (rightN z y = rightN y y) && decide (comN z y = comN y y)).length ≤ 1 := by
        refine filter_one (x := y) (readL_nodup hL) fun z hz hp => ?_
        simp only [Bool.and_eq_true, decide_eq_true_eq] at hp
        have hl3 := (code_of (readL_mem hL hz).1).1
        exact right_full (by omega) (by rw [hp.1, right_self]; omega)
      unfold cA cntRC
      omega
    · have : ((readL w s cs).filter fun z => decide (rightN z x = rightN y x) && decide (comN z x = comN y x)).length < (readL w s cs).length := by
        refine filter_miss hx ?_
        rw [decide_eq_false (fun e => he e.symm)]; rfl
      unfold cA cntRC
      omega
  omega
/-- The clue that an answer makes. -/
def ansC (x y : List Int) : Clue := ⟨6, 0, 0, rightN y x, comN y x, x, false⟩
theorem ansC_holds (x y z : List Int) : holdsT (ansC x y) z = (decide (rightN z x = rightN y x) && decide (comN z x = comN y x)) := by
  have hp : plainT (ansC x y) z = (decide (rightN z x = rightN y x) && decide (comN z x = comN y x)) := by
    simp only [plainT, ansC]
    rfl
  unfold holdsT
  rw [hp]
  show (_ != false) = _
  exact Bool.bne_false _
theorem ansC_count (x y : List Int) : ((readL w s (cs ++ [ansC x y])).length : Int) = cA (readL w s cs) x y := by
  rw [readL_snoc]
  unfold cA cntRC
  congr 2
  congr 1
  funext z
  exact ansC_holds x y z
theorem ansC_clue (hL : lockB w s = true) {x y : List Int} (hx : codeB w s x = true) (hy : codeB w s y = true) : clueB w s (ansC x y) = true := by
  have hb := ans_bd hL hx hy
  have h1 := right_common (ys := x) (code_ten hL hy).2
  have h2 := common_len (ys := x) (code_ten hL hy).2
  have h3 := (code_of hy).1
  have h4 := rightN_le y x
  simp only [clueB, ansC]
  have hc : comN y x = commonN y x 10 - rightN y x := rfl
  simp [within, hx]
  omega
end
end Go.Proofs.Ytldagbcceefcdaa
