/- Plain laws on the fewest clues for which a code is the only reading. No program in sight. -/
import Derived.Test.YtldagbcceefcdaaLol
namespace Go.Proofs.Ytldagbcceefcdaa
set_option linter.unusedVariables false
set_option linter.unusedSimpArgs false
open Go.RowKit

section
variable {w s : Int} {cs : List Clue} {xs : List Int}
theorem inc_pair : ∀ {zs : List Int}, (∀ i : Int, 0 < i → i < zs.length → nth zs (i - 1) < nth zs i) → zs.Pairwise (· < ·)
  | [], _ => List.Pairwise.nil
  | [_], _ => List.pairwise_singleton _ _
  | x :: y :: zs, h => by
    have hp : (y :: zs).Pairwise (· < ·) := inc_pair fun i h0 h1 => by
      have := h (i + 1) (by omega) (by simp at h1 ⊢; omega)
      have e1 : nth (x :: y :: zs) (i + 1) = nth (y :: zs) i := by
        unfold nth; rw [show (i + 1).toNat = i.toNat + 1 by omega]; rfl
      have e2 : nth (x :: y :: zs) (i + 1 - 1) = nth (y :: zs) (i - 1) := by
        unfold nth; rw [show (i + 1 - 1).toNat = (i - 1).toNat + 1 by omega]; rfl
      rw [e1, e2] at this
      exact this
    have hxy : x < y := by
      have := h 1 (by omega) (by simp; omega)
      exact this
    rw [List.pairwise_cons] at hp
    refine List.pairwise_cons.2 ⟨fun z hz => ?_, List.pairwise_cons.2 hp⟩
    simp only [List.mem_cons] at hz
    rcases hz with rfl | hz
    · exact hxy
    · have := hp.1 z hz; omega
def sing (w s : Int) (cs : List Clue) (ks : List Nat) : Prop := (readL w s (pickN cs ks)).length = 1
theorem moreF_sound : ∀ (n : Nat) (us ks r : List Nat), moreF w s cs n ks us = some r → ∃ K, r = ks ++ K ∧ K.length = n ∧ K.Sublist us ∧ sing w s cs r
  | 0, us, ks, r, h => by
    rw [moreF] at h
    split at h
    · rename_i h1
      injection h with h
      subst h
      exact ⟨[], by simp, rfl, List.nil_sublist _, h1⟩
    · cases h
  | n + 1, [], ks, r, h => by rw [moreF_nil] at h; cases h
  | n + 1, i :: us, ks, r, h => by
    cases hm : moreF w s cs n (ks ++ [i]) us with
    | some r' =>
      rw [moreF_some hm] at h
      injection h with h
      subst h
      obtain ⟨K, h1, h2, h3, h4⟩ := moreF_sound n us (ks ++ [i]) r' hm
      exact ⟨i :: K, by rw [h1]; simp, by simp [h2], h3.cons_cons i, h4⟩
    | none =>
      rw [moreF_none hm] at h
      obtain ⟨K, h1, h2, h3, h4⟩ := moreF_sound (n + 1) us ks r h
      exact ⟨K, h1, h2, h3.cons i, h4⟩
theorem moreF_complete : ∀ (n : Nat) (us ks K : List Nat), us.Pairwise (· < ·) → K.Sublist us → K.length = n → sing w s cs (ks ++ K) →
    ∃ K', moreF w s cs n ks us = some (ks ++ K') ∧ beforeB (K.map Int.ofNat) (K'.map Int.ofNat) = false
  | 0, us, ks, K, _, _, hl, hs => by
    have : K = [] := List.eq_nil_of_length_eq_zero hl
    subst this
    refine ⟨[], ?_, rfl⟩
    rw [moreF, List.append_nil, if_pos (by simpa [sing] using hs)]
  | n + 1, [], ks, K, _, hsub, hl, _ => by
    have : K = [] := List.sublist_nil.1 hsub
    subst this; simp at hl
  | n + 1, i :: us, ks, K, hp, hsub, hl, hs => by
    rw [List.pairwise_cons] at hp
    cases hm : moreF w s cs n (ks ++ [i]) us with
    | some r =>
      rw [moreF_some hm]
      cases hsub with
      | cons_cons _ h1 =>
        rename_i K1
        obtain ⟨K', h2, h3⟩ := moreF_complete n us (ks ++ [i]) K1 hp.2 h1 (by simpa using hl) (by simpa using hs)
        rw [hm] at h2
        injection h2 with h2
        exact ⟨i :: K', by rw [h2]; simp, by simp [beforeB, h3]⟩
      | cons _ h1 =>
        obtain ⟨K1, h2, _, _, _⟩ := moreF_sound n us (ks ++ [i]) r hm
        refine ⟨i :: K1, by rw [h2]; simp, ?_⟩
        match K, hl with
        | k :: K, _ =>
          have hk := hp.1 k (h1.subset (by simp))
          simp only [List.map_cons, beforeB]
          rw [if_neg (by simp; omega)]
          simp; omega
    | none =>
      rw [moreF_none hm]
      cases hsub with
      | cons_cons _ h1 =>
        rename_i K1
        obtain ⟨K', h2, _⟩ := moreF_complete n us (ks ++ [i]) K1 hp.2 h1 (by simpa using hl) (by simpa using hs)
        rw [hm] at h2; cases h2
      | cons _ h1 => exact moreF_complete (n + 1) us ks K hp.2 h1 hl hs
theorem chF_least : ∀ (m : Nat) (r : List Nat), chF w s cs xs m = some r → ∃ n, 1 ≤ n ∧ n ≤ m ∧ moreF w s cs n [] (usFrom cs xs 0) = some r ∧ ∀ k, 1 ≤ k → k < n → moreF w s cs k [] (usFrom cs xs 0) = none
  | 0, r, h => by rw [chF] at h; cases h
  | m + 1, r, h => by
    cases hc : chF w s cs xs m with
    | some r' =>
      have := chF_stay hc 1
      rw [this] at h
      injection h with h
      subst h
      obtain ⟨n, h1, h2, h3, h4⟩ := chF_least m r' hc
      exact ⟨n, h1, by omega, h3, h4⟩
    | none =>
      rw [chF, hc] at h
      refine ⟨m + 1, by omega, by omega, h, fun k h1 h2 => ?_⟩
      exact chF_nones m hc k h1 (by omega)
where
  chF_nones : ∀ (m : Nat), chF w s cs xs m = none → ∀ k, 1 ≤ k → k ≤ m → moreF w s cs k [] (usFrom cs xs 0) = none
    | 0, _, k, h1, h2 => by omega
    | m + 1, h, k, h1, h2 => by
      cases hc : chF w s cs xs m with
      | some r' => rw [chF_stay hc 1] at h; cases h
      | none =>
        rw [chF, hc] at h
        by_cases hk : k = m + 1
        · rw [hk]; exact h
        · exact chF_nones m hc k h1 (by omega)
theorem sub_of_sorted : ∀ {U K : List Nat}, U.Pairwise (· < ·) → K.Pairwise (· < ·) → (∀ k ∈ K, k ∈ U) → K.Sublist U
  | U, [], _, _, _ => List.nil_sublist _
  | [], k :: K, _, _, h => by have := h k (by simp); simp at this
  | u :: U, k :: K, hU, hK, h => by
    rw [List.pairwise_cons] at hU hK
    have hku := h k (by simp)
    simp only [List.mem_cons] at hku
    by_cases e : k = u
    · subst e
      refine (sub_of_sorted hU.2 hK.2 fun x hx => ?_).cons_cons k
      have h1 := h x (by simp [hx])
      have h2 := hK.1 x hx
      simp only [List.mem_cons] at h1
      rcases h1 with h1 | h1
      · omega
      · exact h1
    · have hkU : k ∈ U := by rcases hku with h1 | h1; exact absurd h1 e; exact h1
      have hlt := hU.1 k hkU
      refine (sub_of_sorted (K := k :: K) hU.2 (List.pairwise_cons.2 hK) fun x hx => ?_).cons u
      have h1 := h x hx
      simp only [List.mem_cons] at h1 hx
      rcases h1 with h1 | h1
      · rcases hx with hx | hx
        · omega
        · have := hK.1 x hx; omega
      · exact h1
theorem usFrom_sorted : (usFrom cs xs 0).Pairwise (· < ·) := by
  unfold usFrom restN
  refine List.Pairwise.filter _ ?_
  rw [List.drop_zero]
  exact List.pairwise_lt_range
theorem usFrom_mem {k : Nat} : k ∈ usFrom cs xs 0 ↔ k < cs.length ∧ holdsT (cs.getD k default) xs = true := by
  unfold usFrom
  rw [restN_zero, List.mem_filter, List.mem_range]
theorem fit_pick {ks : List Nat} : fitB (pickN cs ks) xs = true ↔ ∀ k ∈ ks, holdsT (cs.getD k default) xs = true := by
  rw [fitB_all, List.all_eq_true]
  unfold pickN
  constructor
  · intro h k hk; exact h _ (List.mem_map_of_mem hk)
  · intro h c hc
    obtain ⟨k, hk, rfl⟩ := List.mem_map.1 hc
    exact h k hk
theorem choose_sound {r : List Nat} (h : chooseX w s cs xs = some r) : sing w s cs r ∧ (∀ k ∈ r, k < cs.length) ∧ fitB (pickN cs r) xs = true ∧ r.length ≤ cs.length := by
  obtain ⟨n, h1, h2, h3, _⟩ := chF_least _ r h
  obtain ⟨K, e, h5, h6, h7⟩ := moreF_sound n _ _ _ h3
  rw [List.nil_append] at e
  subst e
  have hm : ∀ k ∈ r, k < cs.length ∧ holdsT (cs.getD k default) xs = true := fun k hk => usFrom_mem.1 (h6.subset hk)
  have hl := usFrom_len (cs := cs) (xs := xs)
  exact ⟨h7, fun k hk => (hm k hk).1, fit_pick.2 fun k hk => (hm k hk).2, by omega⟩
/-- No other clues with which the code is the only reading are fewer, or as many and before them. -/
theorem choose_best (hL : lockB w s = true) {K : List Nat} (hs : K.Pairwise (· < ·)) (hk : ∀ k ∈ K, k < cs.length) (hf : fitB (pickN cs K) xs = true) (h1 : sing w s cs K) :
    ∃ r, chooseX w s cs xs = some r ∧ r.length ≤ K.length ∧ (r.length = K.length → beforeB (K.map Int.ofNat) (r.map Int.ofNat) = false) := by
  have hsub : K.Sublist (usFrom cs xs 0) := sub_of_sorted usFrom_sorted hs fun k hkk => usFrom_mem.2 ⟨hk k hkk, fit_pick.1 hf k hkk⟩
  obtain ⟨K', hm, hb⟩ := moreF_complete (w := w) (s := s) (cs := cs) K.length (usFrom cs xs 0) [] K usFrom_sorted hsub rfl (by simpa using h1)
  rw [List.nil_append] at hm
  have hpos : 1 ≤ K.length := by
    rcases Nat.eq_zero_or_pos K.length with h | h
    · rw [h, moreF_zero hL] at hm; cases hm
    · exact h
  have hle := moreF_le hm
  cases hc : chooseX w s cs xs with
  | none => rw [chF_least.chF_nones _ hc K.length hpos hle] at hm; cases hm
  | some r =>
    obtain ⟨n, n1, n2, n3, n4⟩ := chF_least _ r hc
    obtain ⟨K2, e, h5, _, _⟩ := moreF_sound n _ _ _ n3
    rw [List.nil_append] at e
    subst e
    refine ⟨r, rfl, ?_, fun he => ?_⟩
    · by_cases hlt : K.length < n
      · rw [n4 K.length hpos hlt] at hm; cases hm
      · omega
    · rw [← h5, he, hm] at n3
      injection n3 with n3
      rw [← n3]; exact hb
/-- The answer of 'alone'. -/
def inRange (cs : List Clue) (zs : List Int) : Bool := zs.all fun z => decide (0 ≤ z) && decide (z < cs.length)
def pickI (cs : List Clue) (zs : List Int) : List Clue := pickN cs (zs.map Int.toNat)
def aloneB (w s : Int) (cs : List Clue) (zs xs : List Int) : Bool :=
  inRange cs zs && (decide (cluesE w s (pickI cs zs) = 0) && decide (fitsE w s (pickI cs zs) xs = 0) && decide ((if cluesE w s (pickI cs zs) = 0 then ((readL w s (pickI cs zs)).length : Int) else 0) = 1) &&
    (if fitsE w s (pickI cs zs) xs = 0 then decide (failsT (pickI cs zs) xs < 0) else false))
theorem inRange_nat {zs : List Int} (h : inRange cs zs = true) : (zs.map Int.toNat).map Int.ofNat = zs ∧ ∀ k ∈ zs.map Int.toNat, k < cs.length := by
  unfold inRange at h
  rw [List.all_eq_true] at h
  constructor
  · rw [List.map_map]
    conv => rhs; rw [← List.map_id zs]
    apply List.map_congr_left
    intro z hz
    have := h z hz
    simp at this ⊢
    omega
  · intro k hk
    obtain ⟨z, hz, rfl⟩ := List.mem_map.1 hk
    have := h z hz
    simp at this
    omega
theorem alone_iff (hce : cluesE w s cs = 0) (hx : codeB w s xs = true) {zs : List Int} (hr : inRange cs zs = true) (hn : zs.length ≤ 20) : aloneB w s cs zs xs = true ↔ sing w s cs (zs.map Int.toNat) ∧ fitB (pickI cs zs) xs = true := by
  have hL := cluesE_lock hce
  have h1 := (inRange_nat hr).2
  have h2 := cluesE_pick hce h1 (by simpa using hn)
  have h3 : fitsE w s (pickI cs zs) xs = 0 := by unfold fitsE pickI; rw [if_pos h2, codeE_of hL hx]
  have h4 : cluesE w s (pickI cs zs) = 0 := h2
  unfold aloneB
  rw [hr, if_pos h4, if_pos h3, decide_eq_true h4, decide_eq_true h3]
  simp only [Bool.true_and, Bool.and_eq_true, decide_eq_true_eq, sing, fitB, pickI]
  constructor
  · rintro ⟨a, b⟩; exact ⟨by exact_mod_cast of_decide_eq_true a, b⟩
  · rintro ⟨a, b⟩; exact ⟨decide_eq_true (by exact_mod_cast a), b⟩
theorem inRange_all {zs : List Int} (h : ∀ i, 0 ≤ i → i < zs.length → 0 ≤ nth zs i ∧ nth zs i < cs.length) : inRange cs zs = true := by
  unfold inRange
  rw [List.all_eq_true]
  intro z hz
  obtain ⟨i, hi, rfl⟩ := List.mem_iff_getElem.1 hz
  have := h i (by omega) (by omega)
  have e : nth zs (i : Int) = zs[i] := by simp [nth, hi]
  rw [e] at this
  simp; omega
theorem inRange_snoc {zs : List Int} {i : Int} (h0 : 0 ≤ i) (h1 : i < zs.length) (h : inRange cs (zs.take i.toNat) = true) (h2 : 0 ≤ nth zs i ∧ nth zs i < cs.length) : inRange cs (zs.take (i + 1).toNat) = true := by
  rw [take_snocI zs h0 h1]
  unfold inRange at h ⊢
  rw [List.all_append, h]
  simp; omega
theorem inRange_no {zs : List Int} {i : Int} (h0 : 0 ≤ i) (h1 : i < zs.length) (h2 : ¬ (0 ≤ nth zs i ∧ nth zs i < cs.length)) : inRange cs zs = false := by
  cases h : inRange cs zs with
  | false => rfl
  | true =>
    exfalso
    unfold inRange at h
    rw [List.all_eq_true] at h
    have := h _ (nth_mem h0 h1)
    simp at this
    omega
theorem aloneB_no {zs : List Int} (h : inRange cs zs = false) : aloneB w s cs zs xs = false := by unfold aloneB; rw [h]; rfl
theorem aloneB_in {zs : List Int} (h : inRange cs zs = true) : aloneB w s cs zs xs = (decide (cluesE w s (pickI cs zs) = 0) && decide (fitsE w s (pickI cs zs) xs = 0) && decide ((if cluesE w s (pickI cs zs) = 0 then ((readL w s (pickI cs zs)).length : Int) else 0) = 1) &&
    (if fitsE w s (pickI cs zs) xs = 0 then decide (failsT (pickI cs zs) xs < 0) else false)) := by unfold aloneB; rw [h]; rfl
theorem aloneB_range {zs : List Int} (h : aloneB w s cs zs xs = true) : inRange cs zs = true := by
  cases hr : inRange cs zs with
  | true => rfl
  | false => rw [aloneB_no hr] at h; cases h
theorem pickI_len (cs : List Clue) (zs : List Int) : (pickI cs zs).length = zs.length := by simp [pickI, pickN_len]
theorem chE_use (h : chE w s cs xs = 0 ∨ chE w s cs xs = 3) : cluesE w s cs = 0 ∧ codeB w s xs = true := by
  unfold chE lockE cluesE codeE at h
  cases hL : lockB w s <;> simp only [hL] at h
  · simp at h
  · unfold cluesE
    rw [hL]
    by_cases h1 : 12 < cs.length
    · simp [h1] at h
    · by_cases h2 : cs.all (clueB w s)
      · by_cases h3 : codeB w s xs = true
        · exact ⟨by rw [if_pos rfl, if_neg (by omega), if_pos h2], h3⟩
        · have h20 : ¬ 20 < cs.length := by omega
          have h20' : ¬ (20 : Int) < cs.length := by omega
          simp [h1, h2, h3, h20'] at h
      · have h20 : ¬ (20 : Int) < cs.length := by omega
        simp only [h1, h20, h2, if_true, if_false, Bool.false_eq_true] at h
        simp at h
theorem chE_val (hce : cluesE w s cs = 0) (hx : codeB w s xs = true) (h12 : cs.length ≤ 12) : chE w s cs xs = if (chooseX w s cs xs).isNone then 3 else 0 := by
  have hL := cluesE_lock hce
  unfold chE
  rw [if_neg (by simp [lockE, hL]), if_neg (by omega), if_neg (by simp [hce]), if_neg (by simp [codeE_of hL hx])]
theorem ofNat_toNat (r : List Nat) : (r.map Int.ofNat).map Int.toNat = r := by
  rw [List.map_map]
  conv => rhs; rw [← List.map_id r]
  exact List.map_congr_left fun k _ => by simp
theorem few_alone (hce : cluesE w s cs = 0) (hx : codeB w s xs = true) (h12 : cs.length ≤ 12) {r : List Nat} (h : chooseX w s cs xs = some r) : aloneB w s cs (r.map Int.ofNat) xs = true := by
  obtain ⟨h1, h2, h3, h4⟩ := choose_sound h
  have hr : inRange cs (r.map Int.ofNat) = true := by
    unfold inRange
    rw [List.all_eq_true]
    intro z hz
    obtain ⟨k, hk, rfl⟩ := List.mem_map.1 hz
    have := h2 k hk
    simp; omega
  rw [alone_iff hce hx hr (by simp; omega), ofNat_toNat]
  exact ⟨h1, by unfold pickI; rw [ofNat_toNat]; exact h3⟩
theorem few_best (hce : cluesE w s cs = 0) (hx : codeB w s xs = true) {zs : List Int} (hn : zs.length ≤ 20) (hinc : ∀ i : Int, 0 < i → i < zs.length → nth zs (i - 1) < nth zs i) (h : aloneB w s cs zs xs = true) :
    ∃ r, chooseX w s cs xs = some r ∧ (r.map Int.ofNat).length ≤ zs.length ∧ ((r.map Int.ofNat).length = zs.length → beforeB zs (r.map Int.ofNat) = false) := by
  have hr := aloneB_range h
  obtain ⟨h1, h2⟩ := (alone_iff hce hx hr hn).1 h
  obtain ⟨e, hk⟩ := inRange_nat hr
  have hs : (zs.map Int.toNat).Pairwise (· < ·) := by
    have hz : zs.Pairwise (· < ·) := inc_pair hinc
    rw [List.pairwise_map]
    refine hz.imp_of_mem fun {a b} ha hb hab => ?_
    have h1 := hk a.toNat (List.mem_map_of_mem ha)
    unfold inRange at hr
    rw [List.all_eq_true] at hr
    have := hr a ha
    have := hr b hb
    simp at *
    omega
  obtain ⟨r, a, b, c⟩ := choose_best (cluesE_lock hce) hs hk h2 h1
  simp only [List.length_map] at b c
  refine ⟨r, a, by simpa using b, fun he => ?_⟩
  have := c (by simpa using he)
  rwa [e] at this
theorem pickI_snoc (cs : List Clue) (zs : List Int) {i : Int} (h0 : 0 ≤ i) (h1 : i < zs.length) : pickI cs (zs.take (i + 1).toNat) = pickI cs (zs.take i.toNat) ++ [nth cs (nth zs i)] := by
  unfold pickI
  rw [take_snocI zs h0 h1, List.map_append, pickN_app]
  rfl
end
def pickG (gs : List Value) (zs : List Int) : List Value := pickN gs (zs.map Int.toNat)
theorem pickG_len (gs : List Value) (zs : List Int) : (pickG gs zs).length = zs.length := by simp [pickG, pickN_len]
theorem pickG_snoc (gs : List Value) (zs : List Int) {i : Int} (h0 : 0 ≤ i) (h1 : i < zs.length) : pickG gs (zs.take (i + 1).toNat) = pickG gs (zs.take i.toNat) ++ [nth gs (nth zs i)] := by
  unfold pickG
  rw [take_snocI zs h0 h1, List.map_append, pickN_app]
  rfl
end Go.Proofs.Ytldagbcceefcdaa
