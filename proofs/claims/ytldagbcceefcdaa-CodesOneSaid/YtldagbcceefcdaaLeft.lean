/- Plain laws on what is left behind an answer; on cores, idle clues and pairs. No program in sight. -/
import Derived.Test.YtldagbcceefcdaaExact
namespace Go.Proofs.Ytldagbcceefcdaa
set_option linter.unusedVariables false
set_option linter.unusedSimpArgs false
open Go.RowKit

section
variable {w s : Int} {cs : List Clue}
theorem nx_of (h : cluesE w s cs = 0) (h2 : nxE w s cs = 0) : 0 < (readL w s cs).length ∧ (readL w s cs).length ≤ 200 := by
  unfold nxE at h2
  rw [if_pos h] at h2
  repeat' split at h2
  all_goals omega
theorem nx_not (h : cluesE w s cs = 0) (h2 : ¬ nxE w s cs = 0) (hn : (readL w s cs).length ≤ 60) : (readL w s cs).length = 0 ∧ nxE w s cs = 3 := by
  unfold nxE at h2 ⊢
  rw [if_pos h] at h2 ⊢
  by_cases h0 : (readL w s cs).length = 0
  · rw [if_pos h0]; exact ⟨h0, rfl⟩
  · rw [if_neg h0, if_neg (by omega)] at h2; exact absurd rfl h2
theorem nxG_mem (h : 0 < (readL w s cs).length) : nxG w s cs ∈ readL w s cs := by
  have := bestJ_lt (readL w s cs) (readL w s cs).length h
  exact nth_mem (by omega) (by omega)
theorem cA_pos {L : List (List Int)} {x y : List Int} (h : y ∈ L) : 1 ≤ cA L x y := by
  have : 0 < (L.filter fun z => decide (rightN z x = rightN y x) && decide (comN z x = comN y x)).length := List.length_pos_of_mem (List.mem_filter.2 ⟨h, by simp⟩)
  unfold cA cntRC
  omega
theorem cA_le {L : List (List Int)} {x y : List Int} (h : y ∈ L) : cA L x y ≤ wN L x := maxL_ge (List.mem_map_of_mem h)
theorem wN_pos {L : List (List Int)} {x : List Int} (h : 0 < L.length) : 1 ≤ wN L x := by
  have h1 := cA_pos (x := x) (List.getElem_mem h)
  have h2 := cA_le (x := x) (List.getElem_mem h)
  omega
theorem readL_nodup (hL : lockB w s = true) : (readL w s cs).Nodup := by
  refine List.Pairwise.imp ?_ (readL_sorted hL cs)
  intro a b h e
  subst e
  rw [before_self] at h; cases h
theorem filter_one {α : Type} [DecidableEq α] {p : α → Bool} {x : α} : ∀ {L : List α}, L.Nodup → (∀ y ∈ L, p y = true → y = x) → (L.filter p).length ≤ 1
  | [], _, _ => by simp
  | a :: L, hn, h => by
    rw [List.nodup_cons] at hn
    have ih := filter_one (p := p) (x := x) hn.2 (fun y hy => h y (by simp [hy]))
    rw [List.filter_cons]
    split
    · rename_i hp
      have hax := h a (by simp) hp
      have : L.filter p = [] := by
        rw [List.filter_eq_nil_iff]
        intro y hy hp2
        have := h y (by simp [hy]) hp2
        rw [hax, ← this] at hn
        exact hn.1 hy
      rw [this]; simp
    · exact ih
theorem filter_miss {α : Type} {p : α → Bool} {x : α} : ∀ {L : List α}, x ∈ L → p x = false → (L.filter p).length < L.length
  | a :: L, h, hp => by
    have hle := List.length_filter_le p L
    rw [List.filter_cons]
    by_cases ha : p a = true
    · rw [if_pos ha]
      have : x ∈ L := by
        simp only [List.mem_cons] at h
        rcases h with rfl | h
        · rw [hp] at ha; cases ha
        · exact h
      have h3 := filter_miss (p := p) this hp
      simp only [List.length_cons]; omega
    · rw [if_neg ha]; simp only [List.length_cons]; omega
theorem wN_lt (hL : lockB w s = true) {x : List Int} (hx : x ∈ readL w s cs) (h : 1 < (readL w s cs).length) : wN (readL w s cs) x < (readL w s cs).length := by
  have hxb := (readL_mem hL hx).1
  have hm : wN (readL w s cs) x ≤ (readL w s cs).length - 1 := by
    refine maxL_le (by omega) fun a ha => ?_
    obtain ⟨y, hy, rfl⟩ := List.mem_map.1 ha
    have hyb := (readL_mem hL hy).1
    have hl1 := (code_of hxb).1
    have hl2 := (code_of hyb).1
    by_cases he : rightN y x = rightN x x
    · -- only x itself
      have hyx : y = x := right_full (by omega) (by rw [he, right_self]; omega)
      subst hyx
      have : ((readL w s cs).filter fun z => decide (rightN z y = rightN y y) && decide (comN z y = comN y y)).length ≤ 1 := by
        refine filter_one (x := y) (readL_nodup hL) fun z hz hp => ?_
        simp only [Bool.and_eq_true, decide_eq_true_eq] at hp
        have hl3 := (code_of (readL_mem hL hz).1).1
        exact right_full (by omega) (by rw [hp.1, right_self]; omega)
      unfold cA cntRC
      omega
    · have : ((readL w s cs).filter fun z => decide (rightN z x = rightN y x) && decide (comN z x = comN y x)).length < (readL w s cs).length := by
        refine filter_miss hx ?_
        rw [decide_eq_false (fun e => he e.symm)]; rfl
      unfold cA cntRC
      omega
  omega
/-- The clue that an answer makes. -/
def ansC (x y : List Int) : Clue := ⟨6, 0, 0, rightN y x, comN y x, x, false⟩
theorem ansC_holds (x y z : List Int) : holdsT (ansC x y) z = (decide (rightN z x = rightN y x) && decide (comN z x = comN y x)) := by
  have hp : plainT (ansC x y) z = (decide (rightN z x = rightN y x) && decide (comN z x = comN y x)) := by
    simp only [plainT, ansC]
    rfl
  unfold holdsT
  rw [hp]
  show (_ != false) = _
  exact Bool.bne_false _
theorem ansC_count (x y : List Int) : ((readL w s (cs ++ [ansC x y])).length : Int) = cA (readL w s cs) x y := by
  rw [readL_snoc]
  unfold cA cntRC
  congr 2
  congr 1
  funext z
  exact ansC_holds x y z
theorem ansC_clue (hL : lockB w s = true) {x y : List Int} (hx : codeB w s x = true) (hy : codeB w s y = true) : clueB w s (ansC x y) = true := by
  have hb := ans_bd hL hx hy
  have h1 := right_common (ys := x) (code_ten hL hy).2
  have h2 := common_len (ys := x) (code_ten hL hy).2
  have h3 := (code_of hy).1
  have h4 := rightN_le y x
  simp only [clueB, ansC]
  have hc : comN y x = commonN y x 10 - rightN y x := rfl
  simp [within, hx]
  omega
/-! ### cores -/
theorem filter_mono {α : Type} {p q : α → Bool} : ∀ {L : List α}, (∀ x ∈ L, p x = true → q x = true) → (L.filter p).length ≤ (L.filter q).length
  | [], _ => by simp
  | x :: L, h => by
    have ih := filter_mono (p := p) (q := q) (L := L) (fun y hy => h y (by simp [hy]))
    have hx := h x (by simp)
    rw [List.filter_cons, List.filter_cons]
    by_cases hp : p x = true
    · rw [if_pos hp, if_pos (hx hp)]; simp only [List.length_cons]; omega
    · rw [if_neg hp]
      split
      · simp only [List.length_cons]; omega
      · exact ih
theorem readL_mono {A B : List Clue} (h : ∀ c ∈ A, c ∈ B) : (readL w s B).length ≤ (readL w s A).length := by
  rw [readL_eq, readL_eq]
  refine filter_mono fun x _ hx => ?_
  rw [fitB_all, List.all_eq_true] at hx ⊢
  exact fun c hc => hx c (h c hc)
theorem pick_sub {α : Type} [Inhabited α] {cs : List α} {A B : List Nat} (h : ∀ k ∈ A, k ∈ B) : ∀ c ∈ pickN cs A, c ∈ pickN cs B := by
  intro c hc
  unfold pickN at hc ⊢
  obtain ⟨k, hk, rfl⟩ := List.mem_map.1 hc
  exact List.mem_map_of_mem (h k hk)
theorem core_many : ∀ (i : Nat), i ≤ cs.length → (readL w s (pickN cs (leftN w s cs i))).length = (readL w s cs).length
  | 0, _ => by rw [leftN_zero]
  | i + 1, h => by
    have ih := core_many i (by omega)
    by_cases hr : (readL w s (pickN cs (coreTo w s cs i ++ restN cs.length (i + 1)))).length = (readL w s cs).length
    · rw [leftN_yes (by omega) hr]; exact hr
    · rw [leftN_no (by omega) hr]; exact ih
theorem core_all : (readL w s (pickN cs (coreTo w s cs cs.length))).length = (readL w s cs).length := by
  rw [← leftN_end]; exact core_many _ (Nat.le_refl _)
theorem core_split {j : Nat} : ∀ (i : Nat), j ≤ i → ∃ T, coreTo w s cs i = coreTo w s cs j ++ T ∧ ∀ x ∈ T, j ≤ x
  | 0, h => ⟨[], by rw [show j = 0 by omega]; simp, by simp⟩
  | i + 1, h => by
    by_cases hj : j = i + 1
    · exact ⟨[], by rw [hj]; simp, by simp⟩
    · obtain ⟨T, h1, h2⟩ := core_split (j := j) i (by omega)
      by_cases hr : (readL w s (pickN cs (coreTo w s cs i ++ restN cs.length (i + 1)))).length = (readL w s cs).length
      · exact ⟨T, by rw [coreTo_yes hr, h1], h2⟩
      · refine ⟨T ++ [i], by rw [coreTo_no hr, h1, List.append_assoc], fun x hx => ?_⟩
        simp only [List.mem_append, List.mem_singleton] at hx
        rcases hx with hx | rfl
        · exact h2 x hx
        · omega
theorem core_sorted : ∀ i : Nat, (coreTo w s cs i).Pairwise (· < ·)
  | 0 => by simp [coreTo]
  | i + 1 => by
    have ih := core_sorted i
    unfold coreTo
    split
    · exact ih
    · rw [List.pairwise_append]
      refine ⟨ih, by simp, fun a ha b hb => ?_⟩
      simp at hb
      rw [hb]
      exact coreTo_lt w s cs _ a ha
theorem core_kept {j : Nat} : ∀ i : Nat, j ∈ coreTo w s cs i → ¬ (readL w s (pickN cs (coreTo w s cs j ++ restN cs.length (j + 1)))).length = (readL w s cs).length
  | 0, h => by simp [coreTo] at h
  | i + 1, h => by
    by_cases hr : (readL w s (pickN cs (coreTo w s cs i ++ restN cs.length (i + 1)))).length = (readL w s cs).length
    · rw [coreTo_yes hr] at h; exact core_kept i h
    · rw [coreTo_no hr] at h
      simp only [List.mem_append, List.mem_singleton] at h
      rcases h with h | h
      · exact core_kept i h
      · rw [h]; exact hr
theorem restN_in {n i k : Nat} (h1 : i ≤ k) (h2 : k < n) : k ∈ restN n i := by
  unfold restN
  rw [List.mem_iff_getElem]
  exact ⟨k - i, by simp; omega, by simp; omega⟩
theorem core_drop {k : Nat} (hk : k < (coreTo w s cs cs.length).length) : (readL w s cs).length < (readL w s (pickN cs ((coreTo w s cs cs.length).eraseIdx k))).length := by
  have hj := List.getElem_mem hk
  have hjn := coreTo_lt w s cs _ _ hj
  have h1 := core_kept _ hj
  obtain ⟨T, hT, _⟩ := core_split (w := w) (s := s) (cs := cs) (j := (coreTo w s cs cs.length)[k]) cs.length (by omega)
  have hin : ∀ c ∈ pickN cs (coreTo w s cs (coreTo w s cs cs.length)[k] ++ restN cs.length ((coreTo w s cs cs.length)[k] + 1)), c ∈ cs := fun c hc => by
    refine pickN_mem (fun x hx => ?_) hc
    simp only [List.mem_append] at hx
    rcases hx with hx | hx
    · have := coreTo_lt w s cs _ _ hx; omega
    · exact (restN_mem hx).2
  have h2 := readL_mono (w := w) (s := s) hin
  have h3 : (readL w s (pickN cs (coreTo w s cs (coreTo w s cs cs.length)[k] ++ restN cs.length ((coreTo w s cs cs.length)[k] + 1)))).length ≤ (readL w s (pickN cs ((coreTo w s cs cs.length).eraseIdx k))).length := by
    refine readL_mono (pick_sub fun x hx => ?_)
    rw [List.mem_eraseIdx_iff_getElem] at hx
    obtain ⟨i, hi, hik, rfl⟩ := hx
    have hs := core_sorted (w := w) (s := s) (cs := cs) cs.length
    rw [List.pairwise_iff_getElem] at hs
    simp only [List.mem_append]
    rcases Nat.lt_or_gt_of_ne hik with h | h
    · have hlt := hs i k hi hk h
      left
      have hm : (coreTo w s cs cs.length)[i] ∈ coreTo w s cs cs.length := List.getElem_mem hi
      obtain ⟨T2, hT2, hT3⟩ := core_split (w := w) (s := s) (cs := cs) (j := (coreTo w s cs cs.length)[k]) cs.length (by omega)
      generalize (coreTo w s cs cs.length)[i] = x at hlt hm
      generalize (coreTo w s cs cs.length)[k] = y at *
      rw [hT2] at hm
      simp only [List.mem_append] at hm
      rcases hm with hm | hm
      · exact hm
      · have := hT3 x hm; omega
    · have hlt := hs k i hk hi h
      have hlt2 := coreTo_lt w s cs _ _ (List.getElem_mem hi)
      right
      exact restN_in (by omega) hlt2
  omega
theorem cluesE_pick (h : cluesE w s cs = 0) {ks : List Nat} (hk : ∀ k ∈ ks, k < cs.length) (hn : ks.length ≤ 20) : cluesE w s (pickN cs ks) = 0 := by
  have hL := cluesE_lock h
  have hC := cluesE_clue h
  have h1 : (pickN cs ks).all (clueB w s) = true := List.all_eq_true.2 fun c hc => hC c (pickN_mem hk hc)
  have h2 : ¬ 20 < (((pickN cs ks).length : Nat) : Int) := by rw [pickN_len]; omega
  simp only [cluesE, hL, h1, h2, if_true, if_false]
/-- Of the core the first m, without the one that is skipped. -/
def fewN (K : List Nat) (skip : Int) (m : Nat) : List Nat := pickN K ((List.range m).filter fun k : Nat => decide ((k : Int) ≠ skip))
section
variable {K : List Nat} {skip : Int}
theorem fewN_zero : fewN K skip 0 = [] := rfl
theorem fewN_yes {i : Int} (h0 : 0 ≤ i) (h : ¬ i = skip) : fewN K skip (i + 1).toNat = fewN K skip i.toNat ++ [K.getD i.toNat 0] := by
  have e : (i + 1).toNat = i.toNat + 1 := by omega
  have e2 : ((i.toNat : Nat) : Int) = i := by omega
  rw [e]
  simp [fewN, pickN, List.range_succ, List.filter_append, List.filter_cons, e2, h]
theorem few_snoc {α : Type} [Inhabited α] {cs : List α} {i : Int} (h0 : 0 ≤ i) (h1 : i < K.length) (h : ¬ i = skip) : pickN cs (fewN K skip (i + 1).toNat) = pickN cs (fewN K skip i.toNat) ++ [nth cs (nth (K.map Int.ofNat) i)] := by
  rw [fewN_yes h0 h, pickN_app, ofNat_at K h0 h1]
  simp [pickN, nth]
theorem fewN_no {i : Int} (h0 : 0 ≤ i) (h : i = skip) : fewN K skip (i + 1).toNat = fewN K skip i.toNat := by
  subst h
  have e : (i + 1).toNat = i.toNat + 1 := by omega
  have e2 : ((i.toNat : Nat) : Int) = i := by omega
  rw [e]
  simp [fewN, pickN, List.range_succ, List.filter_append, List.filter_cons, e2]
theorem fewN_len (m : Nat) : (fewN K skip m).length ≤ m := by
  unfold fewN
  rw [pickN_len]
  have := List.length_filter_le (fun k : Nat => decide ((k : Int) ≠ skip)) (List.range m)
  simpa using this
theorem fewN_all (h : skip < 0) : fewN K skip K.length = K := by
  unfold fewN
  rw [List.filter_eq_self.2 (fun a _ => by simp; omega)]
  exact pickN_all
theorem fewN_era {k : Nat} (hk : k < K.length) (h : skip = k) : fewN K skip K.length = K.eraseIdx k := by
  subst h
  unfold fewN
  have : (List.range K.length).filter (fun j : Nat => decide ((j : Int) ≠ (k : Int))) = (List.range K.length).eraseIdx k := by
    rw [era_numbers _ _ hk]
    congr 1
    funext j
    simp [Int.ofNat_inj]
  rw [this, pickN_era, pickN_all]
theorem fewN_mem {m x : Nat} (hm : m ≤ K.length) (h : x ∈ fewN K skip m) : x ∈ K := by
  unfold fewN at h
  refine pickN_mem (fun k hk => ?_) h
  have := (List.mem_filter.1 hk).1
  simp at this; omega
end
/-- The number of readings of a part of the core. -/
theorem few_count {skip : Int} (h0 : -1 ≤ skip) (h1 : skip < (coreTo w s cs cs.length).length) :
    ((((readL w s (pickN cs (fewN (coreTo w s cs cs.length) skip (coreTo w s cs cs.length).length))).length : Int) = (readL w s cs).length) ↔ skip < 0) ∧ (readL w s cs).length ≤ (readL w s (pickN cs (fewN (coreTo w s cs cs.length) skip (coreTo w s cs cs.length).length))).length := by
  by_cases hs : skip < 0
  · rw [fewN_all hs, core_all]; simp [hs]
  · have hk : skip.toNat < (coreTo w s cs cs.length).length := by omega
    have := core_drop (w := w) (s := s) (cs := cs) hk
    rw [fewN_era hk (by omega)]
    omega

section
variable {P : Program} {ro : Option Nat} {n0 : Nat} {w0 : World} {ds : List Deferred} {ops : Array Oper} {Q : Exit → Act → World → Prop} {L : List SA}
  {rest : List Oper} {l : List Value} {ty : TypeId} {ps : String} {af : Array Edge}
theorem WS.appendCls {T e : TypeId} {by_ i j : Nat} {x y : Operand} {v z : Value} {A B R : List Clue} {GA GB RG zc : List Value} (hT : sl P T = some (e, 7, by_)) (hz : zv P e = some zc) (hzl : zc.length = 7)
    (hx : evo l x = some v) (hj : L[j]? = some (osl e 7 v A.length (clFlat A GA))) (hg : GA.length = A.length) (hy : evo l y = some z) (hn : ∀ u, St n0 w0 L u → ClS u z B GB) (h1 : ∀ g ∈ GB, g.oneCell' = true)
    (hR : A ++ B = R) (hRG : GA ++ GB = RG) (hm : A.length + B.length ≤ 9223372036854775807) (hb : (A.length + B.length) * by_ ≤ 140737488355328)
    {l' : Value → List Value} (hl : ∀ v, lset l i v = some (l' v)) {L' : Value → List SA} (hL : ∀ v', lset L j (osl e 7 v' R.length (clFlat R RG)) = some (L' v')) (k : ∀ v', v'.oneCell' = true → WS P ro n0 w0 ds ops Q (L' v') rest (l' v')) :
    WS P ro n0 w0 ds ops Q L (⟨some i, .call ⟨.builtin .append, #[x, y], #[T, T]⟩, ty, ps, af, none⟩ :: rest) l := by
  subst hR; subst hRG
  refine WS.append hT hz hzl (by decide) hx hj hy (m := B.length) (fun u hu => (hn u hu).sp) (clFlat_one h1) hm hb hl (L' := L') (fun v' => ?_) fun v' => ?_
  · rw [← hL v', clFlat_app hg]; simp
  · have hjl := (List.getElem?_eq_some_iff.1 hj).1
    have h2 := (lset_of (hL v')).symm
    refine WS.oc (j := j) (v := v') (e := e) (k := 7) (n := (A ++ B).length) (xs := clFlat (A ++ B) (GA ++ GB)) (by rw [h2, List.getElem?_set_self hjl]) (k v')
end
theorem era_parts {α : Type} (cs : List α) {i : Nat} (h : i < cs.length) : (cs.drop 0).take (i - 0) ++ (cs.drop (i + 1)).take (cs.length - (i + 1)) = cs.eraseIdx i := by
  rw [List.drop_zero, Nat.sub_zero, List.take_of_length_le (l := cs.drop (i + 1)) (by simp), List.eraseIdx_eq_take_drop_succ]

/-! ### idle clues -/
theorem era_split {α : Type} [Inhabited α] {cs : List α} {i : Nat} (h : i < cs.length) : cs = cs.take i ++ cs.getD i default :: cs.drop (i + 1) := by
  have e : cs.getD i default = cs[i] := by simp [List.getD, h]
  rw [e]
  conv => lhs; rw [← List.take_append_drop i cs, List.drop_eq_getElem_cons h]
theorem read_era {i : Nat} (h : i < cs.length) : readL w s cs = (readL w s (cs.eraseIdx i)).filter (holdsT (cs.getD i default)) := by
  rw [readL_eq, readL_eq, List.filter_filter]
  congr 1
  funext x
  rw [fitB_all, fitB_all, List.eraseIdx_eq_take_drop_succ]
  conv => lhs; rw [era_split h]
  simp only [List.all_append, List.all_cons]
  cases holdsT (cs.getD i default) x <;> simp
theorem idle_iff {i : Nat} (h : i < cs.length) : (impL w s (cs.eraseIdx i) (cs.getD i default)).isNone = decide ((readL w s (cs.eraseIdx i)).length = (readL w s cs).length) := by
  rw [read_era h]
  by_cases hall : ∀ y ∈ readL w s (cs.eraseIdx i), holdsT (cs.getD i default) y = true
  · rw [imp_none hall, List.filter_eq_self.2 hall]; simp
  · have h1 : ¬ ((readL w s (cs.eraseIdx i)).filter (holdsT (cs.getD i default))).length = (readL w s (cs.eraseIdx i)).length := fun e => hall (List.length_filter_eq_length_iff.1 e)
    have h2 : ¬ impL w s (cs.eraseIdx i) (cs.getD i default) = none := fun e => by
      rw [impL, List.find?_eq_none] at e
      exact hall fun y hy => by simpa using e y hy
    rw [decide_eq_false (fun e => h1 e.symm)]
    cases hI : impL w s (cs.eraseIdx i) (cs.getD i default) with
    | none => exact absurd hI h2
    | some _ => rfl
theorem idle_split {n i : Nat} (h : i ≤ n) : idleTo w s cs n = idleTo w s cs i ++ ((restN n i).filter fun i => decide ((readL w s (cs.eraseIdx i)).length = (readL w s cs).length)).map Int.ofNat := by
  unfold idleTo restN
  rw [← List.map_append, ← List.filter_append]
  congr 2
  have := List.take_append_drop i (List.range n)
  rw [List.take_range, Nat.min_eq_left h] at this
  exact this.symm
theorem idle_at {i : Nat} (h : i < cs.length) : (decide (((idleTo w s cs i).length : Int) < (idleTo w s cs cs.length).length) && decide (nth (idleTo w s cs cs.length) (idleTo w s cs i).length = i)) = decide ((readL w s (cs.eraseIdx i)).length = (readL w s cs).length) := by
  have h1 := idle_split (w := w) (s := s) (cs := cs) (n := cs.length) (i := i) (by omega)
  rw [restN_cons h, List.filter_cons] at h1
  by_cases hp : (readL w s (cs.eraseIdx i)).length = (readL w s cs).length
  · rw [if_pos (by simpa using hp)] at h1
    rw [h1, decide_eq_true hp]
    rw [List.map_cons, nth_mid (by simp)]
    simp
    omega
  · rw [if_neg (by simpa using hp)] at h1
    rw [decide_eq_false hp, h1]
    generalize hT : ((restN cs.length (i + 1)).filter fun i => decide ((readL w s (cs.eraseIdx i)).length = (readL w s cs).length)) = T
    cases T with
    | nil => simp
    | cons a T =>
      have ha : a ∈ restN cs.length (i + 1) := (List.mem_filter.1 (hT ▸ List.mem_cons_self)).1
      have := restN_mem ha
      rw [List.map_cons, nth_mid (by simp)]
      have : ¬ Int.ofNat a = (i : Int) := by simp; omega
      rw [decide_eq_false this, Bool.and_false]
end
end Go.Proofs.Ytldagbcceefcdaa
