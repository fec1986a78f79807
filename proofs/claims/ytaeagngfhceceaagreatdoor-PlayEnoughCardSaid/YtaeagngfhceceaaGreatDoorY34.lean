/- Merged texts of this proof (walks and plain laws), printed by a program of the prover. -/
import Derived.Test.YtaeagngfhceceaaGreatDoorY3
import Derived.Test.YtaeagngfhceceaaGreatDoorY6
import Derived.Test.YtaeagngfhceceaaGreatDoorY11
import Derived.Test.YtaeagngfhceceaaGreatDoorY14
import Derived.Test.YtaeagngfhceceaaGreatDoorY16
import Derived.Test.YtaeagngfhceceaaGreatDoorY21
import Derived.Test.YtaeagngfhceceaaGreatDoorY23
import Derived.Test.YtaeagngfhceceaaGreatDoorY24
import Derived.Test.YtaeagngfhceceaaGreatDoorY25
import Derived.Test.YtaeagngfhceceaaGreatDoorZu
import Derived.Test.YtaeagngfhceceaaGreatDoorZb
import Derived.Test.YtaeagngfhceceaaGreatDoorZz
import Derived.Test.YtaeagngfhceceaaGreatDoorZv
import Derived.Test.YtaeagngfhceceaaGreatDoorZw
set_option maxHeartbeats 8000000
namespace Go.Proofs.YtaeagngfhceceaaGreatDoor
open Go.RowKit Go.Proofs
set_option maxRecDepth 100000
set_option linter.unusedVariables false
set_option linter.unusedSimpArgs false
theorem readN_congr {G : GP} {lk : Int} {ns ms : List Int} (h : ∀ k, k ∈ ns ↔ k ∈ ms) : readN G lk ns = readN G lk ms :=
 Int.le_antisymm (readN_mono fun k hk => (h k).2 hk) (readN_mono fun k hk => (h k).1 hk)
end Go.Proofs.YtaeagngfhceceaaGreatDoor
set_option maxHeartbeats 8000000
namespace Go.Proofs.YtaeagngfhceceaaGreatDoor
open Go.RowKit Go.Proofs
set_option maxRecDepth 100000
set_option linter.unusedVariables false
set_option linter.unusedSimpArgs false
theorem need_sub {G : GP} {lk : Int} (n : Nat) : ∀ k ∈ needX G lk (n + 1), k ∈ needX G lk n := fun k hk => by
 rw [needX] at hk
 split at hk
 ·
  exact (List.mem_filter.1 hk).1
 ·
  exact hk
theorem need_le {G : GP} {lk : Int} {n : Nat} : ∀ d, ∀ k ∈ needX G lk (n + d), k ∈ needX G lk n
 | 0, _, h => h
 | d + 1, k, h => need_le d k (need_sub (n + d) k h)
theorem need_in {G : GP} {lk : Int} (n : Nat) : ∀ k ∈ needX G lk n, k ∈ allN G lk := fun k hk => need_le (n := 0) n k (by rwa [Nat.zero_add])
theorem need_same {G : GP} {lk : Int} : ∀ n, readN G lk (needX G lk n) = readN G lk (allN G lk)
 | 0 => rfl
 | n + 1 => by
  rw [needX]
  split
  ·
   assumption
  ·
   exact need_same n
theorem need_more {G : GP} {lk a : Int} (h : a ∈ needX G lk (allN G lk).length) : readN G lk (allN G lk) < readN G lk ((needX G lk (allN G lk).length).filter fun k => !decide (k = a)) := by
 obtain ⟨j, hj, rfl⟩ := List.mem_iff_getElem.1 (need_in _ a h)
 have hne : ¬ readN G lk ((needX G lk j).filter fun k => !decide (k = (allN G lk)[j])) = readN G lk (allN G lk) := fun he => by
  have h1 : needX G lk (j + 1) = (needX G lk j).filter fun k => !decide (k = (allN G lk)[j]) := by
   rw [needX, show nth (allN G lk) (j : Int) = (allN G lk)[j] by simp [nth, List.getD, hj], if_pos he]
  have h2 : (allN G lk)[j] ∈ needX G lk (j + 1) := need_le (n := j + 1) ((allN G lk).length - (j + 1)) _ (by rwa [show j + 1 + ((allN G lk).length - (j + 1)) = (allN G lk).length by omega])
  rw [h1, List.mem_filter] at h2
  simp at h2
 have h1 : readN G lk (allN G lk) ≤ readN G lk ((needX G lk j).filter fun k => !decide (k = (allN G lk)[j])) := readN_mono fun k hk => need_in _ k (List.mem_filter.1 hk).1
 have h2 : readN G lk ((needX G lk j).filter fun k => !decide (k = (allN G lk)[j])) ≤ readN G lk ((needX G lk (allN G lk).length).filter fun k => !decide (k = (allN G lk)[j])) := readN_mono fun k hk => by
  rw [List.mem_filter] at hk ⊢
  exact ⟨need_le (n := j) ((allN G lk).length - j) k (by rw [show j + ((allN G lk).length - j) = (allN G lk).length by omega]; exact hk.1), hk.2⟩
 omega
def flagL (n : Nat) (l : List Int) : List Bool := (iotaI n).map fun i => decide (i ∈ l)
theorem flag_len {n : Nat} {l : List Int} : (flagL n l).length = n := by simp [flagL, iotaI]
theorem flag_nth {n : Nat} {l : List Int} {i : Int} (h0 : 0 ≤ i) (h1 : i < n) : nth (flagL n l) i = decide (i ∈ l) := by
 unfold flagL
 rw [nth_mapT _ h0 (by simp [iotaI]; omega), nth_iota h0 h1]
theorem flag_nil {n : Nat} : flagL n [] = List.replicate n false := by
 refine nth_extG (by simp [flag_len]) fun i h0 h1 => ?_
 rw [flag_len] at h1
 rw [flag_nth h0 h1]
 have : i.toNat < n := by omega
 simp [nth, List.getD, this]
theorem flag_set {n : Nat} {l : List Int} {a : Int} (h0 : 0 ≤ a) (h1 : a < n) : (flagL n l).set a.toNat true = flagL n (l ++ [a]) := by
 refine nth_extG (by simp [flag_len]) fun i a0 a1 => ?_
 rw [List.length_set, flag_len] at a1
 rw [flag_nth a0 a1]
 by_cases e : i = a
 ·
  subst e; rw [nth_set_eq h0 (by rw [flag_len]; exact h1)]; simp
 ·
  rw [nth_set_ne h0 a0 e, flag_nth a0 a1]; simp [e]
theorem flag_clear {n : Nat} {l : List Int} {a : Int} (h0 : 0 ≤ a) (h1 : a < n) : (flagL n l).set a.toNat false = flagL n (l.filter fun k => !decide (k = a)) := by
 refine nth_extG (by simp [flag_len]) fun i a0 a1 => ?_
 rw [List.length_set, flag_len] at a1
 rw [flag_nth a0 a1]
 by_cases e : i = a
 ·
  subst e; rw [nth_set_eq h0 (by rw [flag_len]; exact h1)]; simp
 ·
  rw [nth_set_ne h0 a0 e, flag_nth a0 a1]; simp [e]
theorem flag_back {n : Nat} {l : List Int} {a : Int} (h0 : 0 ≤ a) (h1 : a < n) (ha : a ∈ l) : (flagL n (l.filter fun k => !decide (k = a))).set a.toNat true = flagL n l := by
 refine nth_extG (by simp [flag_len]) fun i a0 a1 => ?_
 rw [List.length_set, flag_len] at a1
 rw [flag_nth a0 a1]
 by_cases e : i = a
 ·
  subst e; rw [nth_set_eq h0 (by rw [flag_len]; exact h1)]; simp [ha]
 ·
  rw [nth_set_ne h0 a0 e, flag_nth a0 a1]; simp [e]
theorem clu_flag {G : Game} {l : List Int} {lk : Int} (hl : NotesOf G lk l) : readN G.p lk (cluN G.p (flagL G.nts.l.length l) lk) = readN G.p lk l := by
 refine readN_congr fun k => ?_
 rw [cluN_p, mem_filI_iff, Bool.and_eq_true, decide_eq_true_eq]
 constructor
 ·
  rintro ⟨h1, h2, h3⟩
  rw [flag_nth h1.1 h1.2] at h2
  exact of_decide_eq_true h2
 ·
  intro h
  obtain ⟨h1, h2⟩ := hl k h
  exact ⟨h1, by rw [flag_nth h1.1 h1.2]; exact decide_eq_true h, h2⟩
theorem mem_iota {n : Nat} {k : Int} : k ∈ iotaI n ↔ 0 ≤ k ∧ k < n := by
 unfold iotaI
 rw [List.mem_map]
 constructor
 ·
  rintro ⟨i, hi, rfl⟩; rw [List.mem_range] at hi; exact ⟨by omega, by omega⟩
 ·
  intro h; exact ⟨k.toNat, by rw [List.mem_range]; omega, by omega⟩
theorem clu_full {G : Game} {lk : Int} : cluN G.p (flagL G.nts.l.length (iotaI G.nts.l.length)) lk = allN G.p lk := by
 rw [cluN_p, allN_p]
 unfold filI
 refine List.filter_congr fun k hk => ?_
 rw [Int.toNat_natCast, mem_iota] at hk
 rw [flag_nth hk.1 hk.2, decide_eq_true (mem_iota.2 hk), Bool.true_and]
end Go.Proofs.YtaeagngfhceceaaGreatDoor
set_option maxHeartbeats 8000000
namespace Go.Proofs.YtaeagngfhceceaaGreatDoor
open Go.RowKit Go.Proofs
set_option maxRecDepth 100000
set_option linter.unusedVariables false
set_option linter.unusedSimpArgs false
theorem any_snocI {l : List Int} {m s : Int} (h0 : 0 ≤ s) (h1 : s < l.length) : ((l.take s.toNat).any (fun y => decide (y = m)) || decide (nth l s = m)) = (l.take (s + 1).toNat).any fun y => decide (y = m) := by
 rw [take_snoc h0 h1, List.any_append]; simp
theorem any_filI {n lk : Int} {p : Int → Bool} (h : 0 ≤ lk ∧ lk < n) : (filI n p).any (fun y => decide (y = lk)) = p lk := by
 rw [Bool.eq_iff_iff, List.any_eq_true]
 constructor
 ·
  rintro ⟨y, hy, he⟩
  rw [← of_decide_eq_true he]
  exact (mem_filI_iff.1 hy).2
 ·
  intro hp
  exact ⟨lk, mem_filI_iff.2 ⟨h, hp⟩, decide_eq_true rfl⟩
theorem flag_iota {n : Nat} {a : Int} (h0 : 0 ≤ a) (h1 : a < n) : (flagL n (iotaI a.toNat)).set a.toNat true = flagL n (iotaI (a + 1).toNat) := by
 rw [flag_set h0 h1, iota_snoc h0]
theorem flag_take {n : Nat} {l : List Int} {d : Int} (h0 : 0 ≤ d) (h1 : d < l.length) (h2 : 0 ≤ nth l d ∧ nth l d < n) : (flagL n (l.take d.toNat)).set (nth l d).toNat true = flagL n (l.take (d + 1).toNat) := by
 rw [flag_set h2.1 h2.2, take_snoc h0 h1]
theorem rdAll {G : Game} (hc : checkG G.p = 0) {z : Stt} {v : Value} {fl : List Bool} (hI : StIn G.rm z.x) (hl : fl.length = G.nts.l.length) {lk : Int} (h0 : 0 ≤ lk) (h1 : lk < G.lks.l.length) : ReadingsV G.p (Pos.x ⟨z, ⟨v, fl⟩⟩) lk = (0, readN G.p lk (cluN G.p fl lk)) :=
 rdV (p := ⟨z, ⟨v, fl⟩⟩) (pos_ok (p := ⟨z, ⟨v, fl⟩⟩) hc hI hl) h0 h1
end Go.Proofs.YtaeagngfhceceaaGreatDoor
