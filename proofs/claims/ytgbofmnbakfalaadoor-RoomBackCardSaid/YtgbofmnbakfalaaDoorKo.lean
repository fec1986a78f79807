/- Merged texts of this proof (walks and plain laws), printed by a program of the prover. -/
import Derived.Test.YtgbofmnbakfalaaDoorKb
namespace Go.Proofs.YtgbofmnbakfalaaDoor
set_option linter.unusedVariables false
set_option linter.unusedSimpArgs false
open Go.RowKit
theorem step_ok {r : Room} {x : P3} {m : Move} (hS : stL r x = 0) (h : (StepV r x m).1 = 0) : legalB r x m = true ∧ settleV r (moveX r x m) = some (StepV r x m).2 := by
  unfold StepV at *
  rw [if_pos hS] at *
  split at h
  · rename_i hl
    refine ⟨hl, ?_⟩
    rw [if_pos hl]
    cases hs : settleV r (moveX r x m) with
    | none => rw [hs] at h; cases h
    | some y => rfl
  · cases h
theorem settleN_done {aus : List Auto} : ∀ {n : Nat} {ths o : List Int}, settleN aus n ths = some o → autoI aus o < 0
  | 0, _, _, h => by cases h
  | n + 1, ths, o, h => by
    rw [settleN] at h
    split at h
    · rename_i hn; cases h; exact hn
    · exact settleN_done h
theorem settleV_done {r : Room} {x y : P3} (h : settleV r x = some y) : autoI r.aus.l y.1 < 0 ∧ y.2 = x.2 := by
  unfold settleV at h
  obtain ⟨o, ho, rfl⟩ := Option.map_eq_some_iff.1 h
  exact ⟨settleN_done ho, rfl⟩
theorem settleV_still {r : Room} {y : P3} (h : autoI r.aus.l y.1 < 0) : settleV r y = some y := by
  unfold settleV
  rw [show settleN r.aus.l 101 y.1 = some y.1 from if_pos h]; rfl
theorem set_same {l : List Int} {n a b : Int} (h0 : 0 ≤ n) (h1 : n < l.length) (hb : b = nth l n) : (l.set n.toNat a).set n.toNat b = l := by
  rw [List.set_set, hb]
  have h2 : n.toNat < l.length := by omega
  have : nth l n = l[n.toNat] := by simp [nth, List.getD, h2]
  rw [this, List.set_getElem_self]
def backM (m : Move) : Move := if m.k = 2 then ⟨m.p, 3, m.n⟩ else m
theorem step_still {r : Room} {x : P3} {m : Move} (hS : stL r x = 0) (hL : legalB r x m = true) (ha : autoI r.aus.l x.1 < 0) (h1 : (moveX r x m).1 = x.1) : StepV r x m = (0, moveX r x m) := by
  unfold StepV
  rw [if_pos hS, if_pos hL, settleV_still (by rw [h1]; exact ha)]; rfl
theorem there_back {r : Room} (hC : checkE r = 0) {y : P3} (hI : StIn r y) (ha : autoI r.aus.l y.1 < 0) {m : Move} (hL : legalB r y m = true) (hk : m.k = 1 ∨ m.k = 2) : RunV r y [m, backM m] = (0, 0, y) := by
  have hR := ready_of hC
  have hM := move_in hR hI hL
  have hS := stL_in.2 ⟨hC, hI⟩
  have hI1 := move_stay hR hI hL
  have hS1 := stL_in.2 ⟨hC, hI1⟩
  have h1 : (moveX r y m).1 = y.1 := by
    unfold moveX
    rcases hk with hk | hk
    · rw [if_pos hk]
    · rw [if_neg (by omega), if_pos hk]
  have e1 := step_still hS hL ha h1
  have hb : legalB r (moveX r y m) (backM m) = true ∧ moveX r (moveX r y m) (backM m) = y := by
    have hp := hM.p
    have hll := hI.ll
    have hply : (decide (0 ≤ m.p) && decide (m.p ≤ r.ply - 1)) = true := by simp only [Bool.and_eq_true, decide_eq_true_eq]; omega
    rcases hk with hk | hk
    · have hn := hM.go hk
      have hg : goB r y m = true := by
        unfold legalB at hL; rw [if_pos hply, if_pos hk] at hL; exact hL
      simp only [goB, Bool.and_eq_true, Bool.or_eq_true, decide_eq_true_eq] at hg
      have hbm : backM m = m := if_neg (by omega)
      rw [hbm]
      have hmv : moveX r y m = (y.1, y.2.1, y.2.2.set m.p.toNat ((nth r.wys.l m.n).a + (nth r.wys.l m.n).b - nth y.2.2 m.p)) := if_pos hk
      have hnew : nth (moveX r y m).2.2 m.p = (nth r.wys.l m.n).a + (nth r.wys.l m.n).b - nth y.2.2 m.p := by rw [hmv]; exact nth_set_eq hp.1 hp.2.1
      refine ⟨?_, ?_⟩
      · unfold legalB
        rw [if_pos hply, if_pos hk]
        unfold goB
        rw [hnew, h1]
        simp only [Bool.and_eq_true, Bool.or_eq_true, decide_eq_true_eq]
        exact ⟨⟨hg.1.1, by omega⟩, hg.2⟩
      · have : moveX r (moveX r y m) m = ((moveX r y m).1, (moveX r y m).2.1, (moveX r y m).2.2.set m.p.toNat ((nth r.wys.l m.n).a + (nth r.wys.l m.n).b - nth (moveX r y m).2.2 m.p)) := if_pos hk
        rw [this, hnew, hmv]
        simp only
        rw [set_same hp.1 hp.2.1 (by omega)]
    · have hn := hM.pr (.inl hk)
      have hlp := hI.lp
      have hg : takeB r y m = true := by
        unfold legalB at hL; rw [if_pos hply, if_neg (by omega), if_pos hk] at hL; exact hL
      simp only [takeB, Bool.and_eq_true, decide_eq_true_eq] at hg
      have hbm : backM m = ⟨m.p, 3, m.n⟩ := if_pos hk
      rw [hbm]
      have hmv : moveX r y m = (y.1, y.2.1.set m.n.toNat (-2 - m.p), y.2.2) := (if_neg (by omega)).trans (if_pos hk)
      have hnew : nth (moveX r y m).2.1 m.n = -2 - m.p := by rw [hmv]; exact nth_set_eq hn.1 hn.2
      refine ⟨?_, ?_⟩
      · unfold legalB
        rw [if_pos hply, if_neg (show ¬ (3 : Int) = 1 by decide), if_neg (show ¬ (3 : Int) = 2 by decide), if_pos rfl]
        unfold dropB
        simp only [hnew, Bool.and_eq_true, decide_eq_true_eq]
        exact ⟨by omega, trivial⟩
      · have : moveX r (moveX r y m) ⟨m.p, 3, m.n⟩ = ((moveX r y m).1, (moveX r y m).2.1.set m.n.toNat (nth (moveX r y m).2.2 m.p), (moveX r y m).2.2) := (if_neg (show ¬ (3 : Int) = 1 by decide)).trans ((if_neg (show ¬ (3 : Int) = 2 by decide)).trans (if_pos rfl))
        rw [this, hmv]
        simp only
        rw [set_same hn.1 hn.2 hg.1.1.2.symm]
  have e2 : StepV r (moveX r y m) (backM m) = (0, y) := by
    have := step_still hS1 hb.1 (by rw [h1]; exact ha) (by rw [hb.2, h1])
    rw [this, hb.2]
  unfold RunV
  rw [if_pos hS, if_neg (by simp), runL, e1, if_pos rfl]
  simp only
  rw [runL, e2, if_pos rfl]
  rfl
theorem runL_idx {r : Room} : ∀ {ms : List Move} {i j : Int} {x : P3}, (runL r ms i x).1 = (runL r ms j x).1 ∧ (runL r ms i x).2.2 = (runL r ms j x).2.2
  | [], _, _, _ => ⟨rfl, rfl⟩
  | m :: ms, i, j, x => by
    rw [runL, runL]
    split
    · exact runL_idx
    · exact ⟨rfl, rfl⟩
theorem runL_app {r : Room} : ∀ {a b : List Move} {i : Int} {x : P3}, runL r (a ++ b) i x = if (runL r a i x).1 = 0 then runL r b (i + a.length) (runL r a i x).2.2 else runL r a i x
  | [], b, i, x => by simp [runL]
  | m :: a, b, i, x => by
    rw [List.cons_append, runL, runL]
    split
    · rw [runL_app (a := a)]
      simp only [List.length_cons]
      rw [show i + 1 + (a.length : Int) = i + ((a.length + 1 : Nat) : Int) by omega]
    · rename_i h
      first | (simp only; done) | (rw [if_neg h]; done) | (simp only; rw [if_neg h])
theorem runL_stay {r : Room} (hC : checkE r = 0) : ∀ {ms : List Move} {i : Int} {x : P3}, StIn r x → (runL r ms i x).1 = 0 → StIn r (runL r ms i x).2.2
  | [], _, _, hI, _ => hI
  | m :: ms, i, x, hI, h => by
    rw [runL] at h ⊢
    split
    · rename_i h1
      rw [if_pos h1] at h
      obtain ⟨hL, hs⟩ := step_ok (stL_in.2 ⟨hC, hI⟩) h1
      exact runL_stay hC (settleV_stay (ready_of hC) (move_stay (ready_of hC) hI hL) hs) h
    · rename_i h1
      rw [if_neg h1] at h
      exact (h1 h).elim
theorem run_parts {r : Room} (hC : checkE r = 0) {x : P3} (hI : StIn r x) {ms : List Move} (hm : ms.length ≤ 500) (k : Nat) :
    ((RunV r x (ms.take k)).1 ≠ 0 → (RunV r x ms).1 ≠ 0) ∧ ((RunV r x (ms.take k)).1 = 0 → (RunV r x ms).1 = (RunV r (RunV r x (ms.take k)).2.2 (ms.drop k)).1 ∧ (RunV r x ms).2.2 = (RunV r (RunV r x (ms.take k)).2.2 (ms.drop k)).2.2) := by
  have hS := stL_in.2 ⟨hC, hI⟩
  have e : ∀ (a : List Move), a.length ≤ 500 → RunV r x a = runL r a 0 x := fun a ha => by unfold RunV; rw [if_pos hS, if_neg (by omega)]
  have ht : (ms.take k).length ≤ 500 := by simp; omega
  rw [e _ ht, e _ hm]
  have happ := runL_app (r := r) (a := ms.take k) (b := ms.drop k) (i := 0) (x := x)
  rw [List.take_append_drop] at happ
  constructor
  · intro h; rw [happ, if_neg h]; exact h
  · intro h
    rw [if_pos h] at happ
    have hI2 := runL_stay hC hI h
    have e2 : RunV r (runL r (ms.take k) 0 x).2.2 (ms.drop k) = runL r (ms.drop k) 0 (runL r (ms.take k) 0 x).2.2 := by
      unfold RunV; rw [if_pos (stL_in.2 ⟨hC, hI2⟩), if_neg (by simp; omega)]
    rw [happ, e2]
    exact runL_idx
theorem AS.three {P : Program} {ro : Option Nat} {n0 : Nat} {w0 : World} {ds : List Deferred} {ops : Array Oper} {Q : Exit → Act → World → Prop} {L : List SA} {C : World → Prop} {l : List Value} {fuel : Nat} {bl : List Bool} {i j k : Nat} {o p q : Oper} {bi bj bk : List Bool}
    (hr : Region.ready .any ops bl.toArray = [i, j, k]) (hi : ops[i]? = some o) (hj : ops[j]? = some p) (hk : ops[k]? = some q) (hC : ∀ u, St n0 w0 L u → C u) (hbi : lset bl i true = some bi) (hbj : lset bl j true = some bj) (hbk : lset bl k true = some bk)
    (h1 : WS P ro n0 w0 ds ops (Exit.then (AH P ro ops (NP Q) C fuel bi.toArray) (NP Q)) L [o] l) (h2 : WS P ro n0 w0 ds ops (Exit.then (AH P ro ops (NP Q) C fuel bj.toArray) (NP Q)) L [p] l)
    (h3 : WS P ro n0 w0 ds ops (Exit.then (AH P ro ops (NP Q) C fuel bk.toArray) (NP Q)) L [q] l) : AS P ro n0 w0 ds ops Q C L (fuel + 1) bl l := fun u hu u' hu' => by
  have hst := hu.ext hu'
  refine ⟨hC _ hst, fun h0 => by rw [hr] at h0; simp at h0, fun x hx => ?_⟩
  rw [hr] at hx
  simp at hx
  rcases hx with rfl | rfl | rfl
  · have := opIn_of_WS hi (h1 u' hst)
    rw [← lset_of hbi] at this
    simpa using this
  · have := opIn_of_WS hj (h2 u' hst)
    rw [← lset_of hbj] at this
    simpa using this
  · have := opIn_of_WS hk (h3 u' hst)
    rw [← lset_of hbk] at this
    simpa using this
end Go.Proofs.YtgbofmnbakfalaaDoor
