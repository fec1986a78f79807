/- Merged texts of this proof (walks and plain laws), printed by a program of the prover. -/
import Derived.Test.YtaeagngfhceceaaGreatDoorY1
import Derived.Test.YtaeagngfhceceaaGreatDoorY2
import Derived.Test.YtaeagngfhceceaaGreatDoorY4
import Derived.Test.YtaeagngfhceceaaGreatDoorY8
import Derived.Test.YtaeagngfhceceaaGreatDoorY10
import Derived.Test.YtaeagngfhceceaaGreatDoorY11
import Derived.Test.YtaeagngfhceceaaGreatDoorY12
import Derived.Test.YtaeagngfhceceaaGreatDoorY17
import Derived.Test.YtaeagngfhceceaaGreatDoorY18
import Derived.Test.YtaeagngfhceceaaGreatDoorY19
import Derived.Test.YtaeagngfhceceaaGreatDoorY25
import Derived.Test.YtaeagngfhceceaaGreatDoorY27
import Derived.Test.YtaeagngfhceceaaGreatDoorY29
import Derived.Test.YtaeagngfhceceaaGreatDoorZb
import Derived.Test.YtaeagngfhceceaaGreatDoorZu
import Derived.Test.YtaeagngfhceceaaGreatDoorZz
import Derived.Test.YtaeagngfhceceaaGreatDoorZv
import Derived.Test.YtaeagngfhceceaaGreatDoorZw
namespace Go.Proofs.YtaeagngfhceceaaGreatDoor
set_option linter.unusedVariables false
set_option linter.unusedSimpArgs false
open Go.RowKit
section
variable {P : Program} {ro : Option Nat} {n0 : Nat} {w0 : World} {ds : List Deferred} {ops : Array Oper} {Q : Exit → Act → World → Prop} {L : List SA} {rest : List Oper} {l : List Value} {ty : TypeId} {ps : String} {af : Array Edge}
  {α : Type} {C : Cel α}
end
def runL (r : Room) : List Move → Int → P3 → Int × Int × P3
  | [], _, x => (0, 0, x)
  | m :: ms, i, x => if (StepV r x m).1 = 0 then runL r ms (i + 1) (StepV r x m).2 else ((StepV r x m).1, i, no3)
def RunV (r : Room) (x : P3) (ms : List Move) : Int × Int × P3 := if stL r x = 0 then if 500 < (ms.length : Int) then (2, 0, no3) else runL r ms 0 x else (stL r x, 0, no3)
end Go.Proofs.YtaeagngfhceceaaGreatDoor
namespace Go.Proofs.YtaeagngfhceceaaGreatDoor
set_option linter.unusedVariables false
set_option linter.unusedSimpArgs false
open Go.RowKit
theorem Alike.runL {c r : Room} (h : Alike c r) : ∀ (ms : List Move) (i : Int) (x : P3), runL c ms i x = runL r ms i x
  | [], _, _ => rfl
  | m :: ms, i, x => by rw [Go.Proofs.YtaeagngfhceceaaGreatDoor.runL, Go.Proofs.YtaeagngfhceceaaGreatDoor.runL, h.StepV, Alike.runL h ms]
theorem Alike.RunV {c r : Room} (h : Alike c r) (x : P3) (ms : List Move) : RunV c x ms = RunV r x ms := by unfold Go.Proofs.YtaeagngfhceceaaGreatDoor.RunV; rw [h.stL, h.runL]
end Go.Proofs.YtaeagngfhceceaaGreatDoor
namespace Go.Proofs.YtaeagngfhceceaaGreatDoor
set_option linter.unusedVariables false
set_option linter.unusedSimpArgs false
open Go.RowKit
theorem any_snoc {l : List Move} {m : Move} {s : Int} (h0 : 0 ≤ s) (h1 : s < l.length) : ((l.take s.toNat).any (fun y => decide (y = m)) || decide (nth l s = m)) = (l.take (s + 1).toNat).any fun y => decide (y = m) := by
  rw [take_snoc h0 h1, List.any_append]; simp
theorem settleN_done {aus : List Auto} : ∀ {n : Nat} {ths o : List Int}, settleN aus n ths = some o → autoI aus o < 0
  | 0, _, _, h => by cases h
  | n + 1, ths, o, h => by
    rw [settleN] at h
    split at h
    · rename_i hn; cases h; exact hn
    · exact settleN_done h
theorem settleV_done {r : Room} {x y : P3} (h : settleV r x = some y) : autoI r.aus.l y.1 < 0 ∧ y.2 = x.2 := by
  unfold settleV at h
  obtain ⟨o, ho, rfl⟩ := Option.map_eq_some_iff.1 h
  exact ⟨settleN_done ho, rfl⟩
theorem settleV_still {r : Room} {y : P3} (h : autoI r.aus.l y.1 < 0) : settleV r y = some y := by
  unfold settleV
  rw [show settleN r.aus.l 101 y.1 = some y.1 from if_pos h]; rfl
theorem set_same {l : List Int} {n a b : Int} (h0 : 0 ≤ n) (h1 : n < l.length) (hb : b = nth l n) : (l.set n.toNat a).set n.toNat b = l := by
  rw [List.set_set, hb]
  have h2 : n.toNat < l.length := by omega
  have : nth l n = l[n.toNat] := by simp [nth, List.getD, h2]
  rw [this, List.set_getElem_self]
def backM (m : Move) : Move := if m.k = 2 then ⟨m.p, 3, m.n⟩ else m
theorem step_still {r : Room} {x : P3} {m : Move} (hS : stL r x = 0) (hL : legalB r x m = true) (ha : autoI r.aus.l x.1 < 0) (h1 : (moveX r x m).1 = x.1) : StepV r x m = (0, moveX r x m) := by
  unfold StepV
  rw [if_pos hS, if_pos hL, settleV_still (by rw [h1]; exact ha)]; rfl
theorem there_back {r : Room} (hC : checkE r = 0) {y : P3} (hI : StIn r y) (ha : autoI r.aus.l y.1 < 0) {m : Move} (hL : legalB r y m = true) (hk : m.k = 1 ∨ m.k = 2) : RunV r y [m, backM m] = (0, 0, y) := by
  have hR := ready_of hC
  have hM := move_in hR hI hL
  have hS := stL_in.2 ⟨hC, hI⟩
  have hI1 := move_stay hR hI hL
  have hS1 := stL_in.2 ⟨hC, hI1⟩
  have h1 : (moveX r y m).1 = y.1 := by
    unfold moveX
    rcases hk with hk | hk
    · rw [if_pos hk]
    · rw [if_neg (by omega), if_pos hk]
  have e1 := step_still hS hL ha h1
  have hb : legalB r (moveX r y m) (backM m) = true ∧ moveX r (moveX r y m) (backM m) = y := by
    have hp := hM.p
    have hll := hI.ll
    have hply : (decide (0 ≤ m.p) && decide (m.p ≤ r.ply - 1)) = true := by simp only [Bool.and_eq_true, decide_eq_true_eq]; omega
    rcases hk with hk | hk
    · have hn := hM.go hk
      have hg : goB r y m = true := by
        unfold legalB at hL; rw [if_pos hply, if_pos hk] at hL; exact hL
      simp only [goB, Bool.and_eq_true, Bool.or_eq_true, decide_eq_true_eq] at hg
      have hbm : backM m = m := if_neg (by omega)
      rw [hbm]
      have hmv : moveX r y m = (y.1, y.2.1, y.2.2.set m.p.toNat ((nth r.wys.l m.n).a + (nth r.wys.l m.n).b - nth y.2.2 m.p)) := if_pos hk
      have hnew : nth (moveX r y m).2.2 m.p = (nth r.wys.l m.n).a + (nth r.wys.l m.n).b - nth y.2.2 m.p := by rw [hmv]; exact nth_set_eq hp.1 hp.2.1
      refine ⟨?_, ?_⟩
      · unfold legalB
        rw [if_pos hply, if_pos hk]
        unfold goB
        rw [hnew, h1]
        simp only [Bool.and_eq_true, Bool.or_eq_true, decide_eq_true_eq]
        exact ⟨⟨hg.1.1, by omega⟩, hg.2⟩
      · have : moveX r (moveX r y m) m = ((moveX r y m).1, (moveX r y m).2.1, (moveX r y m).2.2.set m.p.toNat ((nth r.wys.l m.n).a + (nth r.wys.l m.n).b - nth (moveX r y m).2.2 m.p)) := if_pos hk
        rw [this, hnew, hmv]
        simp only
        rw [set_same hp.1 hp.2.1 (by omega)]
    · have hn := hM.pr (.inl hk)
      have hlp := hI.lp
      have hg : takeB r y m = true := by
        unfold legalB at hL; rw [if_pos hply, if_neg (by omega), if_pos hk] at hL; exact hL
      simp only [takeB, Bool.and_eq_true, decide_eq_true_eq] at hg
      have hbm : backM m = ⟨m.p, 3, m.n⟩ := if_pos hk
      rw [hbm]
      have hmv : moveX r y m = (y.1, y.2.1.set m.n.toNat (-2 - m.p), y.2.2) := (if_neg (by omega)).trans (if_pos hk)
      have hnew : nth (moveX r y m).2.1 m.n = -2 - m.p := by rw [hmv]; exact nth_set_eq hn.1 hn.2
      refine ⟨?_, ?_⟩
      · unfold legalB
        rw [if_pos hply, if_neg (show ¬ (3 : Int) = 1 by decide), if_neg (show ¬ (3 : Int) = 2 by decide), if_pos rfl]
        unfold dropB
        simp only [hnew, Bool.and_eq_true, decide_eq_true_eq]
        exact ⟨by omega, trivial⟩
      · have : moveX r (moveX r y m) ⟨m.p, 3, m.n⟩ = ((moveX r y m).1, (moveX r y m).2.1.set m.n.toNat (nth (moveX r y m).2.2 m.p), (moveX r y m).2.2) := (if_neg (show ¬ (3 : Int) = 1 by decide)).trans ((if_neg (show ¬ (3 : Int) = 2 by decide)).trans (if_pos rfl))
        rw [this, hmv]
        simp only
        rw [set_same hn.1 hn.2 hg.1.1.2.symm]
  have e2 : StepV r (moveX r y m) (backM m) = (0, y) := by
    have := step_still hS1 hb.1 (by rw [h1]; exact ha) (by rw [hb.2, h1])
    rw [this, hb.2]
  unfold RunV
  rw [if_pos hS, if_neg (by simp), runL, e1, if_pos rfl]
  simp only
  rw [runL, e2, if_pos rfl]
  rfl
end Go.Proofs.YtaeagngfhceceaaGreatDoor
set_option maxHeartbeats 8000000
namespace Go.Proofs.YtaeagngfhceceaaGreatDoor
open Go.RowKit Go.Proofs
set_option maxRecDepth 100000
set_option linter.unusedVariables false
set_option linter.unusedSimpArgs false
theorem readX_idem {G : GP} {x : P3} {rd : List Bool} : readX G x (readX G x rd) = readX G x rd := by
 refine nth_extG (by simp [readX_len]) fun i h0 h1 => ?_
 rw [readX_len, readX_len] at h1
 rw [readX_nth h0 (by rw [readX_len]; exact h1), readX_nth h0 h1]
 cases nth rd i <;> cases seenB x (nth G.nts i) <;> rfl
theorem readX_same {G : GP} {x y : P3} {rd : List Bool} (h1 : y.1 = x.1) (h2 : y.2.2 = x.2.2) : readX G y rd = readX G x rd := by
 unfold readX seenB; rw [h1, h2]
theorem poss_at {G : Game} {x : P3} {rd : List Bool} {m : Move} (hS : stL G.rm x = 0) (h : (StepV G.rm x m).1 = 0) (hk : m.k ≠ 4) : possB G.p (x, rd) m = true := by
 unfold possB
 show ((playX G.p x m).isSome && mayB G.p rd m) = true
 rw [(stepV_play hS).1.1 h, Bool.true_and, mayB_p, decide_eq_false hk]; rfl
theorem next_at {G : Game} {x : P3} {rd : List Bool} {m : Move} (hS : stL G.rm x = 0) (h : (StepV G.rm x m).1 = 0) : nextX G.p (x, rd) m = ((StepV G.rm x m).2, readX G.p (StepV G.rm x m).2 rd) := by
 unfold nextX
 rw [(stepV_play hS).2 h]
theorem take_drop {G : Game} {x : P3} {rd : List Bool} {m : Move} (hV : GoodG G) (hC' : checkG G.p = 0) (hI : StIn G.rm x) (hl : rd.length = G.nts.l.length) (ha : autoI G.rm.aus.l x.1 < 0) (hr : readX G.p x rd = rd) (h : possB G.p (x, rd) m = true) (hk : m.k = 2) :
  RunGV G.p (x, rd) [m, ⟨m.p, 3, m.n⟩] = (0, 0, (x, rd)) := by
 have hL : legalB G.rm x m = true := poss_legal (p := posOf (x, rd)) h
 have hC := hV.ck
 have hS := stL_in.2 ⟨hC, hI⟩
 have hmv : moveX G.rm x m = (x.1, x.2.1.set m.n.toNat (-2 - m.p), x.2.2) := (if_neg (by omega)).trans (if_pos hk)
 have e1 : (moveX G.rm x m).1 = x.1 := by rw [hmv]
 have e2 : (moveX G.rm x m).2.2 = x.2.2 := by rw [hmv]
 have s1 := step_still hS hL ha e1
 have tb := there_back hC hI ha hL (.inr hk)
 have hb : backM m = ⟨m.p, 3, m.n⟩ := if_pos hk
 rw [hb] at tb
 unfold RunV at tb
 rw [if_pos hS, if_neg (by simp), runL, s1, if_pos rfl] at tb
 simp only at tb
 rw [runL] at tb
 have s2 : StepV G.rm (moveX G.rm x m) ⟨m.p, 3, m.n⟩ = (0, x) := by
  split at tb
  ·
   rename_i h0
   exact Prod.ext h0 (congrArg (fun q : Int × Int × P3 => q.2.2) tb)
  ·
   rename_i h0
   exact absurd (congrArg (fun q : Int × Int × P3 => q.1) tb) h0
 have hI1 := move_stay hV.ready hI hL
 have hS1 := stL_in.2 ⟨hC, hI1⟩
 have hq := pos_ok (p := posOf (x, rd)) hC' hI hl
 have hq1 := pos_ok (p := posOf (moveX G.rm x m, rd)) hC' hI1 hl
 have n1 : nextX G.p (x, rd) m = (moveX G.rm x m, rd) := by
  rw [next_at hS (by rw [s1]), s1]
  exact congrArg _ ((readX_same e1 e2).trans hr)
 have p2 : possB G.p (moveX G.rm x m, rd) ⟨m.p, 3, m.n⟩ = true := poss_at hS1 (by rw [s2]) (show (3 : Int) ≠ 4 by decide)
 have n2 : nextX G.p (moveX G.rm x m, rd) ⟨m.p, 3, m.n⟩ = (x, rd) := by
  rw [next_at hS1 (by rw [s2]), s2]
  exact congrArg _ hr
 unfold RunGV
 rw [if_pos (show posG G.p (x, rd) = 0 from hq), if_neg (by simp), runGL_yes (show posG G.p (x, rd) = 0 from hq) h, stepR_yes h, n1, runGL_yes (show posG G.p (moveX G.rm x m, rd) = 0 from hq1) p2, stepR_yes p2, n2]
 rfl
end Go.Proofs.YtaeagngfhceceaaGreatDoor
set_option maxHeartbeats 8000000
namespace Go.Proofs.YtaeagngfhceceaaGreatDoor
open Go.RowKit Go.Proofs
set_option maxRecDepth 100000
set_option linter.unusedVariables false
set_option linter.unusedSimpArgs false
theorem moves_any {G : Game} {p : Pos} (hP : GoodP G p) (m : Move) : (movesX G.p p.x).any (fun y => decide (y = m)) = possB G.p p.x m := by
 rw [Bool.eq_iff_iff, List.any_eq_true]
 constructor
 ·
  rintro ⟨y, hy, he⟩
  rw [← of_decide_eq_true he]
  rw [movesX_p] at hy
  exact (List.mem_filter.1 hy).2
 ·
  intro h
  exact ⟨m, moves_mem hP h, decide_eq_true rfl⟩
theorem step_0 {G : GP} {x : PX} {m : Move} (hq : posG G x = 0) : (StepGV G x m).1 = 0 ↔ possB G x m = true := by
 unfold StepGV
 rw [if_pos hq]
 by_cases h : possB G x m = true
 ·
  rw [if_pos h]; exact ⟨fun _ => h, fun _ => rfl⟩
 ·
  rw [if_neg h]; exact ⟨fun q => absurd q (by decide), fun q => absurd q h⟩
theorem next_rest {G : Game} {p : Pos} {m : Move} (h : possB G.p p.x m = true) : autoI G.rm.aus.l (nextX G.p p.x m).1.1 < 0 ∧ readX G.p (nextX G.p p.x m).1 (nextX G.p p.x m).2 = (nextX G.p p.x m).2 := by
 rw [nextX_p h]
 refine ⟨?_, readX_idem⟩
 have h1 := poss_play h
 cases hs : settleV G.rm (moveX G.rm p.st.x m) with
 | none => rw [hs] at h1; cases h1
 | some y => exact (settleV_done hs).1
end Go.Proofs.YtaeagngfhceceaaGreatDoor
