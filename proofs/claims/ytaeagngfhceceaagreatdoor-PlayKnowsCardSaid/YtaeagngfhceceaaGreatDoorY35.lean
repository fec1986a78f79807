/- Merged texts of this proof (walks and plain laws), printed by a program of the prover. -/
import Derived.Test.YtaeagngfhceceaaGreatDoorY0
import Derived.Test.YtaeagngfhceceaaGreatDoorY11
import Derived.Test.YtaeagngfhceceaaGreatDoorY12
import Derived.Test.YtaeagngfhceceaaGreatDoorY16
import Derived.Test.YtaeagngfhceceaaGreatDoorY17
import Derived.Test.YtaeagngfhceceaaGreatDoorY18
import Derived.Test.YtaeagngfhceceaaGreatDoorY23
import Derived.Test.YtaeagngfhceceaaGreatDoorY26
import Derived.Test.YtaeagngfhceceaaGreatDoorY27
import Derived.Test.YtaeagngfhceceaaGreatDoorY28
import Derived.RangeFuncNested
import Derived.OrdersIn
import Derived.Still
import Derived.TacticsIn
import Derived.WalkKit
import Derived.Deep.Quiet
import Derived.Test.YtaeagngfhceceaaGreatDoorZa
import Derived.Test.YtaeagngfhceceaaGreatDoorZb
import Derived.Test.YtaeagngfhceceaaGreatDoorZu
import Derived.Test.YtaeagngfhceceaaGreatDoorZz
import Derived.Test.YtaeagngfhceceaaGreatDoorZv
import Derived.Test.YtaeagngfhceceaaGreatDoorZw
namespace Go.Proofs.YtaeagngfhceceaaGreatDoor
set_option linter.unusedVariables false
set_option linter.unusedSimpArgs false
open Go.RowKit
end Go.Proofs.YtaeagngfhceceaaGreatDoor
namespace Go.Proofs.YtaeagngfhceceaaGreatDoor
set_option linter.unusedVariables false
set_option linter.unusedSimpArgs false
open Go.RowKit
section
variable (P : Program) (ro : Option Nat) (n0 : Nat) (w0 : World) (ds : List Deferred)
end
section
variable {P : Program} {ro : Option Nat} {n0 : Nat} {w0 : World} {ds : List Deferred} {ops : Array Oper} {Q : Exit → Act → World → Prop} {L : List SA}
  {rest : List Oper} {l : List Value}
theorem QS.block_exit_ne {id i : Nat} (h : (i == id) = false) (k : QS n0 w0 ds Q (.exit i) L l) : QS n0 w0 ds (Exit.inBlock id Q) (.exit i) L l := fun u hu => by
  have : ¬ i = id := by simpa using h
  simp only [Exit.inBlock, if_neg this]; exact k u hu
end
end Go.Proofs.YtaeagngfhceceaaGreatDoor
namespace Go.Proofs.YtaeagngfhceceaaGreatDoor
set_option linter.unusedVariables false
set_option linter.unusedSimpArgs false
open Go.RowKit
section
variable {P : Program} {C : World → Prop} {l : List Value} {d : Option Tmp} {ty : TypeId} {ps : String} {af : Array Edge} {g : Option (Nat × Bool)}
end
end Go.Proofs.YtaeagngfhceceaaGreatDoor
namespace Go.Proofs.YtaeagngfhceceaaGreatDoor
set_option linter.unusedVariables false
set_option linter.unusedSimpArgs false
open Go.RowKit
section
variable {P : Program} {T : TypeId}
end
section
variable {P : Program} {ro : Option Nat} {n0 : Nat} {w0 : World} {ds : List Deferred} {ops : Array Oper} {Q : Exit → Act → World → Prop} {L : List SA}
  {rest : List Oper} {l : List Value} {d : Option Tmp} {ty : TypeId} {ps : String} {af : Array Edge} {g : Option (Nat × Bool)} {C : World → Prop}
end
end Go.Proofs.YtaeagngfhceceaaGreatDoor
namespace Go.Proofs.YtaeagngfhceceaaGreatDoor
set_option linter.unusedVariables false
set_option linter.unusedSimpArgs false
open Go.RowKit
section
variable {P : Program} {ro : Option Nat} {n0 : Nat} {w0 : World} {ds : List Deferred} {ops : Array Oper} {Q : Exit → Act → World → Prop} {L : List SA}
  {rest : List Oper} {l : List Value} {d : Option Tmp} {ty : TypeId} {ps : String} {af : Array Edge} {g : Option (Nat × Bool)} {C : World → Prop}
end
end Go.Proofs.YtaeagngfhceceaaGreatDoor
namespace Go.Proofs.YtaeagngfhceceaaGreatDoor
set_option linter.unusedVariables false
set_option linter.unusedSimpArgs false
open Go.RowKit
section
variable {P : Program} {ro : Option Nat} {n0 : Nat} {w0 : World} {ds : List Deferred} {ops : Array Oper} {Q : Exit → Act → World → Prop} {L : List SA}
  {rest : List Oper} {l : List Value} {d : Option Tmp} {ty : TypeId} {ps : String} {af : Array Edge} {g : Option (Nat × Bool)} {C : World → Prop}
end
end Go.Proofs.YtaeagngfhceceaaGreatDoor
namespace Go.Proofs.YtaeagngfhceceaaGreatDoor
set_option linter.unusedVariables false
set_option linter.unusedSimpArgs false
open Go.RowKit
section
variable {P : Program} {ro : Option Nat} {n0 : Nat} {w0 : World} {ds : List Deferred} {ops : Array Oper} {Q : Exit → Act → World → Prop} {L : List SA}
  {rest : List Oper} {l : List Value}
end
end Go.Proofs.YtaeagngfhceceaaGreatDoor
namespace Go.Proofs.YtaeagngfhceceaaGreatDoor
set_option linter.unusedVariables false
set_option linter.unusedSimpArgs false
open Go.RowKit
section
variable {P : Program} [Fx P]
end
section
variable {P : Program} [Fx P] {C : World → Prop} {l : List Value} {d : Option Tmp} {ty : TypeId} {ps : String} {af : Array Edge} {g : Option (Nat × Bool)}
end
section
variable {P : Program} [Fx P] {ro : Option Nat} {n0 : Nat} {w0 : World} {ds : List Deferred} {ops : Array Oper} {Q : Exit → Act → World → Prop} {L : List SA} {C : World → Prop}
variable {rest rest' : List Oper} {l l' l'' : List Value} {o : Oper} {d j s : Nat} {v : Value} {b c x want : Bool} {bl bl' bl'' : List Bool} {fuel fuel' na : Nat}
end
section
variable {P : Program} {ro : Option Nat} {n0 : Nat} {w0 : World} {ds : List Deferred} {ops : Array Oper} {Q : Exit → Act → World → Prop} {L : List SA} {C : World → Prop} {l : List Value} {o : Oper} {s : Nat} {bl bl' : List Bool} {fuel : Nat}
end
section
variable {P : Program} {C : World → Prop} {l : List Value} {d : Option Tmp} {ty : TypeId} {ps : String} {af : Array Edge} {g : Option (Nat × Bool)} {v : Value}
variable {n0 : Nat} {w0 : World} {L : List SA} {T T' e e' : TypeId} {x y z : Operand} {i b o a k q q' m n : Nat} {c cs : List Value} {vv : Value} {xs : List Int} {ii aa bb : Int} {w : World} {ik : IntKind} {ba bc br : Bool}
end
section
variable {P : Program} [Fx P] {C : World → Prop} {l : List Value} {d : Option Tmp} {ty : TypeId} {ps : String} {af : Array Edge} {g : Option (Nat × Bool)} {v : Value}
variable {n0 : Nat} {w0 : World} {L : List SA} {T T' e e' : TypeId} {x y z : Operand} {i b o a k q q' m n : Nat} {c cs : List Value} {vv : Value} {xs : List Int} {ii aa bb : Int} {w : World} {ik : IntKind} {ba bc br : Bool}
section
variable {α : Type} {K : Cel α} {s : Sl α}
variable [Inhabited α]
end
end
section
variable {P : Program} [Fx P] {ro : Option Nat} {n0 : Nat} {w0 : World} {ds : List Deferred} {ops : Array Oper} {Q : Exit → Act → World → Prop} {L L' : List SA} {l l'' : List Value} {T ty e : TypeId} {x y : Operand} {ps : String} {af : Array Edge} {b i q d : Nat} {bq_ : Bool} {c c' vs : List Value} {v : Value} {rest rest' : List Oper}
variable {ll : Nat → List Value} {rr : Nat → List Oper} {lz : Nat → List Value}
end
section
variable {P : Program} {ro : Option Nat} {n0 : Nat} {w0 : World} {ds : List Deferred} {ops : Array Oper} {Q : Exit → Act → World → Prop} {L : List SA} {C : World → Prop} {l : List Value} {o : Oper} {b : Bool} {rest : List Oper}
theorem Qn {id i : Nat} (k : QS n0 w0 ds Q (.exit i) L l) (h : (i == id) = false := by exact rfl) : QS n0 w0 ds (Exit.inBlock id Q) (.exit i) L l := QS.block_exit_ne h k
end
end Go.Proofs.YtaeagngfhceceaaGreatDoor
namespace Go.Proofs.YtaeagngfhceceaaGreatDoor
set_option linter.unusedVariables false
set_option linter.unusedSimpArgs false
open Go.RowKit
def numOf (s : Int) : List Int → Int
  | [] => 0
  | x :: xs => x * s ^ xs.length + numOf s xs
theorem numOf_snoc (s : Int) : ∀ (xs : List Int) (a : Int), numOf s (xs ++ [a]) = numOf s xs * s + a
  | [], a => by simp [numOf]
  | x :: xs, a => by
    simp only [List.cons_append, numOf, numOf_snoc s xs a, List.length_append, List.length_cons, List.length_nil]
    rw [Int.pow_succ, Int.add_mul, Int.mul_assoc]
    omega
theorem digs_num (s : Int) (hs : 0 < s) : ∀ (k : Nat) (xs : List Int), xs.length = k → (∀ x ∈ xs, 0 ≤ x ∧ x ≤ s - 1) → digs k s (numOf s xs) = xs ∧ 0 ≤ numOf s xs ∧ numOf s xs < s ^ k
  | 0, xs, hl, _ => by
    have : xs = [] := List.eq_nil_of_length_eq_zero hl
    subst this; simp [digs, numOf]
  | k + 1, xs, hl, hx => by
    obtain ⟨ys, a, rfl⟩ : ∃ ys a, xs = ys ++ [a] := by
      refine ⟨xs.dropLast, xs.getLast (by intro e; simp [e] at hl), ?_⟩
      exact (List.dropLast_concat_getLast _).symm
    have ha := hx a (by simp)
    obtain ⟨h1, h2, h3⟩ := digs_num s hs k ys (by simpa using hl) (fun x hx' => hx x (by simp [hx']))
    rw [numOf_snoc]
    have hd : (numOf s ys * s + a) / s = numOf s ys := by
      rw [Int.mul_comm, Int.mul_add_ediv_left _ _ (by omega), Int.ediv_eq_zero_of_lt ha.1 (by omega)]; omega
    have hm : (numOf s ys * s + a) % s = a := by
      rw [Int.mul_comm, Int.mul_add_emod_self_left, Int.emod_eq_of_lt ha.1 (by omega)]
    refine ⟨by simp only [digs, hd, hm, h1], ?_, ?_⟩
    · have := Int.mul_nonneg h2 (show 0 ≤ s by omega); omega
    · rw [Int.pow_succ]
      have : (numOf s ys + 1) * s ≤ s ^ k * s := Int.mul_le_mul_of_nonneg_right (by omega) (by omega)
      rw [Int.add_mul] at this
      omega
theorem mem_allC {w s : Int} (hL : lockB w s = true) {xs : List Int} (h : codeB w s xs = true) : xs ∈ allC w s := by
  have hl := lock_of hL
  have h1 := code_of h
  obtain ⟨h2, h3, h4⟩ := digs_num s (by omega) w.toNat xs (by omega) h1.2
  have hp := manyC_pow (w := w) (s := s) (by omega)
  unfold allC
  rw [List.mem_map]
  refine ⟨(numOf s xs).toNat, by simp; omega, ?_⟩
  unfold codeAt
  rw [show (((numOf s xs).toNat : Nat) : Int) = numOf s xs by omega]
  exact h2
theorem mem_readL {w s : Int} (hL : lockB w s = true) {cs : List Clue} {xs : List Int} (h : codeB w s xs = true) : xs ∈ readL w s cs ↔ failsT cs xs < 0 := by
  rw [readL_eq, List.mem_filter]
  simp [fitB, mem_allC hL h]
end Go.Proofs.YtaeagngfhceceaaGreatDoor
namespace Go.Proofs.YtaeagngfhceceaaGreatDoor
set_option linter.unusedVariables false
set_option linter.unusedSimpArgs false
open Go.RowKit
section
variable {w s : Int} {cs : List Clue}
section
variable {K : List Nat} {skip : Int}
end
section
variable {P : Program} {ro : Option Nat} {n0 : Nat} {w0 : World} {ds : List Deferred} {ops : Array Oper} {Q : Exit → Act → World → Prop} {L : List SA}
  {rest : List Oper} {l : List Value} {ty : TypeId} {ps : String} {af : Array Edge}
end
end
end Go.Proofs.YtaeagngfhceceaaGreatDoor
set_option maxHeartbeats 8000000
namespace Go.Proofs.YtaeagngfhceceaaGreatDoor
open Go.RowKit Go.Proofs
set_option maxRecDepth 100000
set_option linter.unusedVariables false
set_option linter.unusedSimpArgs false
theorem readX_grow {G : GP} {x : P3} {rd : List Bool} {i : Int} (h0 : 0 ≤ i) (h1 : i < rd.length) (h : nth rd i = true) : nth (readX G x rd) i = true := by
 rw [readX_nth h0 h1, h]; rfl
theorem clu_mono {G : GP} {rd rd' : List Bool} {lk : Int} (h : ∀ i : Int, 0 ≤ i → nth rd i = true → nth rd' i = true) : readN G lk (cluN G rd' lk) ≤ readN G lk (cluN G rd lk) := by
 refine readN_mono fun k hk => ?_
 unfold cluN at hk ⊢
 rw [mem_filI_iff, Bool.and_eq_true] at hk ⊢
 exact ⟨hk.1, h k hk.1.1 hk.2.1, hk.2.2⟩
theorem readN_pos {G : Game} (hV : GoodG G) {lk : Int} (h0 : 0 ≤ lk) (h1 : lk < G.lks.l.length) {ns : List Int} (hns : NotesOf G lk ns) : 1 ≤ readN G.p lk ns := by
 have hcd := hV.cd lk h0 h1
 have hL := hV.lk lk h0 h1
 have hm : (nth G.cds.l lk).l ∈ readL (nth G.lks.l lk).w (nth G.lks.l lk).s (clsG G ns) := by
  rw [mem_readL hL (codeE_code hcd)]
  have hf : fitB (clsG G ns) (nth G.cds.l lk).l = true := by
   rw [fitB_all, List.all_eq_true]
   intro c hc
   unfold clsG at hc
   obtain ⟨k, hk, rfl⟩ := List.mem_map.1 hc
   obtain ⟨⟨a, b⟩, e⟩ := hns k hk
   have := (hV.says a b (by omega)).2
   rwa [e] at this
  exact of_decide_eq_true hf
 rw [readN_p]
 have := List.length_pos_of_mem hm
 omega
end Go.Proofs.YtaeagngfhceceaaGreatDoor
set_option maxHeartbeats 8000000
namespace Go.Proofs.YtaeagngfhceceaaGreatDoor
open Go.RowKit Go.Proofs
set_option maxRecDepth 100000
set_option linter.unusedVariables false
set_option linter.unusedSimpArgs false
theorem begin_27 {G : Game} (hc : checkG G.p = 0) (h : ¬ (BeginGV G.p).1 = 0) : (BeginGV G.p).1 = 27 := by
 have hbv : BeginV G.p.rm = BeginV G.rm := (G.p_alike.BeginV).symm
 have hV := good_of hc
 have hS : stL G.rm (beginX G.rm) = 0 := stL_in.2 ⟨hV.ck, begin_in hV.ready⟩
 have hb : BeginV G.rm = ansS G.rm (settleV G.rm (beginX G.rm)) := (if_pos hV.ck).trans (if_pos hS)
 unfold BeginGV at h ⊢
 rw [if_pos hc, hbv, hb] at h ⊢
 cases hs : settleV G.rm (beginX G.rm) with
 | none => rfl
 | some y => rw [hs] at h; exact absurd rfl h
theorem begin_pos {G : Game} (h : (BeginGV G.p).1 = 0) : posG G.p (BeginGV G.p).2 = 0 := by
 have hbv : BeginV G.p.rm = BeginV G.rm := (G.p_alike.BeginV).symm
 have hc : checkG G.p = 0 := by
  by_cases hc : checkG G.p = 0
  ·
   exact hc
  ·
   unfold BeginGV at h; rw [if_neg hc] at h; exact h
 have hV := good_of hc
 by_cases hb : (BeginV G.rm).1 = 0
 ·
  have e : BeginGV G.p = (0, (BeginV G.rm).2, readX G.p (BeginV G.rm).2 (List.replicate G.p.nts.length false)) := (if_pos hc).trans (by rw [hbv]; exact if_pos hb)
  rw [e]
  exact pos_ok (p := posOf ((BeginV G.rm).2, readX G.p (BeginV G.rm).2 (List.replicate G.p.nts.length false))) hc (BeginV_in hV.ck hb) (by show (readX G.p _ _).length = _; rw [readX_len, List.length_replicate, Game.p_nlen])
 ·
  have e : BeginGV G.p = ((BeginV G.rm).1, noP) := (if_pos hc).trans (by rw [hbv]; exact if_neg hb)
  rw [e] at h
  exact absurd h hb
theorem nth_out {l : List Bool} {i : Int} (h : ¬ i < l.length) : nth l i = false := by
 have : ¬ i.toNat < l.length := by omega
 simp [nth, List.getD, List.getElem?_eq_none (Nat.le_of_not_lt this)]
theorem step_reads {G : Game} {p : Pos} {m : Move} (h : (StepGV G.p p.x m).1 = 0) {i : Int} (h0 : 0 ≤ i) (hr : nth p.rd.l i = true) : nth (StepGV G.p p.x m).2.2 i = true := by
 by_cases h1 : i < p.rd.l.length
 ·
  rw [(step_good h).2.1]
  exact readX_grow h0 h1 hr
 ·
  rw [nth_out h1] at hr; cases hr
theorem step_readN {G : Game} {p : Pos} {m : Move} (h : (StepGV G.p p.x m).1 = 0) {lk : Int} : readN G.p lk (cluN G.p (StepGV G.p p.x m).2.2 lk) ≤ readN G.p lk (cluN G.p p.rd.l lk) :=
 clu_mono fun i h0 hi => step_reads h h0 hi
theorem op_at {G : Game} {rd : List Bool} {k : Int} (h0 : 0 ≤ k) (h1 : k < G.lks.l.length) : nth ((iotaI G.lks.l.length).map (openB G.p rd)) k = decide (readN G.p k (cluN G.p rd k) ≤ G.tr) := by
 rw [nth_mapT _ h0 (by rw [iota_len]; omega), nth_iota h0 (by omega)]; rfl
end Go.Proofs.YtaeagngfhceceaaGreatDoor
