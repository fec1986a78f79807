/- Merged texts of this proof (walks and plain laws), printed by a program of the prover. -/
import Derived.Test.YtaeagngfhceceaaGreatDoorY6
import Derived.Test.YtaeagngfhceceaaGreatDoorY14
import Derived.Test.YtaeagngfhceceaaGreatDoorY16
import Derived.RangeFuncNested
import Derived.OrdersIn
import Derived.Still
import Derived.TacticsIn
import Derived.WalkKit
import Derived.Deep.Quiet
import Derived.Test.YtaeagngfhceceaaGreatDoorZa
import Derived.Lib.LazyBuf
import Derived.Test.YtaeagngfhceceaaGreatDoorZb
import Derived.Test.YtaeagngfhceceaaGreatDoorProg
import Derived.KernelRfl
import Derived.Test.YtaeagngfhceceaaGreatDoorZc
import Derived.Test.YtaeagngfhceceaaGreatDoorZe
import Derived.Test.YtaeagngfhceceaaGreatDoorZp
import Derived.Test.YtaeagngfhceceaaGreatDoorZg
import Derived.Test.YtaeagngfhceceaaGreatDoorZq
import Derived.Test.YtaeagngfhceceaaGreatDoorZu
namespace Go.Proofs.YtaeagngfhceceaaGreatDoor
set_option linter.unusedVariables false
set_option linter.unusedSimpArgs false
open Go.RowKit
end Go.Proofs.YtaeagngfhceceaaGreatDoor
namespace Go.Proofs.YtaeagngfhceceaaGreatDoor
set_option linter.unusedVariables false
set_option linter.unusedSimpArgs false
open Go.RowKit
section
variable (P : Program) (ro : Option Nat) (n0 : Nat) (w0 : World) (ds : List Deferred)
end
section
variable {P : Program} {ro : Option Nat} {n0 : Nat} {w0 : World} {ds : List Deferred} {ops : Array Oper} {Q : Exit → Act → World → Prop} {L : List SA}
  {rest : List Oper} {l : List Value}
theorem put_none (l : List Value) (v : Value) : (Act.mk l.toArray ds).put none v = ⟨l.toArray, ds⟩ := rfl
end
end Go.Proofs.YtaeagngfhceceaaGreatDoor
namespace Go.Proofs.YtaeagngfhceceaaGreatDoor
set_option linter.unusedVariables false
set_option linter.unusedSimpArgs false
open Go.RowKit
section
variable {P : Program} {C : World → Prop} {l : List Value} {d : Option Tmp} {ty : TypeId} {ps : String} {af : Array Edge} {g : Option (Nat × Bool)}
end
end Go.Proofs.YtaeagngfhceceaaGreatDoor
namespace Go.Proofs.YtaeagngfhceceaaGreatDoor
set_option linter.unusedVariables false
set_option linter.unusedSimpArgs false
open Go.RowKit
section
variable {P : Program} {T : TypeId}
end
section
variable {P : Program} {ro : Option Nat} {n0 : Nat} {w0 : World} {ds : List Deferred} {ops : Array Oper} {Q : Exit → Act → World → Prop} {L : List SA}
  {rest : List Oper} {l : List Value} {d : Option Tmp} {ty : TypeId} {ps : String} {af : Array Edge} {g : Option (Nat × Bool)} {C : World → Prop}
end
end Go.Proofs.YtaeagngfhceceaaGreatDoor
namespace Go.Proofs.YtaeagngfhceceaaGreatDoor
set_option linter.unusedVariables false
set_option linter.unusedSimpArgs false
open Go.RowKit
section
variable {P : Program} {ro : Option Nat} {n0 : Nat} {w0 : World} {ds : List Deferred} {ops : Array Oper} {Q : Exit → Act → World → Prop} {L : List SA}
  {rest : List Oper} {l : List Value} {d : Option Tmp} {ty : TypeId} {ps : String} {af : Array Edge} {g : Option (Nat × Bool)} {C : World → Prop}
end
end Go.Proofs.YtaeagngfhceceaaGreatDoor
namespace Go.Proofs.YtaeagngfhceceaaGreatDoor
set_option linter.unusedVariables false
set_option linter.unusedSimpArgs false
open Go.RowKit
section
variable {P : Program} {ro : Option Nat} {n0 : Nat} {w0 : World} {ds : List Deferred} {ops : Array Oper} {Q : Exit → Act → World → Prop} {L : List SA}
  {rest : List Oper} {l : List Value} {d : Option Tmp} {ty : TypeId} {ps : String} {af : Array Edge} {g : Option (Nat × Bool)} {C : World → Prop}
end
end Go.Proofs.YtaeagngfhceceaaGreatDoor
namespace Go.Proofs.YtaeagngfhceceaaGreatDoor
set_option linter.unusedVariables false
set_option linter.unusedSimpArgs false
open Go.RowKit
section
variable {P : Program} {ro : Option Nat} {n0 : Nat} {w0 : World} {ds : List Deferred} {ops : Array Oper} {Q : Exit → Act → World → Prop} {L : List SA}
  {rest : List Oper} {l : List Value}
end
end Go.Proofs.YtaeagngfhceceaaGreatDoor
namespace Go.Proofs.YtaeagngfhceceaaGreatDoor
set_option linter.unusedVariables false
set_option linter.unusedSimpArgs false
open Go.RowKit
end Go.Proofs.YtaeagngfhceceaaGreatDoor
namespace Go.Proofs.YtaeagngfhceceaaGreatDoor
set_option linter.unusedVariables false
set_option linter.unusedSimpArgs false
open Go.RowKit
section
variable {w s : Int} {c : Clue}
end
section
variable {w s : Int} {c : Clue} {u : World}
end
section
variable {w s : Int} {c : Clue} {xs : List Int}
end
theorem cluesE_len {w s : Int} {cs : List Clue} (h : cluesE w s cs = 0) : cs.length ≤ 20 := by
  unfold cluesE at h; repeat' split at h
  all_goals first | omega | simp at h
section
variable {P : Program} {ro : Option Nat} {n0 : Nat} {w0 : World} {ds : List Deferred} {ops : Array Oper} {Q : Exit → Act → World → Prop} {L : List SA}
  {rest : List Oper} {l : List Value} {d : Option Tmp} {ty : TypeId} {ps : String} {af : Array Edge} {g : Option (Nat × Bool)} {C : World → Prop}
end
end Go.Proofs.YtaeagngfhceceaaGreatDoor
namespace Go.Proofs.YtaeagngfhceceaaGreatDoor
set_option linter.unusedVariables false
set_option linter.unusedSimpArgs false
open Go.RowKit
section
variable {w s : Int} {cs : List Clue} {pre post : List (List Int)} {x : List Int}
end
section
variable {k : Nat} {s n i m : Int} {xs : List Int}
end
end Go.Proofs.YtaeagngfhceceaaGreatDoor
namespace Go.Proofs.YtaeagngfhceceaaGreatDoor
set_option linter.unusedVariables false
set_option linter.unusedSimpArgs false
open Go.RowKit
end Go.Proofs.YtaeagngfhceceaaGreatDoor
namespace Go.Proofs.YtaeagngfhceceaaGreatDoor
set_option linter.unusedVariables false
set_option linter.unusedSimpArgs false
open Go.RowKit Go.Proofs
section
variable {n0 : Nat} {w0 u : World} {L : List SA}
end
section
variable {n0 : Nat} {w0 u : World} {L : List SA} {j : Nat} {v : Value}
end
section
variable {w0 : World} {L : List SA} {f : Value → Value} {t : Value}
end
section
variable {P : Program} {ro : Option Nat} {n0 : Nat} {w0 : World} {ds : List Deferred} {ops : Array Oper} {Q : Exit → Act → World → Prop} {L : List SA}
  {rest : List Oper} {l : List Value} {d : Option Tmp} {ty : TypeId} {ps : String} {af : Array Edge} {g : Option (Nat × Bool)} {C : World → Prop} {fuel : Nat} {bl : List Bool}
theorem det_ldIR {T : TypeId} {x : Operand} {v : Value} {z j : Nat} {xs : List Int} {k : Int} (hx : evo l x = some (.pointer (some (sla v k.toNat)))) (hj : L[j]? = some (roI v xs)) (hk : 0 ≤ k ∧ k < xs.length) (hT : tk P T = some (false, z)) :
    Det P (St n0 w0 L) ⟨d, .load T x, ty, ps, af, g⟩ l (.int .i64 (nth xs k)) :=
  det_loadS hx (fun _ hu => hu.roI hj) (nth_map hk) hT
end
end Go.Proofs.YtaeagngfhceceaaGreatDoor
namespace Go.Proofs.YtaeagngfhceceaaGreatDoor
set_option linter.unusedVariables false
set_option linter.unusedSimpArgs false
open Go.RowKit
section
variable {P : Program} {ro : Option Nat} {n0 : Nat} {w0 : World} {ds : List Deferred} {ops : Array Oper} {Q : Exit → Act → World → Prop} {L : List SA}
  {rest : List Oper} {l : List Value} {C : World → Prop} {s : Nat}
variable {bl bl' : List Bool} {fuel : Nat} {l' : List Value}
end
end Go.Proofs.YtaeagngfhceceaaGreatDoor
namespace Go.Proofs.YtaeagngfhceceaaGreatDoor
set_option linter.unusedVariables false
set_option linter.unusedSimpArgs false
open Go.RowKit Go.Proofs
def sub3 (k : Nat) : Value → Nat → Nat → Nat → Value
  | .slice p _ _, lo, hi, mx => .slice (if mx = lo then p else p.map (·.add (lo * k))) (hi - lo) (mx - lo)
  | v, _, _, _ => v
section
variable {P : Program} {ro : Option Nat} {n0 : Nat} {w0 : World} {ds : List Deferred} {ops : Array Oper} {Q : Exit → Act → World → Prop} {L : List SA}
  {rest : List Oper} {l : List Value} {d : Option Tmp} {ty : TypeId} {ps : String} {af : Array Edge} {g : Option (Nat × Bool)} {C : World → Prop}
theorem det_slFrom {T e : TypeId} {k by_ : Nat} {x y : Operand} {v : Value} {n k' : Nat} {flat : List Value} {lo : Int} {w : World} (hT : sl P T = some (e, k, by_)) (hx : evo l x = some v) (hy : evo l y = some (.int .i64 lo))
    (hs : SlC w v n k' flat) (h1 : 0 ≤ lo) (h2 : lo ≤ n) : Det P C ⟨d, .slice T x (some y) none none, ty, ps, af, g⟩ l (sub2 k v lo.toNat n) := fun u _ => by
  obtain ⟨inf, hu, hi', hk, _⟩ := sl_spec hT
  obtain ⟨_, p, cap, rfl, hc, _⟩ := hs
  replace hx := ev_of hx
  replace hy := ev_of hy
  have e1 : (0 ≤ lo ∧ lo ≤ (n : Int)) := by omega
  simp [execOp, DetUpon, hx, hy, Instr.sliceAt, Instr.slice, Instr.sliceBounds, Instr.sliceBound, asIntOf, run_underlying hu, e1, sizeOf, typeInfo, hi', hk, sub2]
theorem det_slPart3 {T e : TypeId} {k by_ : Nat} {x y z m : Operand} {v : Value} {n k' : Nat} {flat : List Value} {lo hi mx : Int} {w : World} (hT : sl P T = some (e, k, by_)) (hx : evo l x = some v) (hy : evo l y = some (.int .i64 lo)) (hz : evo l z = some (.int .i64 hi))
    (hm : evo l m = some (.int .i64 mx)) (hs : SlC w v n k' flat) (h0 : 0 ≤ lo) (h1 : lo ≤ hi) (h2 : hi ≤ mx) (h3 : mx ≤ n) : Det P C ⟨d, .slice T x (some y) (some z) (some m), ty, ps, af, g⟩ l (sub3 k v lo.toNat hi.toNat mx.toNat) := fun u _ => by
  obtain ⟨inf, hu, hi', hk, _⟩ := sl_spec hT
  obtain ⟨_, p, cap, rfl, hc, _⟩ := hs
  replace hx := ev_of hx
  replace hy := ev_of hy
  replace hz := ev_of hz
  replace hm := ev_of hm
  have e1 : (0 ≤ mx ∧ mx ≤ (cap : Int)) := by omega
  have e2 : (0 ≤ lo ∧ lo ≤ ((hi.toNat : Nat) : Int)) := by omega
  have e3 : lo ≤ max hi 0 := by omega
  have e4 : (0 ≤ hi ∧ hi ≤ ((mx.toNat : Nat) : Int)) := by omega
  have e5 : hi ≤ max mx 0 := by omega
  simp [execOp, DetUpon, hx, hy, hz, hm, Instr.sliceAt, Instr.slice, Instr.sliceBounds, Instr.sliceBound, asIntOf, run_underlying hu, e1, e2, e3, e4, e5, h0, sizeOf, typeInfo, hi', hk, sub3]
theorem eraseIdx_map' {α β : Type} (f : α → β) : ∀ (l : List α) (i : Nat), (l.map f).eraseIdx i = (l.eraseIdx i).map f
  | [], _ => by simp
  | _ :: _, 0 => by simp
  | x :: l, i + 1 => by simp [eraseIdx_map' f l i]
end
end Go.Proofs.YtaeagngfhceceaaGreatDoor
namespace Go.Proofs.YtaeagngfhceceaaGreatDoor
set_option linter.unusedVariables false
set_option linter.unusedSimpArgs false
open Go.RowKit
section
variable {k : Nat} {s n i m : Int} {xs : List Int}
end
section
variable {w s : Int} {cs : List Clue} {n : Nat}
end
end Go.Proofs.YtaeagngfhceceaaGreatDoor
namespace Go.Proofs.YtaeagngfhceceaaGreatDoor
set_option linter.unusedVariables false
set_option linter.unusedSimpArgs false
open Go.RowKit
section
variable {L : List (List Int)} {gs : List Value} {i m : Int} {v : Value}
end
section
variable {P : Program} {l : List Value} {d : Option Tmp} {ty : TypeId} {ps : String} {af : Array Edge} {g : Option (Nat × Bool)} {C : World → Prop}
end
end Go.Proofs.YtaeagngfhceceaaGreatDoor
namespace Go.Proofs.YtaeagngfhceceaaGreatDoor
set_option linter.unusedVariables false
set_option linter.unusedSimpArgs false
open Go.RowKit Go.Proofs
section
variable {P : Program} {ro : Option Nat} {n0 : Nat} {w0 : World} {ds : List Deferred} {ops : Array Oper} {Q : Exit → Act → World → Prop} {L : List SA}
  {rest : List Oper} {l : List Value} {d : Option Tmp} {ty : TypeId} {ps : String} {af : Array Edge} {g : Option (Nat × Bool)} {C : World → Prop} {u : World}
theorem St.openRow {e : TypeId} {k n : Nat} {v : Value} {xs : List Value} (h : St n0 w0 (osl e k v n xs :: L) u) (hn : 0 < n) :
    ∃ b cap cur, v = .slice (some ⟨b, 0, none⟩) n cap ∧ n ≤ cap ∧ cap ≤ 9223372036854775807 ∧ cur.length = cap * k ∧ cur.take (n * k) = xs ∧ St n0 w0 (Go.Proofs.YtaeagngfhceceaaGreatDoor.blk b cur e :: L) u := by
  obtain ⟨h1, h2, T, h3, ⟨hS, hl, h4⟩, h5⟩ := h
  rcases h4 with ⟨_, rfl⟩ | ⟨b, cap, cur, rfl, _, hg, hc, hm, hs, ht⟩
  · omega
  · refine ⟨b, cap, cur.toList, rfl, hc, hm, by simpa using hs, ht, h1, h2, T, h3, ⟨fun k => ?_, by simpa using hg⟩, h5⟩
    rw [hS k]
    simp [Value.ownBlock, eq_comm]
theorem St.closeRow {e : TypeId} {k n cap b : Nat} {cur xs : List Value} (h : St n0 w0 (Go.Proofs.YtaeagngfhceceaaGreatDoor.blk b cur e :: L) u) (hc : n ≤ cap) (hm : cap ≤ 9223372036854775807) (hs : cur.length = cap * k) (hx : cur.take (n * k) = xs) :
    St n0 w0 (osl e k (.slice (some ⟨b, 0, none⟩) n cap) n xs :: L) u := by
  obtain ⟨h1, h2, T, h3, ⟨hS, hg⟩, h5⟩ := h
  refine ⟨h1, h2, T, h3, ⟨fun k => ?_, ?_, .inr ⟨b, cap, cur.toArray, rfl, Nat.zero_le _, hg, hc, hm, by simpa using hs, by simpa using hx⟩⟩, h5⟩
  · rw [hS k]; simp [Value.ownBlock, eq_comm]
  · rw [← hx, List.length_take, hs]
    exact Nat.min_eq_left (Nat.mul_le_mul_right _ hc)
theorem WS.blkAppend {T e : TypeId} {k by_ i j b n m cap off cap' : Nat} {x y : Operand} {vx vy : Value} {c news : List Value} (hT : sl P T = some (e, k, by_)) (hx : evo l x = some vx) (hvx : vx = .slice (some ⟨b, 0, none⟩) n cap)
    (hy : evo l y = some vy) (hvy : vy = .slice (some ⟨b, off, none⟩) m cap') (hj : L[j]? = some (blk b c e)) (hnews : (c.drop off).take (m * k) = news) (hlen : news.length = m * k) (h1 : ∀ a ∈ news, a.oneCell' = true) (hroom : n + m ≤ cap) (hfit : n * k + m * k ≤ c.length)
    {l' : List Value} (hl : lset l i (.slice (some ⟨b, 0, none⟩) (n + m) cap) = some l') {L' : List SA} (hL : lset L j (blk b (c.take (n * k) ++ news ++ c.drop (n * k + m * k)) e) = some L') (kk : WS P ro n0 w0 ds ops Q L' rest l') :
    WS P ro n0 w0 ds ops Q L (⟨some i, .call ⟨.builtin .append, #[x, y], #[T, T]⟩, ty, ps, af, none⟩ :: rest) l := by
  subst hvx; subst hvy
  replace hx := ev_of hx
  replace hy := ev_of hy
  refine WS.world rfl rfl fun u hu => ?_
  obtain ⟨inf, hu1, hi, hs, hby⟩ := sl_spec hT
  obtain ⟨_, hb⟩ := hu.blk hj
  have hr := run_append_room (P := P) u T ty e inf hu1 hi b n cap c.toArray hb ⟨b, off, none⟩ m cap' news (by rw [hs]; exact hlen) (fun q z hz => by
    rw [addr_add, blk_cell hb]
    rw [← hnews, List.getElem?_take] at hz
    split at hz
    · rw [List.getElem?_drop] at hz; exact hz
    · simp at hz) h1 hroom (by rw [hs, hlen]; simpa using hfit)
  refine ⟨_, _, by simp [execOp, resolve, invoke, builtin, hx, hy, hr]; exact ⟨rfl, rfl⟩, ?_⟩
  rw [put_some, lset_of hl]
  refine kk _ ?_
  rw [← lset_of hL]
  have h2 := hu.setRow (c' := c.take (n * k) ++ news ++ c.drop (n * k + m * k)) hj
  rw [hs, hlen]
  simpa using h2
theorem WS.clearBlk {T e : TypeId} {k by_ j b m off cap' : Nat} {x : Operand} {c zc : List Value} (hT : sl P T = some (e, k, by_)) (hz : zv P e = some zc) (hzl : zc.length = k) (hx : evo l x = some (.slice (some ⟨b, off, none⟩) m cap')) (hm : m = 1)
    (hj : L[j]? = some (blk b c e)) (h1 : ∀ a ∈ zc, a.oneCell' = true) (hfit : off + k ≤ c.length)
    {L' : List SA} (hL : lset L j (blk b (c.take off ++ zc ++ c.drop (off + k)) e) = some L') (kk : WS P ro n0 w0 ds ops Q L' rest l) :
    WS P ro n0 w0 ds ops Q L (⟨none, .call ⟨.builtin .clear, #[x], #[T]⟩, ty, ps, af, none⟩ :: rest) l := by
  subst hm
  replace hx := ev_of hx
  refine WS.world rfl rfl fun u hu => ?_
  obtain ⟨inf, hu1, hi, hs, hby⟩ := sl_spec hT
  unfold zv at hz
  rw [hi] at hz
  cases hz2 : inf.zero with
  | none => simp [hz2] at hz
  | some zz =>
    simp [hz2] at hz
    obtain ⟨_, hb⟩ := hu.blk hj
    have hzc : (Builtin.zeroCells zz.cells 1).toList = zc := by
      have : (Builtin.zeroCells zz.cells 1).toList = zz.cells.toList := by
        apply List.ext_getElem
        · simp [Builtin.zeroCells]
        · intro q h1 h2
          have hq : q < zz.cells.size := by simpa using h2
          simp [Builtin.zeroCells, Nat.mod_eq_of_lt hq, hq]
      rw [this]; exact hz
    have hst := run_storeCells_at P b off e zc 0 c.toArray u hb (by simp [hzl]; exact hfit) h1
    simp only [Nat.add_zero] at hst
    refine ⟨_, _, by simp [execOp, resolve, invoke, builtin, hx, Builtin.clear_, run_underlying hu1, zeroValue, typeInfo, hi, hz2, hzc, hst]; exact ⟨rfl, rfl⟩, ?_⟩
    rw [put_none]
    refine kk _ ?_
    rw [← lset_of hL]
    have h2 := hu.setRow (c' := c.take off ++ zc ++ c.drop (off + k)) hj
    rw [hzl]
    simpa using h2
theorem det_slCap {T e : TypeId} {k by_ b m cap : Nat} {x y z : Operand} {lo hi : Int} (hT : sl P T = some (e, k, by_)) (hx : evo l x = some (.slice (some ⟨b, 0, none⟩) m cap)) (hy : evo l y = some (.int .i64 lo)) (hz : evo l z = some (.int .i64 hi))
    (h0 : 0 ≤ lo) (h1 : lo ≤ hi) (h2 : hi ≤ cap) (h3 : lo < cap) : Det P C ⟨d, .slice T x (some y) (some z) none, ty, ps, af, g⟩ l (.slice (some ⟨b, lo.toNat * k, none⟩) (hi.toNat - lo.toNat) (cap - lo.toNat)) := fun u _ => by
  obtain ⟨inf, hu, hi', hk, _⟩ := sl_spec hT
  replace hx := ev_of hx
  replace hy := ev_of hy
  replace hz := ev_of hz
  have e1 : (0 ≤ hi ∧ hi ≤ (cap : Int)) := by omega
  have e2 : (0 ≤ lo ∧ lo ≤ ((hi.toNat : Nat) : Int)) := by omega
  have e3 : lo ≤ max hi 0 := by omega
  have e4 : ¬ cap = lo.toNat := by omega
  simp [execOp, DetUpon, hx, hy, hz, Instr.sliceAt, Instr.slice, Instr.sliceBounds, Instr.sliceBound, asIntOf, run_underlying hu, e1, e2, e3, e4, sizeOf, typeInfo, hi', hk, addr_add]
theorem clFlat_one {cs : List Clue} {gs : List Value} (hg : ∀ g ∈ gs, g.oneCell' = true) : ∀ a ∈ clFlat cs gs, a.oneCell' = true := by
  intro a ha
  unfold clFlat at ha
  rw [List.mem_flatten] at ha
  obtain ⟨r, hr, ha⟩ := ha
  obtain ⟨q, hq, rfl⟩ := List.getElem_of_mem hr
  simp only [List.getElem_zipWith, clCells, List.mem_cons, List.not_mem_nil, or_false] at ha
  have hq2 : q < gs.length := by simp at hq; omega
  rcases ha with rfl | rfl | rfl | rfl | rfl | rfl | rfl <;> first | rfl | exact hg _ (List.getElem_mem hq2)
theorem clFlat_len {cs : List Clue} {gs : List Value} (h : gs.length = cs.length) : (clFlat cs gs).length = cs.length * 7 := by
  unfold clFlat
  rw [flat_len 7 _ (by intro x hx; obtain ⟨n, hn, rfl⟩ := List.getElem_of_mem hx; simp [clCells])]
  simp [h]
theorem clFlat_take (cs : List Clue) (gs : List Value) (m : Nat) : (clFlat cs gs).take (m * 7) = clFlat (cs.take m) (gs.take m) := by
  have := clFlat_dt (cs := cs) (gs := gs) 0 m
  simpa using this
theorem clFlat_drop {cs : List Clue} {gs : List Value} (h : gs.length = cs.length) (lo : Nat) : (clFlat cs gs).drop (lo * 7) = clFlat (cs.drop lo) (gs.drop lo) := by
  have h1 := clFlat_dt (cs := cs) (gs := gs) lo cs.length
  rw [List.take_of_length_le (by rw [List.length_drop, clFlat_len h]; omega)] at h1
  rw [h1, List.take_of_length_le (by simp), List.take_of_length_le (by simp; omega)]
theorem clFlat_era {cs : List Clue} {gs : List Value} (h : gs.length = cs.length) (i : Nat) : (clFlat cs gs).take (i * 7) ++ (clFlat cs gs).drop ((i + 1) * 7) = clFlat (cs.eraseIdx i) (gs.eraseIdx i) := by
  rw [clFlat_take, clFlat_drop h, clFlat_app (by simp [h]), List.eraseIdx_eq_take_drop_succ, List.eraseIdx_eq_take_drop_succ]
end
end Go.Proofs.YtaeagngfhceceaaGreatDoor
namespace Go.Proofs.YtaeagngfhceceaaGreatDoor
set_option linter.unusedVariables false
set_option linter.unusedSimpArgs false
open Go.RowKit Go.Proofs
def restN (n i : Nat) : List Nat := (List.range n).drop i
section
variable {α : Type} [Inhabited α] {cs : List α} {ns ms : List Nat}
theorem pickN_all : pickN cs (List.range cs.length) = cs := by
  apply List.ext_getElem
  · simp [pickN]
  · intro i h1 h2
    simp [pickN, List.getD, h2]
theorem pickN_era (i : Nat) : pickN cs (ns.eraseIdx i) = (pickN cs ns).eraseIdx i := by unfold pickN; rw [eraseIdx_map']
theorem pickN_mem {x : α} (hn : ∀ k ∈ ns, k < cs.length) (h : x ∈ pickN cs ns) : x ∈ cs := by
  unfold pickN at h
  obtain ⟨k, hk, rfl⟩ := List.mem_map.1 h
  have := hn k hk
  simp [List.getD, this]
end
theorem restN_zero (n : Nat) : restN n 0 = List.range n := by simp [restN]
theorem restN_cons {n i : Nat} (h : i < n) : restN n i = i :: restN n (i + 1) := by
  unfold restN
  rw [List.drop_eq_getElem_cons (by simpa using h)]
  simp
theorem restN_end (n : Nat) : restN n n = [] := by simp [restN]
theorem restN_mem {n i k : Nat} (h : k ∈ restN n i) : i ≤ k ∧ k < n := by
  unfold restN at h
  obtain ⟨j, hj, rfl⟩ := List.getElem_of_mem h
  simp at hj ⊢
  omega
theorem restN_len (n i : Nat) : (restN n i).length = n - i := by simp [restN]
def coreTo (w s : Int) (cs : List Clue) : Nat → List Nat
  | 0 => []
  | i + 1 => if (readL w s (pickN cs (coreTo w s cs i ++ restN cs.length (i + 1)))).length = (readL w s cs).length then coreTo w s cs i else coreTo w s cs i ++ [i]
theorem coreTo_lt (w s : Int) (cs : List Clue) : ∀ (i : Nat), ∀ k ∈ coreTo w s cs i, k < i
  | 0, k, h => by simp [coreTo] at h
  | i + 1, k, h => by
    unfold coreTo at h
    split at h
    · have := coreTo_lt w s cs i k h; omega
    · simp at h
      rcases h with h | rfl
      · have := coreTo_lt w s cs i k h; omega
      · omega
theorem coreTo_len (w s : Int) (cs : List Clue) : ∀ (i : Nat), (coreTo w s cs i).length ≤ i
  | 0 => by simp [coreTo]
  | i + 1 => by
    have := coreTo_len w s cs i
    unfold coreTo
    split
    · omega
    · simp; omega
def leftN (w s : Int) (cs : List Clue) (i : Nat) : List Nat := coreTo w s cs i ++ restN cs.length i
section
variable {w s : Int} {cs : List Clue} {i : Nat}
theorem leftN_len (h : i ≤ cs.length) : (leftN w s cs i).length ≤ cs.length := by
  have := coreTo_len w s cs i
  simp [leftN, restN_len]; omega
theorem leftN_lt : ∀ k ∈ leftN w s cs i, i ≤ cs.length → k < cs.length := by
  intro k hk h
  simp only [leftN, List.mem_append] at hk
  rcases hk with hk | hk
  · have := coreTo_lt w s cs i k hk; omega
  · exact (restN_mem hk).2
theorem leftN_era (h : i < cs.length) : (leftN w s cs i).eraseIdx (coreTo w s cs i).length = coreTo w s cs i ++ restN cs.length (i + 1) := by
  unfold leftN
  rw [restN_cons h, List.eraseIdx_append_of_length_le (by omega)]
  simp
theorem leftN_at (h : i < cs.length) : (coreTo w s cs i).length < (leftN w s cs i).length := by
  simp [leftN, restN_len]; omega
theorem leftN_yes (h : i < cs.length) (hr : (readL w s (pickN cs (coreTo w s cs i ++ restN cs.length (i + 1)))).length = (readL w s cs).length) : leftN w s cs (i + 1) = coreTo w s cs i ++ restN cs.length (i + 1) := by
  unfold leftN
  rw [coreTo, if_pos hr]
theorem leftN_no (h : i < cs.length) (hr : ¬ (readL w s (pickN cs (coreTo w s cs i ++ restN cs.length (i + 1)))).length = (readL w s cs).length) : leftN w s cs (i + 1) = leftN w s cs i := by
  unfold leftN
  rw [coreTo, if_neg hr, restN_cons h]
  simp
theorem leftN_zero : pickN cs (leftN w s cs 0) = cs := by
  unfold leftN
  rw [coreTo, restN_zero]
  exact pickN_all
theorem leftN_zeroG {gs : List Value} (hg : gs.length = cs.length) : pickN gs (leftN w s cs 0) = gs := by
  unfold leftN
  rw [coreTo, restN_zero, ← hg]
  exact pickN_all
theorem coreTo_yes (hr : (readL w s (pickN cs (coreTo w s cs i ++ restN cs.length (i + 1)))).length = (readL w s cs).length) : coreTo w s cs (i + 1) = coreTo w s cs i := by rw [coreTo, if_pos hr]
theorem coreTo_no (hr : ¬ (readL w s (pickN cs (coreTo w s cs i ++ restN cs.length (i + 1)))).length = (readL w s cs).length) : coreTo w s cs (i + 1) = coreTo w s cs i ++ [i] := by rw [coreTo, if_neg hr]
end
theorem era_pick {α : Type} [Inhabited α] (cs : List α) (i : Nat) : cs.eraseIdx i = pickN cs ((List.range cs.length).eraseIdx i) := by rw [pickN_era, pickN_all]
theorem range_era_lt {n i : Nat} : ∀ k ∈ (List.range n).eraseIdx i, k < n := fun k hk => by
  have := List.mem_of_mem_eraseIdx hk
  simpa using this
theorem ClS.era {u : World} {v v' : Value} {cs : List Clue} {gs : List Value} (h : ClS u v cs gs) {i : Nat} (hs : SlC u v' (cs.eraseIdx i).length 7 (clFlat (cs.eraseIdx i) (gs.eraseIdx i))) : ClS u v' (cs.eraseIdx i) (gs.eraseIdx i) := by
  have e2 : gs.eraseIdx i = pickN gs ((List.range cs.length).eraseIdx i) := by rw [← h.len]; exact era_pick gs i
  rw [era_pick cs i, e2] at hs ⊢
  exact h.pick range_era_lt hs
theorem pick_one {gs : List Value} {ns : List Nat} (hg : ∀ g ∈ gs, g.oneCell' = true) (hn : ∀ k ∈ ns, k < gs.length) : ∀ g ∈ pickN gs ns, g.oneCell' = true := fun g h => hg g (pickN_mem hn h)
section
variable {P : Program} {ro : Option Nat} {n0 : Nat} {w0 : World} {ds : List Deferred} {ops : Array Oper} {Q : Exit → Act → World → Prop} {L : List SA}
  {rest : List Oper} {l : List Value} {d : Option Tmp} {ty : TypeId} {ps : String} {af : Array Edge} {g : Option (Nat × Bool)} {C : World → Prop}
end
end Go.Proofs.YtaeagngfhceceaaGreatDoor
namespace Go.Proofs.YtaeagngfhceceaaGreatDoor
set_option linter.unusedVariables false
set_option linter.unusedSimpArgs false
open Go.RowKit
def needX (G : GP) (lk : Int) : Nat → List Int
  | 0 => allN G lk
  | n + 1 => if readN G lk ((needX G lk n).filter fun k => !decide (k = nth (allN G lk) n)) = readN G lk (allN G lk) then (needX G lk n).filter fun k => !decide (k = nth (allN G lk) n) else needX G lk n
def NeedV (G : GP) (lk : Int) : Int × List Int := if checkG G = 0 then if (decide (0 ≤ lk) && decide (lk ≤ (G.lks.length : Int) - 1)) = true then (0, needX G lk (allN G lk).length) else (1, []) else (checkG G, [])
end Go.Proofs.YtaeagngfhceceaaGreatDoor
namespace Go.Proofs.YtaeagngfhceceaaGreatDoor
open Go.Proofs
theorem ent19 : Ent Tryz.prog 19 := ent_of Tryz.func19 (by kernel_rfl) rfl
theorem ent67 : Ent Tryz.prog 67 := ent_of Tryz.func67 (by kernel_rfl) rfl
theorem ent124 : Ent Tryz.prog 124 := ent_of Tryz.func124 (by kernel_rfl) rfl
theorem ent125 : Ent Tryz.prog 125 := ent_of Tryz.func125 (by kernel_rfl) rfl
end Go.Proofs.YtaeagngfhceceaaGreatDoor
set_option maxHeartbeats 8000000
namespace Go.Proofs.YtaeagngfhceceaaGreatDoor
open Go.RowKit Go.Proofs
set_option maxRecDepth 100000
set_option linter.unusedVariables false
set_option linter.unusedSimpArgs false
theorem CloneC_k (cs : List Clue) (gs : List Value) (v : Value) (w : World) (h1 : ClS w v cs gs) (hm : cs.length ≤ 1000000) :
  Calls Tryz.prog 124 #[v] w (fun e w' => ∃ v' : Value, v'.oneCell' = true ∧ RetF w v' (osl 48 7 v' cs.length (clFlat cs gs)) e w') := by
 have hone := clFlat_one (cs := cs) h1.one
 obtain ⟨hl, p, cap, rfl, hcap, hp⟩ := h1.sp
 refine enter Tryz.func124 rfl rfl (Nat.le_of_ble_eq_true rfl) ?_
 refine Nz 1 ?_
 refine Wd (Qc (Cs (Nz 1 ?_)))
 refine Wk 0 (det_eqnil sl46 rfl rfl) ?_
 refine Wd (Qc (CS.cond rfl ?_ ?_))<;>intro hc1<;>try simp only [bq] at hc1
 ·
  have hx0 : cs = [] := by
   have : p = none := by simpa using hc1
   subst this
   exact List.eq_nil_of_length_eq_zero (SlC.nil h1.sp)
  have hg0 : gs = [] := List.eq_nil_of_length_eq_zero (by rw [h1.len, hx0]; rfl)
  subst hx0; subst hg0
  refine Nz 1 ?_
  exact Wd (Qc (Cr (Qr (out1 rfl rfl (fun u hu => ⟨_, rfl, retF (j := 0) rfl u hu.osl0⟩)))))
 ·
  refine Ck (Qc (Nz 0 ?_))
  refine WS.build0 sl46 zv48 (fun _ => rfl) ?_; intro v5
  refine Wz 1 ?_
  refine WS.append (j := 0) (xs := []) (news := clFlat cs gs) (m := cs.length) sl46 zv48 rfl (by decide) rfl rfl rfl (fun u hu => (h1.st hu).sp) hone (by omega) (by omega) (fun _ => rfl) (fun _ => rfl) ?_; intro v7; refine WS.oc (j := 0) rfl (fun hv7 => ?_)
  refine Wz 1 ?_
  refine Wd (Qc (Cr ?_))
  exact out1 rfl rfl (fun u hu => ⟨v7, hv7, by
    have := retF (v := v7) (j := 0) rfl u hu
    rw [Nat.zero_add] at this
    exact this⟩)
theorem DeleteC_k {n0 : Nat} {w0 u : World} (R : List SA) (cs : List Clue) (gs : List Value) (v : Value) (i : Int) (hu : St n0 w0 (osl 48 7 v cs.length (clFlat cs gs) :: R) u) (hg : gs.length = cs.length) (hone : ∀ g ∈ gs, g.oneCell' = true) (h0 : 0 ≤ i) (h1 : i < cs.length) (hm : cs.length ≤ 1000000) :
  Calls Tryz.prog 125 #[v, .int .i64 i, .int .i64 (i + 1)] u (fun e u' => ∃ v' : Value, v'.oneCell' = true ∧ e = .returned v' ∧ St n0 w0 (osl 48 7 v' (cs.eraseIdx i.toNat).length (clFlat (cs.eraseIdx i.toNat) (gs.eraseIdx i.toNat)) :: R) u') := by
 have hsp : SlC u v cs.length 7 (clFlat cs gs) := osl_SlC hu (j := 0) rfl
 obtain ⟨b, cap, cur, rfl, hcc, hcm, hcl, hct, hu⟩ := hu.openRow (by omega)
 have hel : (cs.eraseIdx i.toNat).length = cs.length - 1 := List.length_eraseIdx_of_lt (by omega)
 have hnl : ((cur.drop ((i + 1).toNat * 7)).take ((cs.length - (i + 1).toNat) * 7)).length = (cs.length - (i + 1).toNat) * 7 := by simp; omega
 have hn7 : (cur.drop ((i + 1).toNat * 7)).take ((cs.length - (i + 1).toNat) * 7) = (clFlat cs gs).drop ((i + 1).toNat * 7) := by
  rw [← hct, List.drop_take]
  congr 1
  omega
 have ht7 : cur.take (i.toNat * 7) = (clFlat cs gs).take (i.toNat * 7) := by rw [← hct, List.take_take, Nat.min_eq_left (by omega)]
 have hal := clFlat_one (cs := cs) hone
 have hv1 : sub2 7 (.slice (some ⟨b, 0, none⟩) cs.length cap) 0 i.toNat = .slice (some ⟨b, 0, none⟩) i.toNat cap := by simp [sub2, addr_add]
 obtain ⟨m, hmm⟩ : ∃ m, m = cs.length - (i + 1).toNat := ⟨_, rfl⟩
 obtain ⟨off, hoff⟩ : ∃ off, off = if cap = (i + 1).toNat then 0 else (i + 1).toNat * 7 := ⟨_, rfl⟩
 obtain ⟨news, hnw⟩ : ∃ news, news = (clFlat cs gs).drop ((i + 1).toNat * 7) := ⟨_, rfl⟩
 have hfl := clFlat_len hg
 have hnwl : news.length = m * 7 := by rw [hnw, List.length_drop, hfl]; omega
 have hv2 : sub2 7 (.slice (some ⟨b, 0, none⟩) cs.length cap) (i + 1).toNat cs.length = .slice (some ⟨b, off, none⟩) m (cap - (i + 1).toNat) := by
  rw [hoff, hmm]; simp only [sub2, Option.map_some, addr_add, Nat.zero_add]; split <;> rfl
 have hnews : (cur.drop off).take (m * 7) = news := by
  rw [hoff]
  split
  ·
   have e : m = 0 := by omega
   rw [e] at hnwl ⊢
   simp
   exact List.eq_nil_of_length_eq_zero (by omega)
  ·
   rw [hmm, hn7, hnw]
 have hnone : ∀ a ∈ news, a.oneCell' = true := fun a ha => hal a (by rw [hnw] at ha; exact List.mem_of_mem_drop ha)
 have hera : cur.take (i.toNat * 7) ++ news = clFlat (cs.eraseIdx i.toNat) (gs.eraseIdx i.toNat) := by
  rw [ht7, hnw, ← clFlat_era hg, show (i + 1).toNat = i.toNat + 1 by omega]
 have htl : (cur.take (i.toNat * 7)).length = i.toNat * 7 := by simp; omega
 refine enterI hu Tryz.func125 rfl rfl (Nat.le_of_ble_eq_true rfl) ?_
 refine Nz 1 ?_
 refine Wd (Qc (Nz 4 ?_))
 refine Wk 0 (by first | exact det_lenS sl46 rfl (by assumption) | exact det_lenS sl46 rfl (by first | exact SlL.sp (by assumption) | exact ClS.sp (by assumption)) | exact det_lenO sl46 rfl | exact det_lenV sl46 rfl ⟨_, _, rfl⟩) ?_
 refine Wk 0 (det_slPart3 sl46 rfl rfl rfl rfl (by first | assumption | exact SlL.sp (by assumption) | exact ClS.sp (by assumption) | exact SlT.sp (by assumption)) (by omega) (by omega) (by omega) (by omega)) ?_
 refine Wd (Qc (Cs (Nz 3 ?_)))
 refine Wd (Qc (CS.cond rfl ?_ ?_))<;>intro hc1<;>try simp only [bq] at hc1
 ·
  omega
 ·
  refine Ck (Qc (Nz 1 ?_))
  refine Wk 1 (by first | exact det_lenS sl46 rfl (by assumption) | exact det_lenS sl46 rfl (by first | exact SlL.sp (by assumption) | exact ClS.sp (by assumption)) | exact det_lenO sl46 rfl | exact det_lenV sl46 rfl ⟨_, _, rfl⟩) ?_
  refine Wd (Qc (Cs ?_))
  refine CS.drawnTill 6 (k := 8) mixed rfl rfl ?_
  refine Tr 8 [0,1] ?_
  refine Tk 8 2 [3,4] rfl (det_slTo sl46 rfl rfl (by first | assumption | exact SlL.sp (by assumption) | exact ClS.sp (by assumption) | exact SlT.sp (by assumption)) (by omega) (by omega)) ?_
  refine Tk 8 5 [] rfl (det_slFrom sl46 rfl rfl (by first | assumption | exact SlL.sp (by assumption) | exact ClS.sp (by assumption) | exact SlT.sp (by assumption)) (by omega) (by omega)) ?_
  refine To 6 rfl ?_
  refine WS.blkAppend (j := 0) (off := off) (news := news) (m := m) sl46 rfl hv1 rfl hv2 rfl hnews hnwl hnone (by omega) (by omega) rfl rfl ?_
  refine Wd (Qt ?_)
  refine To 7 rfl ?_
  refine Wz 1 ?_
  refine Wd (Qt ?_)
  refine Te ?_
  refine Qc (Nz 2 ?_)
  refine Wk 1 (by first | exact det_lenS sl46 rfl (by assumption) | exact det_lenS sl46 rfl (by first | exact SlL.sp (by assumption) | exact ClS.sp (by assumption)) | exact det_lenO sl46 rfl | exact det_lenV sl46 rfl ⟨_, _, rfl⟩) ?_
  refine Wk 0 (det_slCap sl46 rfl rfl rfl (by omega) (by omega) (by omega) (by omega)) ?_
  refine WS.clearBlk (j := 0) sl46 zv48 rfl rfl (by omega) rfl (by simp [Value.oneCell']) (by simp only [List.length_append, List.length_drop, htl, hnwl]; omega) rfl ?_
  refine Wd (Qc (Nz 2 ?_))
  refine Wd (Qc (Cr ?_))
  exact out1 rfl rfl (fun u' hu' => ⟨_, rfl, rfl, by
     have hn1 : (cs.eraseIdx i.toNat).length = i.toNat + m := by omega
     rw [hn1]
     refine hu'.closeRow (by omega) hcm ?_ ?_
     ·
      simp only [List.length_append, List.length_take, List.length_drop, htl, hnwl, List.length_cons, List.length_nil]
      omega
     ·
      rw [← hera, List.append_assoc, List.take_append_of_le_length (by simp only [List.length_take, List.length_append, List.length_drop, htl, hnwl]; omega), List.take_take]
      rw [List.take_append_of_le_length (by simp only [List.length_append, htl, hnwl]; omega), List.take_of_length_le (by simp only [List.length_append, htl, hnwl]; omega)]⟩)
end Go.Proofs.YtaeagngfhceceaaGreatDoor
set_option maxHeartbeats 8000000
namespace Go.Proofs.YtaeagngfhceceaaGreatDoor
open Go.RowKit Go.Proofs
set_option maxRecDepth 100000
set_option linter.unusedVariables false
set_option linter.unusedSimpArgs false
theorem Core_k (lw ls : Int) (cs : List Clue) (gs : List Value) (cv : Value) (w : World) (hk : ClS w cv cs gs) :
  Calls Tryz.prog 67 #[.agg #[.int .i64 lw, .int .i64 ls], cv] w (fun e w' => ∃ x : Value, (∃ u0, SlI u0 x (if cluesE lw ls cs = 0 then (coreTo lw ls cs cs.length).map Int.ofNat else [])) ∧ RetF w (.tuple #[x, .int .i64 (cluesE lw ls cs)]) (roI x (if cluesE lw ls cs = 0 then (coreTo lw ls cs cs.length).map Int.ofNat else [])) e w') := by
 refine enter Tryz.func67 rfl rfl (Nat.le_of_ble_eq_true rfl) ?_
 refine Nz 0 ?_
 refine Wb 2 rfl rfl (fun _ => rfl) (fun _ => rfl) fun b2 hb2 => ?_
 refine Wd (Qc (Cs (Nz 0 ?_)))
 refine Wk 1 (Bb 0) ?_
 refine Wk 1 (Cb rfl rfl ent68 (fun u hu => checkClues_k _ _ _ _ _ u (hk.st hu))) ?_
 refine Wd (Qc (Nz 2 ?_))
 refine Wd (Qc (CS.cond rfl ?_ ?_))<;>intro hc1<;>try simp only [bq] at hc1
 ·
  refine Nz 3 ?_
  exact Wd (Qc (Cr (Qr (out2 rfl rfl rfl (retIn (by simp [hc1]) (by simp [hc1]))))))
 ·
  have hL := cluesE_lock hc1
  have hC := cluesE_clue hc1
  have hcl20 := cluesE_len hc1
  have hgl := hk.len
  have hol := clFlat_one (cs := cs) hk.one
  refine Ck (Qc (Nz 0 ?_))
  refine Wk 1 (Bb 0) ?_
  refine Wk 1 (Cb rfl rfl ent71 (fun u hu => count_k _ _ _ _ _ u hL hC (hk.st hu))) ?_
  refine Wd (Qc (Nz 1 ?_))
  refine Wc rfl rfl ent124 (fun u hu => CloneC_k cs gs _ u (hk.st hu) (by omega)) (fun _ => rfl) ?_; intro v21 hv21
  refine Wz 1 ?_
  refine Wd (Qc (Cs (Nz 1 ?_)))
  refine Wk 1 (det_lenS sl46 rfl (by first | exact SlL.sp (by assumption) | exact ClS.sp (by assumption))) ?_
  refine Wd (Qc (Ce ?_))
  refine CS.weak (fun _ hu => hu.osl0 (e := 3) (size := 1)) ?_
  refine CS.loopM (σ := Int × Value × Value) [9, 10, 25, 26, 27, 28, 29, 30, 31, 32, 33, 34, 35, 36, 37, 38, 39, 40, 41, 42, 43, 44, 45] (fun s => [(4, s.2.1), (8, s.2.2), (24, .int .i64 s.1)]) (fun s => [oints 3 s.2.1 ((coreTo lw ls cs s.1.toNat).map Int.ofNat), osl 48 7 s.2.2 (pickN cs (leftN lw ls cs s.1.toNat)).length (clFlat (pickN cs (leftN lw ls cs s.1.toNat)) (pickN gs (leftN lw ls cs s.1.toNat))), blk b2 [.int .i64 lw, .int .i64 ls] 54]) (fun s => 0 ≤ s.1 ∧ s.1 ≤ cs.length) (fun s => (cs.length - s.1).toNat) (0, .slice none 0 0, v21) (fun _ _ => rfl) rfl (by simp only [Int.toNat_zero, leftN_zero, leftN_zeroG hgl]; rfl) ⟨by simp, by simp⟩ ?_
  intro s t hs
  obtain ⟨hs1, hs2⟩ := hs
  refine Nz 1 ?_
  refine Wd (Qc (Cs (CS.cond rfl ?_ ?_)))<;>intro hc2<;>try simp only [bq] at hc2
  ·
   have hin : s.1.toNat < cs.length := by omega
   have e1 : (s.1 + 1).toNat = s.1.toNat + 1 := by omega
   have hlt : ∀ k ∈ leftN lw ls cs s.1.toNat, k < cs.length := fun k hk => leftN_lt k hk (by omega)
   have hltg : ∀ k ∈ leftN lw ls cs s.1.toNat, k < gs.length := fun k hk => by rw [hgl]; exact hlt k hk
   have hll := leftN_len (w := lw) (s := ls) (cs := cs) (i := s.1.toNat) (by omega)
   have hcl := coreTo_len lw ls cs s.1.toNat
   have hkk : ((((coreTo lw ls cs s.1.toNat).map Int.ofNat).length : Int)).toNat = (coreTo lw ls cs s.1.toNat).length := by simp
   have hki := leftN_at (w := lw) (s := ls) (cs := cs) (i := s.1.toNat) hin
   have heC : (pickN cs (leftN lw ls cs s.1.toNat)).eraseIdx ((((coreTo lw ls cs s.1.toNat).map Int.ofNat).length : Int)).toNat = pickN cs (coreTo lw ls cs s.1.toNat ++ restN cs.length (s.1.toNat + 1)) := by rw [hkk, ← pickN_era, leftN_era hin]
   have heG : (pickN gs (leftN lw ls cs s.1.toNat)).eraseIdx ((((coreTo lw ls cs s.1.toNat).map Int.ofNat).length : Int)).toNat = pickN gs (coreTo lw ls cs s.1.toNat ++ restN cs.length (s.1.toNat + 1)) := by rw [hkk, ← pickN_era, leftN_era hin]
   have herl : ∀ c ∈ (pickN cs (leftN lw ls cs s.1.toNat)).eraseIdx ((((coreTo lw ls cs s.1.toNat).map Int.ofNat).length : Int)).toNat, clueB lw ls c = true := fun c hc => hC c (pickN_mem hlt (List.mem_of_mem_eraseIdx hc))
   refine Ck (Qc (Cs (Ce (Nz 2 ?_))))
   refine Wd (Qc (Nz 1 ?_))
   refine Wc rfl rfl ent124 (fun u hu => CloneC_k (pickN cs (leftN lw ls cs s.1.toNat)) (pickN gs (leftN lw ls cs s.1.toNat)) _ u ((hk.st hu).pick hlt (osl_SlC hu (j := 1) rfl)) (by rw [pickN_len]; omega)) (fun _ => rfl) ?_; intro v28 hv28
   refine Wz 1 ?_
   refine Wk 1 (Nb 1) ?_
   refine Wk 0 (Nb 1) ?_
   refine Wk 0 Za ?_
   refine WS.callS (p := fun v' : Value => v'.oneCell' = true) rfl rfl ent125 (fun u hu => DeleteC_k _ (pickN cs (leftN lw ls cs s.1.toNat)) (pickN gs (leftN lw ls cs s.1.toNat)) _ _ hu (by simp [pickN_len]) (pick_one hk.one hltg) (by omega) (by rw [pickN_len, List.length_map]; omega) (by rw [pickN_len]; omega)) (fun _ => rfl) ?_; intro v34 hv34
   refine Wz 1 ?_
   refine Wd (Qc (Nz 0 ?_))
   refine Wk 1 (Bb 3) ?_
   refine Wk 2 (Cb rfl rfl ent71 (fun u hu => count_k _ _ _ _ _ u hL herl (((hk.st hu).pick hlt (osl_SlC hu (j := 2) rfl)).era (osl_SlC hu (j := 0) rfl)))) ?_
   refine Wd (Qc (CS.cond rfl ?_ ?_))<;>intro hc3<;>try simp only [bq] at hc3
   ·
    rw [heC] at hc3
    have hcnt : (readL lw ls (pickN cs (coreTo lw ls cs s.1.toNat ++ restN cs.length (s.1.toNat + 1)))).length = (readL lw ls cs).length := by omega
    refine Ny 2 ?_
    refine Wd (Qb (Qc (Ny 0 ?_)))
    refine Wk 1 Za ?_
    refine Wd ?_
    refine QS.sel [1, 0, 1] rfl ?_
    skip
    exact QS.head ((s.1 + 1, s.2.1, v34)) rfl (by first | simp only [e1, leftN_yes hin hcnt, coreTo_yes hcnt, heC, heG] | (simp only [e1, leftN_no hin hcnt, coreTo_no hcnt, List.map_append, List.map_singleton]; simp only [Int.ofNat_eq_natCast, Int.toNat_of_nonneg hs1])) ⟨⟨by simp; omega, by simp; omega⟩, by simp; omega⟩
   ·
    rw [heC] at hc3
    have hcnt : ¬ (readL lw ls (pickN cs (coreTo lw ls cs s.1.toNat ++ restN cs.length (s.1.toNat + 1)))).length = (readL lw ls cs).length := by omega
    refine Ny 2 ?_
    refine WS.buildI1 sl42 zv3 rfl (fun _ => rfl) ?_; intro v43
    refine WS.appendI (j := 2) sl42 zv3 rfl rfl rfl (fun u hu => oints_SlI hu (j := 0) rfl) (by first | omega | (simp; omega) | (simp only [List.length_append, List.length_singleton, List.length_map, List.length_cons, List.length_nil] at *; omega)) (by first | omega | (simp; omega) | (simp only [List.length_append, List.length_singleton, List.length_map, List.length_cons, List.length_nil] at *; omega)) (fun _ => rfl) (fun _ => rfl) ?_; intro v44; refine WS.oc (j := 2) rfl (fun hv44 => ?_)
    refine Wz 1 ?_
    refine Wd (Qb (Qc (Ny 0 ?_)))
    refine Wk 1 Za ?_
    refine Wd ?_
    refine QS.sel [2, 2, 2] rfl ?_
    exact QS.head ((s.1 + 1, v44, s.2.2)) rfl (by first | simp only [e1, leftN_yes hin hcnt, coreTo_yes hcnt, heC, heG] | (simp only [e1, leftN_no hin hcnt, coreTo_no hcnt, List.map_append, List.map_singleton]; simp only [Int.ofNat_eq_natCast, Int.toNat_of_nonneg hs1])) ⟨⟨by simp; omega, by simp; omega⟩, by simp; omega⟩
  ·
   refine Cv (Qe (Qe (Qx (Qc (Nz 3 ?_)))))
   exact Wd (Qc (Cr (out2 rfl rfl rfl (retIe (j := 0) rfl (by rw [if_pos hc1, show s.1.toNat = cs.length by omega]) (by rw [hc1])))))
end Go.Proofs.YtaeagngfhceceaaGreatDoor
set_option maxHeartbeats 8000000
namespace Go.Proofs.YtaeagngfhceceaaGreatDoor
open Go.RowKit Go.Proofs
set_option maxRecDepth 100000
set_option linter.unusedVariables false
set_option linter.unusedSimpArgs false
section
variable {P : Program} {ro : Option Nat} {n0 : Nat} {w0 : World} {ds : List Deferred} {ops : Array Oper} {Q : Exit → Act → World → Prop} {L : List SA}
 {rest : List Oper} {l : List Value} {ty : TypeId} {ps : String} {af : Array Edge}
end
theorem NotesOf.filt {G : Game} {lk : Int} {ns : List Int} {q : Int → Bool} (h : NotesOf G lk ns) : NotesOf G lk (ns.filter q) := fun k hk => h k (List.mem_filter.1 hk).1
theorem needX_of {G : Game} {lk : Int} : ∀ n, NotesOf G lk (needX G.p lk n)
 | 0 => all_of
 | n + 1 => by
  unfold needX
  split
  ·
   exact (needX_of n).filt
  ·
   exact needX_of n
theorem needX_len {G : Game} (hV : GoodG G) {lk : Int} : ∀ n, (needX G.p lk n).length ≤ 16
 | 0 => all_len hV lk
 | n + 1 => by
  unfold needX
  split
  ·
   exact Nat.le_trans (List.length_filter_le _ _) (needX_len hV n)
  ·
   exact needX_len hV n
end Go.Proofs.YtaeagngfhceceaaGreatDoor
set_option maxHeartbeats 8000000
namespace Go.Proofs.YtaeagngfhceceaaGreatDoor
open Go.RowKit Go.Proofs
set_option maxRecDepth 100000
set_option linter.unusedVariables false
set_option linter.unusedSimpArgs false
theorem filI_nodup {n : Int} {p : Int → Bool} : (filI n p).Nodup := by
 unfold filI iotaI
 refine List.Pairwise.filter _ ?_
 exact List.pairwise_map.2 (List.nodup_range.imp fun h e => h (by omega))
theorem getD_inj {A : List Int} (hn : A.Nodup) {i j : Nat} (hi : i < A.length) (hj : j < A.length) (h : A.getD i default = A.getD j default) : i = j := by
 have e : ∀ k, (hk : k < A.length) → A.getD k default = A[k] := fun k hk => by simp [List.getD, hk]
 rw [e i hi, e j hj] at h
 have hp := List.pairwise_iff_getElem.1 hn
 rcases Nat.lt_trichotomy i j with h1 | h1 | h1
 ·
  exact absurd h (hp i j hi hj h1)
 ·
  exact h1
 ·
  exact absurd h.symm (hp j i hj hi h1)
theorem pick_filt {A : List Int} (hn : A.Nodup) {n : Nat} (h : n < A.length) : ∀ {is : List Nat}, (∀ k ∈ is, k < A.length) → (pickN A is).filter (fun k => !decide (k = A.getD n default)) = pickN A (is.filter fun k => !decide (k = n))
 | [], _ => rfl
 | x :: is, hl => by
  have ih := pick_filt hn h (is := is) fun k hk => hl k (List.mem_cons_of_mem _ hk)
  have hx := hl x List.mem_cons_self
  unfold pickN at ih ⊢
  rw [List.map_cons, List.filter_cons, List.filter_cons]
  by_cases e : x = n
  ·
   subst e; simp only [decide_true, Bool.not_true]; exact ih
  ·
   have e2 : ¬ A.getD x default = A.getD n default := fun q => e (getD_inj hn hx h q)
   rw [decide_eq_false e, decide_eq_false e2]
   simp only [Bool.not_false, if_true]
   rw [List.map_cons, ih]
theorem cls_pick {G : GP} {A : List Int} {is : List Nat} (hl : ∀ k ∈ is, k < A.length) : clsN G (pickN A is) = pickN (clsN G A) is := by
 unfold clsN pickN
 rw [List.map_map]
 refine List.map_congr_left fun k hk => ?_
 have := hl k hk
 simp [List.getD, this]
theorem need_core {G : GP} {lk : Int} : ∀ {n : Nat}, n ≤ (allN G lk).length → needX G lk n = pickN (allN G lk) (coreTo (nth G.lks lk).w (nth G.lks lk).s (clsN G (allN G lk)) n ++ restN (allN G lk).length n)
 | 0, _ => by rw [needX, coreTo, restN_zero, List.nil_append, pickN_all]
 | n + 1, h => by
  have hlt : n < (allN G lk).length := h
  have ih := need_core (G := G) (lk := lk) (n := n) (by omega)
  have hcl : (clsN G (allN G lk)).length = (allN G lk).length := by simp [clsN]
  have hc : ∀ k ∈ coreTo (nth G.lks lk).w (nth G.lks lk).s (clsN G (allN G lk)) n, k < n := coreTo_lt _ _ _ n
  have hnd : (allN G lk).Nodup := filI_nodup
  have hall : ∀ k ∈ coreTo (nth G.lks lk).w (nth G.lks lk).s (clsN G (allN G lk)) n ++ restN (allN G lk).length n, k < (allN G lk).length := fun k hk => by
   rcases List.mem_append.1 hk with h1 | h1
   ·
    have := hc k h1; omega
   ·
    exact (restN_mem h1).2
  have hgn : nth (allN G lk) (n : Int) = (allN G lk).getD n default := rfl
  have hf : (needX G lk n).filter (fun k => !decide (k = nth (allN G lk) n)) = pickN (allN G lk) (coreTo (nth G.lks lk).w (nth G.lks lk).s (clsN G (allN G lk)) n ++ restN (allN G lk).length (n + 1)) := by
   rw [hgn, ih, pick_filt hnd hlt hall, List.filter_append, restN_cons hlt, List.filter_cons]
   simp only [decide_true, Bool.not_true]
   congr 2
   ·
    exact List.filter_eq_self.2 fun k hk => by have := hc k hk; simp; omega
   ·
    exact List.filter_eq_self.2 fun k hk => by have := (restN_mem hk).1; simp; omega
  have hall2 : ∀ k ∈ coreTo (nth G.lks lk).w (nth G.lks lk).s (clsN G (allN G lk)) n ++ restN (allN G lk).length (n + 1), k < (allN G lk).length := fun k hk => by
   rcases List.mem_append.1 hk with h1 | h1
   ·
    have := hc k h1; omega
   ·
    exact (restN_mem h1).2
  have hr1 : readN G lk (pickN (allN G lk) (coreTo (nth G.lks lk).w (nth G.lks lk).s (clsN G (allN G lk)) n ++ restN (allN G lk).length (n + 1))) = ((readL (nth G.lks lk).w (nth G.lks lk).s (pickN (clsN G (allN G lk)) (coreTo (nth G.lks lk).w (nth G.lks lk).s (clsN G (allN G lk)) n ++ restN (clsN G (allN G lk)).length (n + 1)))).length : Int) := by
   unfold readN; rw [cls_pick hall2, hcl]
  rw [needX, hf, coreTo]
  by_cases hcond : (readL (nth G.lks lk).w (nth G.lks lk).s (pickN (clsN G (allN G lk)) (coreTo (nth G.lks lk).w (nth G.lks lk).s (clsN G (allN G lk)) n ++ restN (clsN G (allN G lk)).length (n + 1)))).length = (readL (nth G.lks lk).w (nth G.lks lk).s (clsN G (allN G lk))).length
  ·
   rw [if_pos hcond, if_pos (by rw [hr1, hcond]; rfl)]
  ·
   rw [if_neg hcond, if_neg (fun q => hcond (by rw [hr1] at q; unfold readN at q; exact Int.ofNat.inj q)), ih, restN_cons hlt, List.append_assoc]
   rfl
theorem need_all {G : GP} {lk : Int} : needX G lk (allN G lk).length = (coreTo (nth G.lks lk).w (nth G.lks lk).s (clsN G (allN G lk)) (allN G lk).length).map (fun k : Nat => nth (allN G lk) (k : Int)) := by
 rw [need_core (Nat.le_refl _), restN_end, List.append_nil]; rfl
theorem NeededI_c (G : Game) (w : World) (hG : GameOk w G) (g : Sl ByteArray) (hW : GOk w g) (hn : NearG G) (lk : Int) :
  Calls Tryz.prog 19 #[.agg #[G.rm.pls.v, G.rm.ths.v, G.rm.prs.v, G.rm.wys.v, G.rm.acs.v, G.rm.aus.v, .int .i64 G.rm.ply, G.rm.gl.v, G.lks.v, G.cds.v, G.nts.v, .int .i64 G.tr], .int .i64 lk] w (fun e w' => ∃ x : Value, (∃ u0, SlI u0 x (NeedV G.p lk).2) ∧ RetF w (.tuple #[x, .int .i64 (NeedV G.p lk).1]) (roI x (NeedV G.p lk).2) e w') := by
 have klk := hG.lks
 have llk := hG.lks.le
 refine enter Tryz.func19 rfl rfl (Nat.le_of_ble_eq_true rfl) ?_
 refine Nz 0 ?_
 refine Wb 2 rfl rfl (fun _ => rfl) (fun _ => rfl) fun b2 hb2 => ?_
 refine Wd (Qc (Cs (Nz 0 ?_)))
 refine Wk 0 (by first | exact det_loadb0 (j := 0) rfl rfl tk36 | exact det_loadbN (j := 0) rfl rfl (by rfl) tk36 | exact det_loadwN rfl (by assumption) (by rfl) tk36 | exact det_loadbK (n := 12) (j := 0) rfl rfl rfl rfl tk36) ?_
 refine Wk 1 (Cb rfl rfl ent46 (fun u hu => GICheck_c G u (hG.st hu) g (hW.st hu) hn)) ?_
 refine Wd (Qc (Nz 2 ?_))
 refine Wd (Qc (CS.cond rfl ?_ ?_))<;>intro hc1<;>try simp only [bq] at hc1
 ·
  refine Nz 3 ?_
  refine Wd (Qc (Cr (Qr ?_)))
  exact out2 rfl rfl rfl (by
    have hv : NeedV G.p lk = (checkG G.p, []) := if_neg hc1
    rw [hv]
    exact retIn (f := fun v => .tuple #[v, .int .i64 (checkG G.p)]) rfl rfl)
 ·
  have hV := good_of hc1
  have hnl := hV.nl
  have hnn := hV.nn
  refine Ck (Qc (Cs (Nz 0 ?_)))
  refine Wk 1 (by first | exact det_loadb0 (j := 0) rfl rfl tk36 | exact det_loadbN (j := 0) rfl rfl (by rfl) tk36 | exact det_loadwN rfl (by assumption) (by rfl) tk36 | exact det_loadbK (n := 12) (j := 0) rfl rfl rfl rfl tk36) ?_
  refine Wk 1 (Cb rfl rfl ent66 (fun u hu => hasLock_c G u (hG.st hu) _)) ?_
  refine Wd (Qc (Nz 2 ?_))
  refine Wd (Qc (CS.cond rfl ?_ ?_))<;>intro hc2<;>try simp only [bq] at hc2
  ·
   have hnin : ¬ (0 ≤ lk ∧ lk ≤ (G.lks.l.length : Int) - 1) := fun h9 => hc2 (if_pos h9)
   have hlo : ¬ (decide (0 ≤ lk) && decide (lk ≤ (G.lks.l.length : Int) - 1)) = true := by simp only [Bool.and_eq_true, decide_eq_true_eq]; exact hnin
   refine Nz 3 ?_
   refine Wd (Qc (Cr (Qr ?_)))
   exact out2 rfl rfl rfl (by
     have hv : NeedV G.p lk = (1, []) := (if_pos hc1).trans (if_neg hlo)
     rw [hv, if_neg hlo]
     exact retIn (f := fun v => .tuple #[v, .int .i64 1]) rfl rfl)
  ·
   have hin : 0 ≤ lk ∧ lk ≤ (G.lks.l.length : Int) - 1 := by
      by_cases h9 : 0 ≤ lk ∧ lk ≤ (G.lks.l.length : Int) - 1
      ·
       exact h9
      ·
       rw [if_neg h9] at hc2; exact absurd hc2 (by decide)
   have hlo : (decide (0 ≤ lk) && decide (lk ≤ (G.lks.l.length : Int) - 1)) = true := by simp only [Bool.and_eq_true, decide_eq_true_eq]; exact hin
   have hE := cluesE_ok hV hin.1 (show lk < G.lks.l.length by omega) (about_of (p := fun _ => true)) (Nat.le_trans (about_len hV _ _) (by decide))
   have hal := about_len hV (fun _ => true) lk
   have hcgl : (clsG G (aboutN G.p lk fun _ => true)).length = (aboutN G.p lk fun _ => true).length := by simp [clsG]
   refine Ck (Qc (Nz 0 ?_))
   refine Wk 1 (by first | exact det_loadb0 (j := 0) rfl rfl tk36 | exact det_loadbN (j := 0) rfl rfl (by rfl) tk36 | exact det_loadwN rfl (by assumption) (by rfl) tk36 | exact det_loadbK (n := 12) (j := 0) rfl rfl rfl rfl tk36) ?_
   refine Wc rfl rfl ent64 (fun u hu => about_c G u (hG.st hu) (by omega) lk _ [] (fun _ ↦ true) ent65 (fun u2 _ i _ _ ↦ every_c i u2)) (fun _ => rfl) ?_; rintro ⟨v28, v29⟩ ⟨hv28, hv29⟩
   refine WS.unpack ?_
   refine Wz 5 ?_
   refine Wd (Qc (Nz 1 ?_))
   refine Wk 1 (by first | exact det_loadb (j := 2) rfl rfl rfl tk32 | exact det_loadw rfl (by assumption) rfl tk32) ?_
   refine Wk 0 Xc ?_
   refine Wk 1 Ua ?_
   refine Wc rfl rfl ent67 (fun u hu => Core_k _ _ _ _ _ u (clS_of (hG.st hu) about_of (osl_SlC hu (j := 1) rfl))) (fun _ => rfl) ?_; rintro vq ⟨uq, hvq⟩
   rw [if_pos hE] at hvq ⊢
   have hql : ((coreTo (nth G.lks.l lk).w (nth G.lks.l lk).s (clsG G (aboutN G.p lk fun _ => true)) (clsG G (aboutN G.p lk fun _ => true)).length).map Int.ofNat).length ≤ 1000 := by rw [List.length_map]; exact Nat.le_trans (coreTo_len _ _ _ _) (by omega)
   refine Wz 5 ?_
   refine Wd (Qc (Cs (Nz 2 ?_)))
   refine Wd (Qc (CS.cond rfl ?_ ?_))<;>intro hc3<;>try simp only [bq] at hc3
   ·
    exact absurd hE hc3
   ·
    refine Ck (Qc (Cs (Nz 1 ?_)))
    refine Wk 1 (det_lenS sl42 rfl hvq) ?_
    refine Wd (Qc (Ce ?_))
    refine CS.weak (fun _ hu => hu.osl0 (e := 3) (size := 1)) ?_
    refine CS.sel [0, 0, 0, 1] rfl ?_
    refine CS.loopM (σ := Int × Value) [12, 46, 47, 48, 49, 50, 51, 52, 53, 54, 55, 56] (fun s => [(45, .int .i64 s.1), (4, s.2)]) (fun s => [oints 3 s.2 ((((coreTo (nth G.lks.l lk).w (nth G.lks.l lk).s (clsG G (aboutN G.p lk fun _ => true)) (clsG G (aboutN G.p lk fun _ => true)).length).map Int.ofNat).take s.1.toNat).map fun k => nth (aboutN G.p lk fun _ => true) k), roI vq ((coreTo (nth G.lks.l lk).w (nth G.lks.l lk).s (clsG G (aboutN G.p lk fun _ => true)) (clsG G (aboutN G.p lk fun _ => true)).length).map Int.ofNat), oints 3 v28 (aboutN G.p lk fun _ => true), blk b2 [G.rm.pls.v, G.rm.ths.v, G.rm.prs.v, G.rm.wys.v, G.rm.acs.v, G.rm.aus.v, .int .i64 G.rm.ply, G.rm.gl.v, G.lks.v, G.cds.v, G.nts.v, .int .i64 G.tr] 36]) (fun s => 0 ≤ s.1 ∧ s.1 ≤ ((coreTo (nth G.lks.l lk).w (nth G.lks.l lk).s (clsG G (aboutN G.p lk fun _ => true)) (clsG G (aboutN G.p lk fun _ => true)).length).map Int.ofNat).length) (fun s => (((coreTo (nth G.lks.l lk).w (nth G.lks.l lk).s (clsG G (aboutN G.p lk fun _ => true)) (clsG G (aboutN G.p lk fun _ => true)).length).map Int.ofNat).length - s.1).toNat) (0, .slice none 0 0) (fun _ _ => rfl) rfl rfl ⟨by simp, by simp⟩ ?_
    intro a t hs
    obtain ⟨ha1, ha2⟩ := hs
    refine Nz 1 ?_
    refine Wd (Qc (Cs (CS.cond rfl ?_ ?_)))<;>intro hc4<;>try simp only [bq] at hc4
    ·
     have hci : 0 ≤ nth ((coreTo (nth G.lks.l lk).w (nth G.lks.l lk).s (clsG G (aboutN G.p lk fun _ => true)) (clsG G (aboutN G.p lk fun _ => true)).length).map Int.ofNat) a.1 ∧ nth ((coreTo (nth G.lks.l lk).w (nth G.lks.l lk).s (clsG G (aboutN G.p lk fun _ => true)) (clsG G (aboutN G.p lk fun _ => true)).length).map Int.ofNat) a.1 < (aboutN G.p lk fun _ => true).length := by
        obtain ⟨k, hk, he⟩ := List.mem_map.1 (nth_mem (xs := ((coreTo (nth G.lks.l lk).w (nth G.lks.l lk).s (clsG G (aboutN G.p lk fun _ => true)) (clsG G (aboutN G.p lk fun _ => true)).length).map Int.ofNat)) ha1 (by omega))
        have := coreTo_lt _ _ _ _ k hk
        rw [← he]
        show 0 ≤ (k : Int) ∧ (k : Int) < _
        omega
     have htl := List.length_take_le a.1.toNat ((coreTo (nth G.lks.l lk).w (nth G.lks.l lk).s (clsG G (aboutN G.p lk fun _ => true)) (clsG G (aboutN G.p lk fun _ => true)).length).map Int.ofNat)
     refine Ck (Qc (Cs (Ce (Nz 0 ?_))))
     refine Wk 0 (det_idxI sl42 rfl rfl hvq (by omega) (by omega)) ?_
     refine Wk 1 (det_ldIR rfl (j := 1) rfl ⟨by omega, by omega⟩ tk3) ?_
     refine Wd (Qc (Ny 3 ?_))
     refine Wk 0 (Xb 2) ?_
     refine Wk 0 (det_ldOI rfl (j := 2) rfl ⟨by omega, by omega⟩ tk3) ?_
     refine WS.buildI1 sl42 zv3 rfl (fun _ => rfl) ?_; intro v54
     refine WS.appendI (j := 1) sl42 zv3 rfl rfl rfl (fun u hu => oints_SlI hu (j := 0) rfl) (by first | omega | (simp; omega) | (simp only [List.length_append, List.length_singleton, List.length_map, List.length_cons, List.length_nil] at *; omega)) (by first | omega | (simp; omega) | (simp only [List.length_append, List.length_singleton, List.length_map, List.length_cons, List.length_nil] at *; omega)) (fun _ => rfl) (fun _ => rfl) ?_; intro v55; refine WS.oc (j := 1) rfl (fun hv55 => ?_)
     refine Wz 1 ?_
     refine Wd (Qb (Qc (Ny 0 ?_)))
     refine Wk 1 Za ?_
     refine Wd ?_
     refine QS.sel [1, 1, 1, 1] rfl ?_
     exact QS.head ((a.1 + 1, v55)) rfl (by simp only [map_snoc (fun k => nth (aboutN G.p lk fun _ => true) k) ha1 (by omega : a.1 < ((coreTo (nth G.lks.l lk).w (nth G.lks.l lk).s (clsG G (aboutN G.p lk fun _ => true)) (clsG G (aboutN G.p lk fun _ => true)).length).map Int.ofNat).length)]) ⟨⟨by show (0 : Int) ≤ a.1 + 1; omega, by show a.1 + 1 ≤ (((coreTo (nth G.lks.l lk).w (nth G.lks.l lk).s (clsG G (aboutN G.p lk fun _ => true)) (clsG G (aboutN G.p lk fun _ => true)).length).map Int.ofNat).length : Int); omega⟩, by show ((((coreTo (nth G.lks.l lk).w (nth G.lks.l lk).s (clsG G (aboutN G.p lk fun _ => true)) (clsG G (aboutN G.p lk fun _ => true)).length).map Int.ofNat).length : Int) - (a.1 + 1)).toNat < ((((coreTo (nth G.lks.l lk).w (nth G.lks.l lk).s (clsG G (aboutN G.p lk fun _ => true)) (clsG G (aboutN G.p lk fun _ => true)).length).map Int.ofNat).length : Int) - a.1).toNat; omega⟩
    ·
     have hta : ((coreTo (nth G.lks.l lk).w (nth G.lks.l lk).s (clsG G (aboutN G.p lk fun _ => true)) (clsG G (aboutN G.p lk fun _ => true)).length).map Int.ofNat).take a.1.toNat = ((coreTo (nth G.lks.l lk).w (nth G.lks.l lk).s (clsG G (aboutN G.p lk fun _ => true)) (clsG G (aboutN G.p lk fun _ => true)).length).map Int.ofNat) := List.take_of_length_le (by omega)
     refine Cv (Qe (Qe (Qx (Qc (Nz 3 ?_)))))
     refine Wd (Qc (Cr ?_))
     exact out2 rfl rfl rfl (by
       have hv : NeedV G.p lk = (0, (((coreTo (nth G.lks.l lk).w (nth G.lks.l lk).s (clsG G (aboutN G.p lk fun _ => true)) (clsG G (aboutN G.p lk fun _ => true)).length).map Int.ofNat).take a.1.toNat).map fun k => nth (aboutN G.p lk fun _ => true) k) := (if_pos hc1).trans ((if_pos hlo).trans (by rw [hta, need_all, List.map_map, hcgl, ← about_all, clsN_p]; rfl))
       rw [hv]
       exact retIe (f := fun v => .tuple #[v, .int .i64 0]) (j := 0) rfl rfl rfl)
end Go.Proofs.YtaeagngfhceceaaGreatDoor
