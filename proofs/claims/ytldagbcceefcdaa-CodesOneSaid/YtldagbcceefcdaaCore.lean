/- Plain laws on choices of clues by their numbers: idle clues, the core. A call that turns parts of the caller's memory. No program in sight but that. -/
import Derived.Test.YtldagbcceefcdaaDel
namespace Go.Proofs.Ytldagbcceefcdaa
set_option linter.unusedVariables false
set_option linter.unusedSimpArgs false
open Go.RowKit Go.Proofs

def pickN {α : Type} [Inhabited α] (cs : List α) (ns : List Nat) : List α := ns.map fun k => cs.getD k default
/-- The numbers from i on, below n. -/
def restN (n i : Nat) : List Nat := (List.range n).drop i
section
variable {α : Type} [Inhabited α] {cs : List α} {ns ms : List Nat}
theorem pickN_len : (pickN cs ns).length = ns.length := by simp [pickN]
theorem pickN_app : pickN cs (ns ++ ms) = pickN cs ns ++ pickN cs ms := by simp [pickN]
theorem pickN_all : pickN cs (List.range cs.length) = cs := by
  apply List.ext_getElem
  · simp [pickN]
  · intro i h1 h2
    simp [pickN, List.getD, h2]
theorem pickN_era (i : Nat) : pickN cs (ns.eraseIdx i) = (pickN cs ns).eraseIdx i := by unfold pickN; rw [eraseIdx_map']
theorem pickN_at {i : Nat} (h : i < ns.length) : (pickN cs ns)[i]? = some (cs.getD ns[i] default) := by simp [pickN, h]
theorem pickN_mem {x : α} (hn : ∀ k ∈ ns, k < cs.length) (h : x ∈ pickN cs ns) : x ∈ cs := by
  unfold pickN at h
  obtain ⟨k, hk, rfl⟩ := List.mem_map.1 h
  have := hn k hk
  simp [List.getD, this]
end
theorem restN_zero (n : Nat) : restN n 0 = List.range n := by simp [restN]
theorem restN_cons {n i : Nat} (h : i < n) : restN n i = i :: restN n (i + 1) := by
  unfold restN
  rw [List.drop_eq_getElem_cons (by simpa using h)]
  simp
theorem restN_end (n : Nat) : restN n n = [] := by simp [restN]
theorem restN_mem {n i k : Nat} (h : k ∈ restN n i) : i ≤ k ∧ k < n := by
  unfold restN at h
  obtain ⟨j, hj, rfl⟩ := List.getElem_of_mem h
  simp at hj ⊢
  omega
theorem restN_len (n i : Nat) : (restN n i).length = n - i := by simp [restN]

/-- The clues without the i-th. -/
theorem era_numbers (n i : Nat) (h : i < n) : (List.range n).eraseIdx i = (List.range n).filter fun k => decide (k ≠ i) := by
  have e : List.range n = List.range i ++ i :: restN n (i + 1) := by
    have h1 := List.take_append_drop i (List.range n)
    have h2 : (List.range n).drop i = restN n i := rfl
    rw [h2, restN_cons h] at h1
    rw [← h1]
    congr 1
    rw [List.take_range]
    congr 1
    omega
  have f1 : (List.range i).filter (fun k => decide (k ≠ i)) = List.range i := by
    rw [List.filter_eq_self]
    intro a ha
    have : a < i := by simpa using ha
    simp; omega
  have f2 : (restN n (i + 1)).filter (fun k => decide (k ≠ i)) = restN n (i + 1) := by
    rw [List.filter_eq_self]
    intro a ha
    have := restN_mem ha
    simp; omega
  rw [e, List.filter_append, List.filter_cons, f1, f2]
  simp only [ne_eq, not_true_eq_false, decide_false, Bool.false_eq_true, if_false]
  rw [List.eraseIdx_append_of_length_le (by simp)]
  simp
def numsB (n : Nat) (but : Int) : List Int := ((List.range n).filter fun k : Nat => decide ((k : Int) ≠ but)).map Int.ofNat
theorem numsB_zero (but : Int) : numsB 0 but = [] := rfl
theorem numsB_yes {n but : Int} (h0 : 0 ≤ n) (h : ¬ n = but) : numsB (n + 1).toNat but = numsB n.toNat but ++ [n] := by
  have e : (n + 1).toNat = n.toNat + 1 := by omega
  have e2 : ((n.toNat : Nat) : Int) = n := by omega
  rw [e]
  simp [numsB, List.range_succ, List.filter_append, List.filter_cons, e2, h]
theorem numsB_no {n but : Int} (h0 : 0 ≤ n) (h : n = but) : numsB (n + 1).toNat but = numsB n.toNat but := by
  subst h
  have e : (n + 1).toNat = n.toNat + 1 := by omega
  have e2 : ((n.toNat : Nat) : Int) = n := by omega
  rw [e]
  simp [numsB, List.range_succ, List.filter_append, List.filter_cons, e2]
theorem numsB_len (n : Nat) (but : Int) : (numsB n but).length ≤ n := by
  have := List.length_filter_le (fun k : Nat => decide ((k : Int) ≠ but)) (List.range n)
  simpa [numsB] using this
theorem numsB_all (n : Nat) : numsB n (-1) = (List.range n).map Int.ofNat := by
  unfold numsB
  congr 1
  rw [List.filter_eq_self]
  intro a _
  simp
theorem numsB_era {n : Nat} {i : Nat} (h : i < n) : numsB n (i : Int) = ((List.range n).eraseIdx i).map Int.ofNat := by
  rw [era_numbers n i h]
  unfold numsB
  congr 2
  funext k
  simp [Int.ofNat_inj]
/-- Is the list the clues with these numbers. -/
theorem ofNat_nth {α : Type} [Inhabited α] (cs : List α) (k : Nat) : nth cs (Int.ofNat k) = cs.getD k default := by simp [nth]

/-- The clues that say nothing new. -/
def idleTo (w s : Int) (cs : List Clue) (n : Nat) : List Int := ((List.range n).filter fun i => decide ((readL w s (cs.eraseIdx i)).length = (readL w s cs).length)).map Int.ofNat
theorem idleTo_yes {w s : Int} {cs : List Clue} {n : Int} (h0 : 0 ≤ n) (h : (readL w s (cs.eraseIdx n.toNat)).length = (readL w s cs).length) : idleTo w s cs (n + 1).toNat = idleTo w s cs n.toNat ++ [n] := by
  have e : (n + 1).toNat = n.toNat + 1 := by omega
  have e2 : ((n.toNat : Nat) : Int) = n := by omega
  rw [e]
  simp [idleTo, List.range_succ, List.filter_append, List.filter_cons, e2, h]
theorem idleTo_no {w s : Int} {cs : List Clue} {n : Int} (h0 : 0 ≤ n) (h : ¬ (readL w s (cs.eraseIdx n.toNat)).length = (readL w s cs).length) : idleTo w s cs (n + 1).toNat = idleTo w s cs n.toNat := by
  have e : (n + 1).toNat = n.toNat + 1 := by omega
  rw [e]
  simp [idleTo, List.range_succ, List.filter_append, List.filter_cons, h]
theorem idleTo_len (w s : Int) (cs : List Clue) (n : Nat) : (idleTo w s cs n).length ≤ n := by
  have := List.length_filter_le (fun i => decide ((readL w s (cs.eraseIdx i)).length = (readL w s cs).length)) (List.range n)
  simpa [idleTo] using this
/-- The clues below i that are kept. -/
def coreTo (w s : Int) (cs : List Clue) : Nat → List Nat
  | 0 => []
  | i + 1 => if (readL w s (pickN cs (coreTo w s cs i ++ restN cs.length (i + 1)))).length = (readL w s cs).length then coreTo w s cs i else coreTo w s cs i ++ [i]
theorem coreTo_lt (w s : Int) (cs : List Clue) : ∀ (i : Nat), ∀ k ∈ coreTo w s cs i, k < i
  | 0, k, h => by simp [coreTo] at h
  | i + 1, k, h => by
    unfold coreTo at h
    split at h
    · have := coreTo_lt w s cs i k h; omega
    · simp at h
      rcases h with h | rfl
      · have := coreTo_lt w s cs i k h; omega
      · omega
theorem coreTo_len (w s : Int) (cs : List Clue) : ∀ (i : Nat), (coreTo w s cs i).length ≤ i
  | 0 => by simp [coreTo]
  | i + 1 => by
    have := coreTo_len w s cs i
    unfold coreTo
    split
    · omega
    · simp; omega
/-- The numbers of those that are left. -/
def leftN (w s : Int) (cs : List Clue) (i : Nat) : List Nat := coreTo w s cs i ++ restN cs.length i
section
variable {w s : Int} {cs : List Clue} {i : Nat}
theorem leftN_len (h : i ≤ cs.length) : (leftN w s cs i).length ≤ cs.length := by
  have := coreTo_len w s cs i
  simp [leftN, restN_len]; omega
theorem leftN_lt : ∀ k ∈ leftN w s cs i, i ≤ cs.length → k < cs.length := by
  intro k hk h
  simp only [leftN, List.mem_append] at hk
  rcases hk with hk | hk
  · have := coreTo_lt w s cs i k hk; omega
  · exact (restN_mem hk).2
theorem leftN_era (h : i < cs.length) : (leftN w s cs i).eraseIdx (coreTo w s cs i).length = coreTo w s cs i ++ restN cs.length (i + 1) := by
  unfold leftN
  rw [restN_cons h, List.eraseIdx_append_of_length_le (by omega)]
  simp
theorem leftN_at (h : i < cs.length) : (coreTo w s cs i).length < (leftN w s cs i).length := by
  simp [leftN, restN_len]; omega
theorem leftN_yes (h : i < cs.length) (hr : (readL w s (pickN cs (coreTo w s cs i ++ restN cs.length (i + 1)))).length = (readL w s cs).length) : leftN w s cs (i + 1) = coreTo w s cs i ++ restN cs.length (i + 1) := by
  unfold leftN
  rw [coreTo, if_pos hr]
theorem leftN_no (h : i < cs.length) (hr : ¬ (readL w s (pickN cs (coreTo w s cs i ++ restN cs.length (i + 1)))).length = (readL w s cs).length) : leftN w s cs (i + 1) = leftN w s cs i := by
  unfold leftN
  rw [coreTo, if_neg hr, restN_cons h]
  simp
theorem leftN_zero : pickN cs (leftN w s cs 0) = cs := by
  unfold leftN
  rw [coreTo, restN_zero]
  exact pickN_all
theorem leftN_zeroG {gs : List Value} (hg : gs.length = cs.length) : pickN gs (leftN w s cs 0) = gs := by
  unfold leftN
  rw [coreTo, restN_zero, ← hg]
  exact pickN_all
theorem leftN_range : leftN w s cs 0 = List.range cs.length := by
  unfold leftN
  rw [coreTo, restN_zero]; simp
theorem coreTo_yes (hr : (readL w s (pickN cs (coreTo w s cs i ++ restN cs.length (i + 1)))).length = (readL w s cs).length) : coreTo w s cs (i + 1) = coreTo w s cs i := by rw [coreTo, if_pos hr]
theorem coreTo_no (hr : ¬ (readL w s (pickN cs (coreTo w s cs i ++ restN cs.length (i + 1)))).length = (readL w s cs).length) : coreTo w s cs (i + 1) = coreTo w s cs i ++ [i] := by rw [coreTo, if_neg hr]
theorem leftN_end : leftN w s cs cs.length = coreTo w s cs cs.length := by unfold leftN; rw [restN_end]; simp
theorem leftN_filter (h : i < cs.length) : (leftN w s cs i).filter (fun k => decide (k ≠ i)) = coreTo w s cs i ++ restN cs.length (i + 1) := by
  unfold leftN
  rw [restN_cons h, List.filter_append, List.filter_cons]
  have f1 : (coreTo w s cs i).filter (fun k => decide (k ≠ i)) = coreTo w s cs i := by
    rw [List.filter_eq_self]
    intro a ha
    have := coreTo_lt w s cs i a ha
    simp; omega
  have f2 : (restN cs.length (i + 1)).filter (fun k => decide (k ≠ i)) = restN cs.length (i + 1) := by
    rw [List.filter_eq_self]
    intro a ha
    have := restN_mem ha
    simp; omega
  rw [f1, f2]
  simp
end

def prE (w s : Int) (cs : List Clue) : Int := if cluesE w s cs = 0 then (if (readL w s cs).length < 2 then 3 else 0) else cluesE w s cs
/-- Clues that are picked out of others, in a new row. -/
theorem ClS.pick {u : World} {v v' : Value} {cs : List Clue} {gs : List Value} (h : ClS u v cs gs) {ns : List Nat} (hn : ∀ k ∈ ns, k < cs.length) (hs : SlC u v' (pickN cs ns).length 7 (clFlat (pickN cs ns) (pickN gs ns))) : ClS u v' (pickN cs ns) (pickN gs ns) := by
  refine ⟨hs, by simp [pickN_len], fun i h0 h1 => ?_⟩
  rw [pickN_len] at h1
  have hlt : i.toNat < ns.length := by omega
  have hk := hn _ (List.getElem_mem hlt)
  have e1 : nth (pickN cs ns) i = nth cs ((ns[i.toNat] : Nat) : Int) := by simp [nth, List.getD, pickN, hlt]
  have e2 : nth (pickN gs ns) i = nth gs ((ns[i.toNat] : Nat) : Int) := by simp [nth, List.getD, pickN, hlt]
  rw [e1, e2]
  exact h.el _ (by omega) (by omega)
theorem era_pick {α : Type} [Inhabited α] (cs : List α) (i : Nat) : cs.eraseIdx i = pickN cs ((List.range cs.length).eraseIdx i) := by rw [pickN_era, pickN_all]
theorem range_era_lt {n i : Nat} : ∀ k ∈ (List.range n).eraseIdx i, k < n := fun k hk => by
  have := List.mem_of_mem_eraseIdx hk
  simpa using this
theorem ClS.era {u : World} {v v' : Value} {cs : List Clue} {gs : List Value} (h : ClS u v cs gs) {i : Nat} (hs : SlC u v' (cs.eraseIdx i).length 7 (clFlat (cs.eraseIdx i) (gs.eraseIdx i))) : ClS u v' (cs.eraseIdx i) (gs.eraseIdx i) := by
  have e2 : gs.eraseIdx i = pickN gs ((List.range cs.length).eraseIdx i) := by rw [← h.len]; exact era_pick gs i
  rw [era_pick cs i, e2] at hs ⊢
  exact h.pick range_era_lt hs
theorem pick_one {gs : List Value} {ns : List Nat} (hg : ∀ g ∈ gs, g.oneCell' = true) (hn : ∀ k ∈ ns, k < gs.length) : ∀ g ∈ pickN gs ns, g.oneCell' = true := fun g h => hg g (pickN_mem hn h)
section
variable {P : Program} {ro : Option Nat} {n0 : Nat} {w0 : World} {ds : List Deferred} {ops : Array Oper} {Q : Exit → Act → World → Prop} {L : List SA}
  {rest : List Oper} {l : List Value} {d : Option Tmp} {ty : TypeId} {ps : String} {af : Array Edge} {g : Option (Nat × Bool)} {C : World → Prop}
theorem WS.callS {β : Type} {f : Operand} {args : List Operand} {ts : Array TypeId} {fn : FuncId} {cap : List Value} {vs : List Value} {v : β → Value} {L' : β → List SA} {p : β → Prop} {i : Nat} {l' : β → List Value}
    (hf : evo l f = some (.func (.func fn) #[] cap.toArray)) (hv : evs l args = some vs) (he : Ent P fn)
    (hc : ∀ u, St n0 w0 L u → Calls P fn (vs ++ cap).toArray u (fun e u' => ∃ x, p x ∧ e = .returned (v x) ∧ St n0 w0 (L' x) u'))
    (hl : ∀ x, lset l i (v x) = some (l' x)) (k : ∀ x, p x → WS P ro n0 w0 ds ops Q (L' x) rest (l' x)) :
    WS P ro n0 w0 ds ops Q L (⟨some i, .call ⟨.value f, args.toArray, ts⟩, ty, ps, af, none⟩ :: rest) l := by
  intro u hu
  unfold wpListIn
  rw [if_pos (by simp [Region.wanted])]
  refine ⟨fun _ _ => trivial, ?_⟩
  rw [semAt_calm rfl, eval_ev]
  have hr : (execOp (ev l) ⟨some i, .call ⟨.value f, args.toArray, ts⟩, ty, ps, af, none⟩).run P u = .ok (.enter fn (vs ++ cap).toArray) u := by
    have h1 : ∀ (args : Array Value) (w : World), Sem.run P (callFunc fn args) w = .ok (.enter fn args) w := he
    replace hf := ev_of hf
    replace hv := evs_of hv
    subst hv
    simp [execOp, hf, resolve, invoke, Deferred.ofValue, h1]
  rw [hr]
  refine ⟨fun h => by simp [FW] at h, callsIn_FW ((hc u hu).mono ?_)⟩
  rintro e u' ⟨x, hp, rfl, hs⟩
  show wpListIn (FW ro) 0 P ops Q rest ((Act.mk l.toArray ds).put (some i) (v x)) u'
  rw [put_some, lset_of (hl x)]
  exact k x hp u' hs
theorem ev_nestT {x : Operand} {v : Value} {c b : Bool} (hg : c = true) (h : evo l x = some (cond (c && (b == true)) v undef)) : evo l x = some (cond b v undef) := by subst hg; cases b <;> exact h
theorem ev_nestF {x : Operand} {v : Value} {c b : Bool} (hg : c = true) (h : evo l x = some (cond (c && (b == false)) v undef)) : evo l x = some (cond (!b) v undef) := by subst hg; cases b <;> exact h
theorem WS.appendNil {T e : TypeId} {k by_ i n : Nat} {x y : Operand} {z : Value} {news zc : List Value} (hT : sl P T = some (e, k, by_)) (hz : zv P e = some zc) (hzl : zc.length = k) (hs0 : 0 < k)
    (hx : evo l x = some (.slice none 0 0)) (hy : evo l y = some z) (hnews : ∀ u, St n0 w0 L u → SlC u z n k news) (h1 : ∀ a ∈ news, a.oneCell' = true)
    (hm : n ≤ 9223372036854775807) (hb : n * by_ ≤ 140737488355328)
    {l' : Value → List Value} (hl : ∀ v, lset l i v = some (l' v)) (kk : ∀ v', v'.oneCell' = true → WS P ro n0 w0 ds ops Q (osl e k v' n news :: L) rest (l' v')) :
    WS P ro n0 w0 ds ops Q L (⟨some i, .call ⟨.builtin .append, #[x, y], #[T, T]⟩, ty, ps, af, none⟩ :: rest) l := by
  refine WS.weak (fun _ hu => hu.osl0 (e := e) (size := k)) ?_
  refine WS.append (j := 0) (n := 0) (m := n) (xs := []) hT hz hzl hs0 hx rfl hy (fun u hu => hnews u hu.tail) h1 (by omega) (by rw [Nat.zero_add]; exact hb) hl (fun _ => rfl) fun v' => ?_
  rw [Nat.zero_add, List.nil_append]
  exact WS.oc (j := 0) rfl (kk v')
theorem clFlat_one1 (c : Clue) (g : Value) : clFlat [c] [g] = clCells c g := by simp [clFlat]
theorem clFlat_snoc {cs : List Clue} {gs : List Value} (h : gs.length = cs.length) (c : Clue) (g : Value) : clFlat cs gs ++ clCells c g = clFlat (cs ++ [c]) (gs ++ [g]) := by
  rw [← clFlat_one1, clFlat_app h]
theorem WS.buildC1 {T e : TypeId} {by_ i : Nat} {x : Operand} {c : Clue} {gv : Value} {zc : List Value} (hT : sl P T = some (e, 7, by_)) (hz : zv P e = some zc) (hx : evo l x = some (.agg (clCells c gv).toArray))
    {l' : Value → List Value} (hl : ∀ v, lset l i v = some (l' v)) (kk : ∀ v, WS P ro n0 w0 ds ops Q (osl e 7 v 1 (clCells c gv) :: L) rest (l' v)) :
    WS P ro n0 w0 ds ops Q L (⟨some i, .buildSlice T 1 #[(0, x)], ty, ps, af, none⟩ :: rest) l := by
  refine WS.buildSliceK (pl := [(0, x)]) (rows := [clCells c gv]) (k := 7) hT hz (by simp [ev_of hx]) rfl (by decide) (by decide) (by simp [clCells]) hl fun v => ?_
  have := kk v
  simpa using this
theorem WS.appendCl {T e : TypeId} {by_ i j jz : Nat} {x y : Operand} {v z gv : Value} {c : Clue} {cs : List Clue} {gs zc : List Value} (hT : sl P T = some (e, 7, by_)) (hz : zv P e = some zc) (hzl : zc.length = 7)
    (hx : evo l x = some v) (hj : L[j]? = some (osl e 7 v cs.length (clFlat cs gs))) (hg : gs.length = cs.length) (hy : evo l y = some z) (hjz : L[jz]? = some (osl e 7 z 1 (clCells c gv))) (h1 : gv.oneCell' = true)
    (hm : cs.length + 1 ≤ 9223372036854775807) (hb : (cs.length + 1) * by_ ≤ 140737488355328)
    {l' : Value → List Value} (hl : ∀ v, lset l i v = some (l' v)) {L' : Value → List SA} (hL : ∀ v', lset L j (osl e 7 v' (cs ++ [c]).length (clFlat (cs ++ [c]) (gs ++ [gv]))) = some (L' v')) (k : ∀ v', v'.oneCell' = true → WS P ro n0 w0 ds ops Q (L' v') rest (l' v')) :
    WS P ro n0 w0 ds ops Q L (⟨some i, .call ⟨.builtin .append, #[x, y], #[T, T]⟩, ty, ps, af, none⟩ :: rest) l := by
  refine WS.append hT hz hzl (by decide) hx hj hy (m := 1) (fun u hu => osl_SlC hu hjz) (fun a ha => ?_) hm hb hl (L' := L') (fun v' => ?_) fun v' => ?_
  · simp only [clCells, List.mem_cons, List.not_mem_nil, or_false] at ha
    rcases ha with rfl | rfl | rfl | rfl | rfl | rfl | rfl <;> first | rfl | exact h1
  · rw [← hL v', clFlat_snoc hg]; simp
  · have hjl := (List.getElem?_eq_some_iff.1 hj).1
    have h2 := (lset_of (hL v')).symm
    refine WS.oc (j := j) (v := v') (e := e) (k := 7) (n := (cs ++ [c]).length) (xs := clFlat (cs ++ [c]) (gs ++ [gv])) (by rw [h2, List.getElem?_set_self hjl]) (k v')
theorem fil_snocI {p : Nat → Bool} (ks : List Nat) {i : Int} (h0 : 0 ≤ i) (h1 : i < ks.length) :
    ((ks.take (i + 1).toNat).filter p).map Int.ofNat = ((ks.take i.toNat).filter p).map Int.ofNat ++ (if p (ks.getD i.toNat 0) = true then [nth (ks.map Int.ofNat) i] else []) := by
  have e : (i + 1).toNat = i.toNat + 1 := by omega
  have hlt : i.toNat < ks.length := by omega
  have e2 : ks.getD i.toNat 0 = ks[i.toNat] := by simp [List.getD, hlt]
  have e3 : nth (ks.map Int.ofNat) i = ((ks[i.toNat] : Nat) : Int) := by simp [nth, List.getD, hlt]
  rw [e, List.take_succ_eq_append_getElem hlt, List.filter_append, List.map_append, e2, e3]
  by_cases hp : p ks[i.toNat] = true
  · simp [List.filter_cons, hp]
  · simp [List.filter_cons, hp]
theorem retP {v1 v2 t : Value} {A B : List Int} {f : Value × Value → Value} (hp : ∀ S u, Star L S u → SlI u v1 A ∧ SlI u v2 B) (hf : t = f (v1, v2)) :
    ∀ u, St w0.heap.size w0 L u → ∃ x : Value × Value, (∃ u0, SlI u0 x.1 A ∧ SlI u0 x.2 B) ∧ RetF w0 (f x) (roS fun u => SlI u x.1 A ∧ SlI u x.2 B) (.returned t) u := by
  subst hf
  exact fun u hu => ⟨(v1, v2), ⟨u, hp _ _ hu.star⟩, retR hp u hu⟩
theorem roPl {v1 v2 : Value} {A B : List Int} {j : Nat} {u : World} (hj : L[j]? = some (roS fun u => SlI u v1 A ∧ SlI u v2 B)) (h : St n0 w0 L u) : SlI u v1 A := (h.ro hj : SlI u v1 A ∧ SlI u v2 B).1
theorem roPr {v1 v2 : Value} {A B : List Int} {j : Nat} {u : World} (hj : L[j]? = some (roS fun u => SlI u v1 A ∧ SlI u v2 B)) (h : St n0 w0 L u) : SlI u v2 B := (h.ro hj : SlI u v1 A ∧ SlI u v2 B).2
theorem SlI.none (u : World) : SlI u (.slice none 0 0) [] := ⟨by simp, Option.none, 0, rfl, by simp, Or.inl rfl⟩
theorem ofNat_at (ks : List Nat) {i : Int} (h0 : 0 ≤ i) (h1 : i < ks.length) : nth (ks.map Int.ofNat) i = ((ks.getD i.toNat 0 : Nat) : Int) := by
  have : i.toNat < ks.length := by omega
  simp [nth, List.getD, this]
theorem pick_snoc {α : Type} [Inhabited α] (cs : List α) (ks : List Nat) {i : Int} (h0 : 0 ≤ i) (h1 : i < ks.length) : pickN cs (ks.take (i + 1).toNat) = pickN cs (ks.take i.toNat) ++ [nth cs (nth (ks.map Int.ofNat) i)] := by
  have e : (i + 1).toNat = i.toNat + 1 := by omega
  have hlt : i.toNat < ks.length := by omega
  rw [e, List.take_succ_eq_append_getElem hlt, pickN_app, ofNat_at ks h0 h1]
  congr 1
  simp [pickN, nth, List.getD, hlt]
end
end Go.Proofs.Ytldagbcceefcdaa
