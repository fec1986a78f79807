/- A row of the call's own opened: append within it, clear; slices of clues that grow. No program in sight. -/
import Derived.Test.YtldagbcceefcdaaNext
namespace Go.Proofs.Ytldagbcceefcdaa
set_option linter.unusedVariables false
set_option linter.unusedSimpArgs false
open Go.RowKit Go.Proofs

section
variable {P : Program} {ro : Option Nat} {n0 : Nat} {w0 : World} {ds : List Deferred} {ops : Array Oper} {Q : Exit → Act → World → Prop} {L : List SA}
  {rest : List Oper} {l : List Value} {d : Option Tmp} {ty : TypeId} {ps : String} {af : Array Edge} {g : Option (Nat × Bool)} {C : World → Prop} {u : World}
theorem St.openRow {e : TypeId} {k n : Nat} {v : Value} {xs : List Value} (h : St n0 w0 (osl e k v n xs :: L) u) (hn : 0 < n) :
    ∃ b cap cur, v = .slice (some ⟨b, 0, none⟩) n cap ∧ n ≤ cap ∧ cap ≤ 9223372036854775807 ∧ cur.length = cap * k ∧ cur.take (n * k) = xs ∧ St n0 w0 (Go.Proofs.Ytldagbcceefcdaa.blk b cur e :: L) u := by
  obtain ⟨h1, h2, T, h3, ⟨hS, hl, h4⟩, h5⟩ := h
  rcases h4 with ⟨_, rfl⟩ | ⟨b, cap, cur, rfl, _, hg, hc, hm, hs, ht⟩
  · omega
  · refine ⟨b, cap, cur.toList, rfl, hc, hm, by simpa using hs, ht, h1, h2, T, h3, ⟨fun k => ?_, by simpa using hg⟩, h5⟩
    rw [hS k]
    simp [Value.ownBlock, eq_comm]
theorem St.closeRow {e : TypeId} {k n cap b : Nat} {cur xs : List Value} (h : St n0 w0 (Go.Proofs.Ytldagbcceefcdaa.blk b cur e :: L) u) (hc : n ≤ cap) (hm : cap ≤ 9223372036854775807) (hs : cur.length = cap * k) (hx : cur.take (n * k) = xs) :
    St n0 w0 (osl e k (.slice (some ⟨b, 0, none⟩) n cap) n xs :: L) u := by
  obtain ⟨h1, h2, T, h3, ⟨hS, hg⟩, h5⟩ := h
  refine ⟨h1, h2, T, h3, ⟨fun k => ?_, ?_, .inr ⟨b, cap, cur.toArray, rfl, Nat.zero_le _, hg, hc, hm, by simpa using hs, by simpa using hx⟩⟩, h5⟩
  · rw [hS k]; simp [Value.ownBlock, eq_comm]
  · rw [← hx, List.length_take, hs]
    exact Nat.min_eq_left (Nat.mul_le_mul_right _ hc)
theorem St.setRow {b j : Nat} {c c' : List Value} {e : TypeId} (h : St n0 w0 L u) (hj : L[j]? = some (Go.Proofs.Ytldagbcceefcdaa.blk b c e)) : St n0 w0 (L.set j (Go.Proofs.Ytldagbcceefcdaa.blk b c' e)) (u.setRow b c'.toArray) := by
  obtain ⟨S, hS, ⟨hS1, hb⟩, hupd⟩ := h.upd hj
  refine hupd _ _ (fun k => k = b) ⟨rfl, rfl, rfl, by simp, fun k hk => setRow_other u b k _ (fun e => by have := hS b ((hS1 b).2 rfl); omega)⟩ (fun k hk o' hcell => ?_) ⟨fun k => Iff.rfl, ?_⟩ (fun k hk => by subst hk; exact ⟨hS _ ((hS1 _).2 rfl), .inl ((hS1 _).2 rfl)⟩)
  · rw [setRow_other u b k _ (fun e => hk.2.2 ((hS1 k).2 e))]; exact hcell
  · exact setRow_heap u b c.toArray c'.toArray e _ hb
/-- append within a row of the call's own: what is appended is read in the row itself. -/
theorem WS.blkAppend {T e : TypeId} {k by_ i j b n m cap off cap' : Nat} {x y : Operand} {vx vy : Value} {c news : List Value} (hT : sl P T = some (e, k, by_)) (hx : evo l x = some vx) (hvx : vx = .slice (some ⟨b, 0, none⟩) n cap)
    (hy : evo l y = some vy) (hvy : vy = .slice (some ⟨b, off, none⟩) m cap') (hj : L[j]? = some (blk b c e)) (hnews : (c.drop off).take (m * k) = news) (hlen : news.length = m * k) (h1 : ∀ a ∈ news, a.oneCell' = true) (hroom : n + m ≤ cap) (hfit : n * k + m * k ≤ c.length)
    {l' : List Value} (hl : lset l i (.slice (some ⟨b, 0, none⟩) (n + m) cap) = some l') {L' : List SA} (hL : lset L j (blk b (c.take (n * k) ++ news ++ c.drop (n * k + m * k)) e) = some L') (kk : WS P ro n0 w0 ds ops Q L' rest l') :
    WS P ro n0 w0 ds ops Q L (⟨some i, .call ⟨.builtin .append, #[x, y], #[T, T]⟩, ty, ps, af, none⟩ :: rest) l := by
  subst hvx; subst hvy
  replace hx := ev_of hx
  replace hy := ev_of hy
  refine WS.world rfl rfl fun u hu => ?_
  obtain ⟨inf, hu1, hi, hs, hby⟩ := sl_spec hT
  obtain ⟨_, hb⟩ := hu.blk hj
  have hr := run_append_room (P := P) u T ty e inf hu1 hi b n cap c.toArray hb ⟨b, off, none⟩ m cap' news (by rw [hs]; exact hlen) (fun q z hz => by
    rw [addr_add, blk_cell hb]
    rw [← hnews, List.getElem?_take] at hz
    split at hz
    · rw [List.getElem?_drop] at hz; exact hz
    · simp at hz) h1 hroom (by rw [hs, hlen]; simpa using hfit)
  refine ⟨_, _, by simp [execOp, resolve, invoke, builtin, hx, hy, hr]; exact ⟨rfl, rfl⟩, ?_⟩
  rw [put_some, lset_of hl]
  refine kk _ ?_
  rw [← lset_of hL]
  have h2 := hu.setRow (c' := c.take (n * k) ++ news ++ c.drop (n * k + m * k)) hj
  rw [hs, hlen]
  simpa using h2
theorem WS.clearBlk {T e : TypeId} {k by_ j b m off cap' : Nat} {x : Operand} {c zc : List Value} (hT : sl P T = some (e, k, by_)) (hz : zv P e = some zc) (hzl : zc.length = k) (hx : evo l x = some (.slice (some ⟨b, off, none⟩) m cap')) (hm : m = 1)
    (hj : L[j]? = some (blk b c e)) (h1 : ∀ a ∈ zc, a.oneCell' = true) (hfit : off + k ≤ c.length)
    {L' : List SA} (hL : lset L j (blk b (c.take off ++ zc ++ c.drop (off + k)) e) = some L') (kk : WS P ro n0 w0 ds ops Q L' rest l) :
    WS P ro n0 w0 ds ops Q L (⟨none, .call ⟨.builtin .clear, #[x], #[T]⟩, ty, ps, af, none⟩ :: rest) l := by
  subst hm
  replace hx := ev_of hx
  refine WS.world rfl rfl fun u hu => ?_
  obtain ⟨inf, hu1, hi, hs, hby⟩ := sl_spec hT
  unfold zv at hz
  rw [hi] at hz
  cases hz2 : inf.zero with
  | none => simp [hz2] at hz
  | some zz =>
    simp [hz2] at hz
    obtain ⟨_, hb⟩ := hu.blk hj
    have hzc : (Builtin.zeroCells zz.cells 1).toList = zc := by
      have : (Builtin.zeroCells zz.cells 1).toList = zz.cells.toList := by
        apply List.ext_getElem
        · simp [Builtin.zeroCells]
        · intro q h1 h2
          have hq : q < zz.cells.size := by simpa using h2
          simp [Builtin.zeroCells, Nat.mod_eq_of_lt hq, hq]
      rw [this]; exact hz
    have hst := run_storeCells_at P b off e zc 0 c.toArray u hb (by simp [hzl]; exact hfit) h1
    simp only [Nat.add_zero] at hst
    refine ⟨_, _, by simp [execOp, resolve, invoke, builtin, hx, Builtin.clear_, run_underlying hu1, zeroValue, typeInfo, hi, hz2, hzc, hst]; exact ⟨rfl, rfl⟩, ?_⟩
    rw [put_none]
    refine kk _ ?_
    rw [← lset_of hL]
    have h2 := hu.setRow (c' := c.take off ++ zc ++ c.drop (off + k)) hj
    rw [hzl]
    simpa using h2
theorem det_slCap {T e : TypeId} {k by_ b m cap : Nat} {x y z : Operand} {lo hi : Int} (hT : sl P T = some (e, k, by_)) (hx : evo l x = some (.slice (some ⟨b, 0, none⟩) m cap)) (hy : evo l y = some (.int .i64 lo)) (hz : evo l z = some (.int .i64 hi))
    (h0 : 0 ≤ lo) (h1 : lo ≤ hi) (h2 : hi ≤ cap) (h3 : lo < cap) : Det P C ⟨d, .slice T x (some y) (some z) none, ty, ps, af, g⟩ l (.slice (some ⟨b, lo.toNat * k, none⟩) (hi.toNat - lo.toNat) (cap - lo.toNat)) := fun u _ => by
  obtain ⟨inf, hu, hi', hk, _⟩ := sl_spec hT
  replace hx := ev_of hx
  replace hy := ev_of hy
  replace hz := ev_of hz
  have e1 : (0 ≤ hi ∧ hi ≤ (cap : Int)) := by omega
  have e2 : (0 ≤ lo ∧ lo ≤ ((hi.toNat : Nat) : Int)) := by omega
  have e3 : lo ≤ max hi 0 := by omega
  have e4 : ¬ cap = lo.toNat := by omega
  simp [execOp, DetUpon, hx, hy, hz, Instr.sliceAt, Instr.slice, Instr.sliceBounds, Instr.sliceBound, asIntOf, run_underlying hu, e1, e2, e3, e4, sizeOf, typeInfo, hi', hk, addr_add]
theorem WS.build0 {T e : TypeId} {k by_ i : Nat} {zc : List Value} (hT : sl P T = some (e, k, by_)) (hz : zv P e = some zc)
    {l' : Value → List Value} (hl : ∀ v, lset l i v = some (l' v)) (kk : ∀ v, WS P ro n0 w0 ds ops Q (osl e k v 0 [] :: L) rest (l' v)) :
    WS P ro n0 w0 ds ops Q L (⟨some i, .buildSlice T 0 #[], ty, ps, af, none⟩ :: rest) l := by
  refine WS.world rfl rfl fun u hu => ?_
  obtain ⟨inf, hu1, hi, hs, hby⟩ := sl_spec hT
  unfold zv at hz
  rw [hi] at hz
  cases hz2 : inf.zero with
  | none => simp [hz2] at hz
  | some zz =>
    refine ⟨.slice (some ⟨u.heap.size, 0, none⟩) 0 0, u.alloc (.cells #[] e), ?_, ?_⟩
    · simp [execOp, Instr.buildSlice, run_underlying hu1, sizeOf, typeInfo, hi, hs, newRow, Instr.fill, zeroValue, hz2]
      congr 2
      apply Array.ext'
      simp
    · rw [put_some, lset_of (hl _)]
      refine kk _ _ (hu.cons (T := fun k => k = u.heap.size) ((Below.refl _ u).alloc (Nat.le_refl _) _) ⟨?_, by simp, .inr ⟨u.heap.size, 0, #[], rfl, Nat.zero_le _, World.alloc_heap_new u _, Nat.le_refl _, ?_, ?_, ?_⟩⟩ (fun k hk => by omega))
      · intro k; simp [Value.ownBlock]; exact eq_comm
      · simp only [maxLen]; omega
      · simp
      · simp
/-- Clues are cells of one cell each. -/
theorem clFlat_one {cs : List Clue} {gs : List Value} (hg : ∀ g ∈ gs, g.oneCell' = true) : ∀ a ∈ clFlat cs gs, a.oneCell' = true := by
  intro a ha
  unfold clFlat at ha
  rw [List.mem_flatten] at ha
  obtain ⟨r, hr, ha⟩ := ha
  obtain ⟨q, hq, rfl⟩ := List.getElem_of_mem hr
  simp only [List.getElem_zipWith, clCells, List.mem_cons, List.not_mem_nil, or_false] at ha
  have hq2 : q < gs.length := by simp at hq; omega
  rcases ha with rfl | rfl | rfl | rfl | rfl | rfl | rfl <;> first | rfl | exact hg _ (List.getElem_mem hq2)
theorem ClS.one {w : World} {v : Value} {cs : List Clue} {gs : List Value} (h : ClS w v cs gs) : ∀ g ∈ gs, g.oneCell' = true := by
  intro g hg
  obtain ⟨i, h0, h1, rfl⟩ := mem_nth hg
  obtain ⟨_, p, cap, h2, _⟩ := h.el i h0 (by have := h.len; omega)
  rw [h2]; rfl
theorem clFlat_len {cs : List Clue} {gs : List Value} (h : gs.length = cs.length) : (clFlat cs gs).length = cs.length * 7 := by
  unfold clFlat
  rw [flat_len 7 _ (by intro x hx; obtain ⟨n, hn, rfl⟩ := List.getElem_of_mem hx; simp [clCells])]
  simp [h]
theorem clFlat_app {cs cs' : List Clue} {gs gs' : List Value} (h : gs.length = cs.length) : clFlat cs gs ++ clFlat cs' gs' = clFlat (cs ++ cs') (gs ++ gs') := by
  unfold clFlat
  rw [List.zipWith_append h.symm, List.flatten_append]
theorem clFlat_take (cs : List Clue) (gs : List Value) (m : Nat) : (clFlat cs gs).take (m * 7) = clFlat (cs.take m) (gs.take m) := by
  have := clFlat_dt (cs := cs) (gs := gs) 0 m
  simpa using this
theorem clFlat_drop {cs : List Clue} {gs : List Value} (h : gs.length = cs.length) (lo : Nat) : (clFlat cs gs).drop (lo * 7) = clFlat (cs.drop lo) (gs.drop lo) := by
  have h1 := clFlat_dt (cs := cs) (gs := gs) lo cs.length
  rw [List.take_of_length_le (by rw [List.length_drop, clFlat_len h]; omega)] at h1
  rw [h1, List.take_of_length_le (by simp), List.take_of_length_le (by simp; omega)]
theorem clFlat_era {cs : List Clue} {gs : List Value} (h : gs.length = cs.length) (i : Nat) : (clFlat cs gs).take (i * 7) ++ (clFlat cs gs).drop ((i + 1) * 7) = clFlat (cs.eraseIdx i) (gs.eraseIdx i) := by
  rw [clFlat_take, clFlat_drop h, clFlat_app (by simp [h]), List.eraseIdx_eq_take_drop_succ, List.eraseIdx_eq_take_drop_succ]
end
end Go.Proofs.Ytldagbcceefcdaa
