/- More operations: structs that are built and stored whole, parts of slices. No program in sight. -/
import Derived.Test.YtldagbcceefcdaaData
namespace Go.Proofs.Ytldagbcceefcdaa
set_option linter.unusedVariables false
set_option linter.unusedSimpArgs false
open Go.RowKit

/-- Where a struct's fields lie and of how many cells each is. -/
def plc (P : Program) (T : TypeId) : Option (List (Nat × Nat)) :=
  match P.underlying T with
  | some (.struct fs) => fs.toList.mapM fun f => (P.info? f.type).map fun i => (f.offset, i.size)
  | _ => none
def bld (pls : List (Nat × Nat)) : List Value → List (Nat × Value) → Option (List Value)
  | z, [] => some z
  | z, (i, v) :: r => match pls[i]? with
    | some (o, 1) => if o < z.length then (match lset z o v with | some z' => bld pls z' r | none => none) else none
    | _ => none
def evp (l : List Value) : List (Nat × Operand) → Option (List (Nat × Value))
  | [] => some []
  | (i, x) :: r => match evo l x, evp l r with
    | some v, some vs => some ((i, v) :: vs)
    | _, _ => none
theorem evp_of {l : List Value} : ∀ {xs : List (Nat × Operand)} {vs : List (Nat × Value)}, evp l xs = some vs → xs.map (fun (i, x) => (i, ev l x)) = vs
  | [], vs, h => by simp [evp] at h; simp [h]
  | (i, x) :: xs, vs, h => by
    unfold evp at h
    split at h
    · rename_i v vs' h1 h2
      simp at h
      subst h
      have := evp_of h2
      simp at this
      simp [ev_of h1, this]
    · simp at h
theorem fill_bld (pls : List (Nat × Nat)) : ∀ (ps : List (Nat × Value)) (z cs : List Value), bld pls z ps = some cs → (∀ p ∈ ps, p.2.oneCell' = true) → Instr.fill (pls.toArray[·]?) z.toArray ps = some cs.toArray
  | [], z, cs, h, _ => by simp [bld] at h; subst h; simp [Instr.fill]
  | (i, v) :: ps, z, cs, h, h1 => by
    have hv : v.cells = #[v] := by have := h1 (i, v) (by simp); cases v <;> simp_all [Value.cells, Value.oneCell']
    unfold bld at h
    split at h
    · rename_i o ho
      split at h
      · rename_i hlt
        split at h
        · rename_i z' hz
          have := fill_bld pls ps z' cs h (fun p hp => h1 p (by simp [hp]))
          rw [← lset_of hz] at this
          simp only [Instr.fill, hv]
          simp [ho]
          exact ⟨by omega, by simpa using this⟩
        · simp at h
      · simp at h
    · simp at h

theorem mapM_run {P : Program} {w : World} : ∀ (fs : List Field) (r : List (Nat × Nat)), fs.mapM (fun f => (P.info? f.type).map fun i => (f.offset, i.size)) = some r →
    (fs.mapM fun f => do pure (f.offset, ← sizeOf f.type) : Sem (List (Nat × Nat))).run P w = .ok r w
  | [], r, h => by simp at h; subst h; simp
  | f :: fs, r, h => by
    simp only [List.mapM_cons] at h
    cases hi : P.info? f.type with
    | none => simp [hi] at h
    | some i =>
      cases hr : fs.mapM (fun f => (P.info? f.type).map fun i => (f.offset, i.size)) with
      | none => simp [hi, hr] at h
      | some r' =>
        simp [hi, hr] at h
        subst h
        have := mapM_run (w := w) fs r' hr
        simp only [List.mapM_cons]
        simp [sizeOf, typeInfo, hi] at this ⊢
        simp [this]

section
variable {P : Program} {ro : Option Nat} {n0 : Nat} {w0 : World} {ds : List Deferred} {ops : Array Oper} {Q : Exit → Act → World → Prop} {L : List SA}
  {rest : List Oper} {l : List Value} {d : Option Tmp} {ty : TypeId} {ps : String} {af : Array Edge} {g : Option (Nat × Bool)} {C : World → Prop}

theorem det_build1 {T : TypeId} {pl : List (Nat × Operand)} {pls : List (Nat × Nat)} {z cs : List Value} {parts : List (Nat × Value)} (hp : plc P T = some pls) (hz : zv P T = some z) (hv : evp l pl = some parts)
    (hb : bld pls z parts = some cs) (h1 : ∀ p ∈ parts, p.2.oneCell' = true) : Det P C ⟨d, .build T pl.toArray, ty, ps, af, g⟩ l (.agg cs.toArray) := fun u _ => by
  have hf := fill_bld pls parts z cs hb h1
  replace hv := evp_of hv
  subst hv
  unfold plc at hp
  split at hp
  · rename_i fs hu
    unfold zv at hz
    cases hi : P.info? T with
    | none => simp [hi] at hz
    | some inf =>
      cases hz2 : inf.zero with
      | none => simp [hi, hz2] at hz
      | some zz =>
        simp [hi, hz2] at hz
        have hm := mapM_run (P := P) (w := u) fs.toList pls hp
        have hm2 : (fs.mapM fun f => do pure (f.offset, ← sizeOf f.type) : Sem (Array (Nat × Nat))).run P u = .ok pls.toArray u := by
          rw [Array.mapM_eq_mapM_toList]
          simp at hm
          simp [hm]
        have hzc : zz.cells = z.toArray := by rw [← hz]
        simp [execOp, DetUpon, Instr.build, zeroValue, typeInfo, hi, hz2, run_underlying hu]
        simp at hm2
        simp [hm2, hzc]
        simp at hf
        simp [hf]
  · simp at hp

/-- A variable is stored whole. -/
theorem WS.storeW {T : TypeId} {x y : Operand} {b j : Nat} {c vs : List Value} {e : TypeId} (hx : evo l x = some (.pointer (some ⟨b, 0, none⟩))) (hj : L[j]? = some (blk b c e)) (hy : evo l y = some (.agg vs.toArray)) (hn : vs.length = c.length)
    (h1 : ∀ v ∈ vs, v.oneCell' = true) {n : Nat} (hT : tk P T = some (true, n)) (hnn : vs.length = n) {L' : List SA} (hL : lset L j (blk b vs e) = some L') (k : WS P ro n0 w0 ds ops Q L' rest l) :
    WS P ro n0 w0 ds ops Q L (⟨none, .store T x y, ty, ps, af, none⟩ :: rest) l := by
  subst hnn
  rw [← lset_of hL] at k
  replace hx := ev_of hx
  replace hy := ev_of hy
  refine WS.world_skip rfl rfl rfl fun u hu => ?_
  obtain ⟨S, hS, ⟨hS1, hb⟩, hupd⟩ := hu.upd hj
  have hst := run_storeCells_at P b 0 e vs 0 c.toArray u hb (by simp [hn]) h1
  refine ⟨u.setRow b vs.toArray, ?_, ?_⟩
  · simp only [Nat.add_zero] at hst
    have e2 : (c.toArray.toList.take 0 ++ vs ++ c.toArray.toList.drop (0 + vs.length)).toArray = vs.toArray := by simp [hn]
    rw [e2] at hst
    simp [execOp, hx, hy, Instr.storeAt, Instr.sureAddr, storeVar, (tk_spec hT u).2, Value.cells, hst]
  · refine k _ (hupd _ _ (fun k => k = b) ⟨rfl, rfl, rfl, by simp, fun k hk => setRow_other u b k _ (fun e => by have := hS b ((hS1 b).2 rfl); omega)⟩ (fun k hk o' hcell => ?_) ⟨fun k => Iff.rfl, ?_⟩ (fun k hk => by subst hk; exact ⟨hS _ ((hS1 _).2 rfl), .inl ((hS1 _).2 rfl)⟩))
    · rw [setRow_other u b k _ (fun e => hk.2.2 ((hS1 k).2 e))]; exact hcell
    · exact setRow_heap u b c.toArray vs.toArray e _ hb

/-- A part of a slice of numbers. -/
def subs : Value → Nat → Nat → Value
  | .slice p _ c, lo, hi => .slice (if c = lo then p else p.map (·.add lo)) (hi - lo) (c - lo)
  | v, _, _ => v
theorem SlI.sub {u : World} {v : Value} {xs : List Int} (h : SlI u v xs) {lo hi : Nat} (h0 : lo ≤ hi) (h1 : hi ≤ xs.length) : SlI u (subs v lo hi) ((xs.drop lo).take (hi - lo)) := by
  obtain ⟨hl, p, cap, rfl, hc, hp⟩ := h
  have e : ((xs.drop lo).take (hi - lo)).length = hi - lo := by simp; omega
  refine ⟨by simp, _, _, by rw [e]; rfl, by omega, ?_⟩
  rcases hp with hn | ⟨b, o, rfl, hcell⟩
  · left; omega
  · by_cases hcl : cap = lo
    · right
      refine ⟨b, o, by rw [if_pos hcl], fun m x hm => ?_⟩
      exfalso
      have : ((xs.drop lo).take (hi - lo)).length = 0 := by omega
      rw [List.length_eq_zero_iff.1 this] at hm
      simp at hm
    · right
      refine ⟨b, o + lo, by rw [if_neg hcl]; simp [addr_add], fun m x hm => ?_⟩
      rw [List.map_take, List.map_drop, List.getElem?_take] at hm
      split at hm
      · rw [List.getElem?_drop] at hm
        rw [Nat.add_assoc]
        exact hcell (lo + m) x hm
      · simp at hm
theorem det_subs {T e : TypeId} {by_ : Nat} {x y z : Operand} {v : Value} {xs : List Int} {lo hi : Int} {w : World} (hT : sl P T = some (e, 1, by_)) (hx : evo l x = some v) (hy : evo l y = some (.int .i64 lo)) (hz : evo l z = some (.int .i64 hi))
    (hs : SlI w v xs) (h0 : 0 ≤ lo) (h1 : lo ≤ hi) (h2 : hi ≤ xs.length) : Det P C ⟨d, .slice T x (some y) (some z) none, ty, ps, af, g⟩ l (subs v lo.toNat hi.toNat) := fun u _ => by
  obtain ⟨inf, hu, hi', hk, _⟩ := sl_spec hT
  obtain ⟨_, p, cap, rfl, hc, _⟩ := hs
  replace hx := ev_of hx
  replace hy := ev_of hy
  replace hz := ev_of hz
  have e1 : (0 ≤ hi ∧ hi ≤ (cap : Int)) := by omega
  have e2 : (0 ≤ lo ∧ lo ≤ ((hi.toNat : Nat) : Int)) := by omega
  have e3 : lo ≤ max hi 0 := by omega
  simp [execOp, DetUpon, hx, hy, hz, Instr.sliceAt, Instr.slice, Instr.sliceBounds, Instr.sliceBound, asIntOf, run_underlying hu, e1, e2, e3, sizeOf, typeInfo, hi', hk, subs]
end

end Go.Proofs.Ytldagbcceefcdaa
