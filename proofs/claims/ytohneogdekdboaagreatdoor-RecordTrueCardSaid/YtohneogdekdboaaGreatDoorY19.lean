/- Merged texts of this proof (walks and plain laws), printed by a program of the prover. -/
import Derived.Test.YtohneogdekdboaaGreatDoorY3
import Derived.Test.YtohneogdekdboaaGreatDoorY4
import Derived.Test.YtohneogdekdboaaGreatDoorY7
import Derived.Test.YtohneogdekdboaaGreatDoorY9
import Derived.Test.YtohneogdekdboaaGreatDoorY11
import Derived.Test.YtohneogdekdboaaGreatDoorZa
import Derived.RangeFuncLeaves
import Derived.RangeFuncBound
import Derived.Test.YtohneogdekdboaaGreatDoorZb
import Derived.Test.YtohneogdekdboaaGreatDoorZp
import Derived.Test.YtohneogdekdboaaGreatDoorZg
import Derived.Test.YtohneogdekdboaaGreatDoorZz
import Derived.Test.YtohneogdekdboaaGreatDoorXa
namespace Go.Proofs.YtohneogdekdboaaGreatDoor
set_option linter.unusedVariables false
set_option linter.unusedSimpArgs false
open Go.RowKit Go.Proofs
section
variable {P : Program} {ro : Option Nat} {n0 : Nat} {w0 : World} {ds : List Deferred} {ops : Array Oper} {Q : Exit → Act → World → Prop} {L : List SA}
 {rest : List Oper} {l : List Value} {d : Option Tmp} {ty : TypeId} {ps : String} {af : Array Edge} {g : Option (Nat × Bool)} {C : World → Prop}
theorem Jxx {T e e' : TypeId} {a b j : Nat} {x : Operand} {v : Value} {xs : List Int} (hT : sl P T = some (e, a, b)) (hx : evo l x = some v) (hj : L[j]? = some (oints e' v xs)) :
  Det P (St n0 w0 L) ⟨d, .call ⟨.builtin .len, #[x], #[T]⟩, ty, ps, af, g⟩ l (.int .i64 xs.length) := Jj0 hT hx hj
end
end Go.Proofs.YtohneogdekdboaaGreatDoor
namespace Go.Proofs.YtohneogdekdboaaGreatDoor
set_option linter.unusedVariables false
set_option linter.unusedSimpArgs false
open Go.RowKit
section
variable {n0 : Nat} {w0 : World} {L : List SA} {α : Type}
theorem Jn9 {P : Program} {l : List Value} {d : Option Tmp} {ty : TypeId} {ps : String} {af : Array Edge} {g : Option (Nat × Bool)} [Inhabited α] {C : Cel α} {T : TypeId} {z jj : Nat} (k j : Nat) {x : Operand} {y : Value} {s : Sl α} {i : Int}
  (hj' : L[jj]? = some (roT C s)) (hx : evo l x = some (.pointer (some ⟨slb s.v, slo s.v + i.toNat * k + j, none⟩))) (hk : C.k = k) (h : 0 ≤ i ∧ i < s.l.length) (hj : j < k)
  (hc : (C.cells (nth s.l i))[j]? = some y) (hT : tk P T = some (false, z)) : Det P (St n0 w0 L) ⟨d, .load T x, ty, ps, af, g⟩ l y := Jsm hj' (by rw [hx, sla, Nat.add_assoc]) rfl hk h hj hc hT
end
section
variable {P : Program} [Fx P] {C : World → Prop} {l : List Value} {d : Option Tmp} {ty : TypeId} {ps : String} {af : Array Edge} {g : Option (Nat × Bool)} {v : Value}
variable {n0 : Nat} {w0 : World} {L : List SA} {T T' e e' : TypeId} {x y z : Operand} {i b o a k q q' m n : Nat} {c cs : List Value} {vv : Value} {xs : List Int} {ii aa bb : Int} {w : World} {ik : IntKind} {ba bc br : Bool}
theorem Nb (j : Nat) (hx : evo l x = some vv := by exact op_) (hj : L[j]? = some (oints e' vv xs) := by exact rfl) (hT : slf P T = some (e, a, q) := by exact rfl) : Det P (St n0 w0 L) ⟨d, .call ⟨.builtin .len, #[x], #[T]⟩, ty, ps, af, g⟩ l (.int .i64 xs.length) := Jxx (Jmc hT) hx hj
end
end Go.Proofs.YtohneogdekdboaaGreatDoor
set_option maxHeartbeats 8000000
namespace Go.Proofs.YtohneogdekdboaaGreatDoor
open Go.RowKit Go.Proofs
set_option maxRecDepth 100000
set_option linter.unusedVariables false
set_option linter.unusedSimpArgs false
section
variable {P : Program} {n0 : Nat} {w0 : World} {L : List SA} {l : List Value} {d : Option Tmp} {ty : TypeId} {ps : String} {af : Array Edge} {g : Option (Nat × Bool)}
theorem Jnf {p : World → Prop} {α : Type} [Inhabited α] {C : Cel α} {T : TypeId} {z jj : Nat} {x : Operand} {y : Value} {s : Sl α} {i : Int}
  (hj' : L[jj]? = some (roS p)) (hp : ∀ u, p u → SlT C u s) (hx : evo l x = some (.pointer (some (sla s.v (i.toNat * 1))))) (hk : C.k = 1) (h : 0 ≤ i ∧ i < s.l.length)
  (hc : (C.cells (nth s.l i))[0]? = some y) (hT : tk P T = some (false, z)) : Det P (St n0 w0 L) ⟨d, .load T x, ty, ps, af, g⟩ l y := by
 refine Jd4 hx (fun _ hu => (hp _ (St.ro hj' hu)).sp) ?_ hT
 have := Jdb C h.1 h.2 0 (by omega)
 rw [hk, Nat.add_zero] at this
 rw [this]; exact hc
end
theorem J0z {n : Nat} {k : Int} : k ∈ Je1 n ↔ 0 ≤ k ∧ k < n := by
 unfold Je1
 rw [List.mem_map]
 constructor
 ·
  rintro ⟨i, hi, rfl⟩; rw [List.mem_range] at hi; exact ⟨by omega, by omega⟩
 intro h; exact ⟨k.toNat, by rw [List.mem_range]; omega, by omega⟩
def Jnr (G : GP) : List Timed → Int → PX → List Entr → PX → Prop
 | [], _, x, new, y => new = [] ∧ y = x
 | m :: ms, last, x, new, y => (last ≤ m.t ∧ m.t ≤ 1000000) ∧ (Jaf G x m.m).1 = 0 ∧ ∃ rest, new = ⟨m.t, 1, m.m, 0, 0⟩ :: (Jf5 m.t x.1.1 (Jaf G x m.m).2.1.1 ++ rest) ∧ Jnr G ms m.t (Jaf G x m.m).2 rest y
theorem J2x {G : GP} : ∀ (ms : List Timed) (i last : Int) (x : PX) (out : List Entr), (recF G ms i last x out).1 = 0 → ∃ new, (recF G ms i last x out).2.2.1 = out ++ new ∧ Jnr G ms last x new (recF G ms i last x out).2.2.2
 | [], i, last, x, out, _ => ⟨[], (List.append_nil _).symm, rfl, rfl⟩
 | m :: ms, i, last, x, out, h => by
  unfold recF at h ⊢
  by_cases ht : (decide (last ≤ m.t) && decide (m.t ≤ 1000000)) = true
  ·
   rw [if_pos ht] at h ⊢
   by_cases hs : (Jaf G x m.m).1 = 0
   ·
    rw [if_pos hs] at h ⊢
    obtain ⟨new, h1, h2⟩ := J2x ms (i + 1) m.t (Jaf G x m.m).2 _ h
    refine ⟨⟨m.t, 1, m.m, 0, 0⟩ :: (Jf5 m.t x.1.1 (Jaf G x m.m).2.1.1 ++ new), by rw [h1]; simp, by simpa using ht, hs, new, rfl, h2⟩
   rw [if_neg hs] at h; cases h
  rw [if_neg ht] at h; cases h
theorem Jl5 {G : GP} {f : Film} {t : Int} {rest : List Entr} : ∀ (S : List Entr) (i : Int), (∀ e ∈ S, e.t = t ∧ Jcc t e = true ∧ Jaz G f e = some f) → Jb1 G (S ++ rest) i t f = Jb1 G rest (i + S.length) t f
 | [], i, _ => by simp
 | e :: S, i, h => by
  obtain ⟨h1, h2, h3⟩ := h e List.mem_cons_self
  rw [List.cons_append, Jef h2 h3, h1, Jl5 S (i + 1) fun x hx => h x (List.mem_cons_of_mem _ hx)]
  congr 1
  simp only [List.length_cons]
  omega
theorem Jin {t : Int} {old new : List Int} {e : Entr} (h : e ∈ Jf5 t old new) : e.t = t ∧ e.k = 5 ∧ e.m = mv0 ∧ 0 ≤ e.a ∧ e.a < new.length ∧ e.b = nth new e.a := by
 unfold Jf5 at h
 obtain ⟨k, hk, rfl⟩ := List.mem_map.1 h
 have := J0z.1 (List.mem_filter.1 hk).1
 exact ⟨rfl, rfl, rfl, this.1, this.2, rfl⟩
theorem Jl8 {G : GP} {f : Film} {t : Int} {old : List Int} (ht : t ≤ 1000000) {e : Entr} (h : e ∈ Jf5 t old f.x.1.1) : e.t = t ∧ Jcc t e = true ∧ Jaz G f e = some f := by
 obtain ⟨h1, h2, h3, h4, h5, h6⟩ := Jin h
 refine ⟨h1, by unfold Jcc; rw [h1]; simp; exact ht, ?_⟩
 have hf : Jco e = true := by unfold Jco; rw [h2, h3]; rfl
 unfold Jaz
 rw [if_pos hf, if_neg (by omega), if_neg (by omega), if_neg (by omega), if_neg (by omega), if_pos ⟨h4, by omega, h6.symm⟩]
theorem Jp7 {G : GP} {f : Film} {m : Timed} (hst : f.st = false) (hs : (Jaf G f.x m.m).1 = 0) :
  Jaz G f ⟨m.t, 1, m.m, 0, 0⟩ = some { f with x := (Jaf G f.x m.m).2, en := if f.en < 0 ∧ Jdk G (Jaf G f.x m.m).2 = true then m.t - f.pa else f.en } := by
 unfold Jaz
 rw [if_pos (show Jco ⟨m.t, 1, m.m, 0, 0⟩ = true from rfl), if_pos rfl, if_pos ⟨hst, hs⟩]
theorem Jtt {G : GP} : ∀ (ms : List Timed) (last : Int) (new : List Entr) (y : PX) (f : Film) (i : Int), Jnr G ms last f.x new y → f.st = false → ∃ f', Jb1 G new i last f = .ok f' ∧ f'.x = y ∧ f'.st = false
 | [], last, new, y, f, i, h, hst => by
  obtain ⟨rfl, rfl⟩ := h
  exact ⟨f, rfl, rfl, hst⟩
 | m :: ms, last, new, y, f, i, h, hst => by
  obtain ⟨⟨t1, t2⟩, hs, rest, rfl, hr⟩ := h
  have hm := Jp7 (m := m) hst hs
  obtain ⟨f1, hf1⟩ : ∃ f1 : Film, f1 = { f with x := (Jaf G f.x m.m).2, en := if f.en < 0 ∧ Jdk G (Jaf G f.x m.m).2 = true then m.t - f.pa else f.en } := ⟨_, rfl⟩
  have hx1 : f1.x = (Jaf G f.x m.m).2 := by rw [hf1]
  have hs1 : f1.st = false := by rw [hf1]; exact hst
  rw [← hf1] at hm
  rw [Jef (by unfold Jcc; simp; exact ⟨t1, t2⟩) hm]
  show ∃ f', Jb1 G _ (i + 1) m.t f1 = .ok f' ∧ _
  rw [← hx1, Jl5 (t := m.t) _ _ fun e he => Jl8 t2 he]
  exact Jtt ms m.t rest y f1 _ (by rw [hx1]; exact hr) hs1
theorem Jrw {t : Int} {old new : List Int} : (Jf5 t old new).filter (fun x => decide (x.k = 1)) = [] := by
 rw [List.filter_eq_nil_iff]
 intro e he
 have := (Jin he).2.1
 simp only [decide_eq_true_eq]
 omega
theorem Jp0 {G : GP} : ∀ (ms : List Timed) (last : Int) (x : PX) (new : List Entr) (y : PX), Jnr G ms last x new y → Jay new = ms
 | [], _, _, _, _, h => by rw [h.1]; rfl
 | m :: ms, last, x, new, y, h => by
  obtain ⟨_, _, rest, rfl, hr⟩ := h
  have ih := Jp0 ms m.t _ rest y hr
  unfold Jay at ih ⊢
  rw [List.filter_cons, if_pos (by rfl), List.filter_append, Jrw, List.nil_append, List.map_cons, ih]
theorem Jyv {G : GP} : ∀ (ms : List Timed) (last : Int) (x : PX) (new : List Entr) (y : PX), Jnr G ms last x new y → Jgk new = new
 | [], _, _, _, _, h => by rw [h.1]; rfl
 | m :: ms, last, x, new, y, h => by
  obtain ⟨_, _, rest, rfl, hr⟩ := h
  have ih := Jyv ms m.t _ rest y hr
  unfold Jgk at ih ⊢
  rw [List.filter_cons, if_pos (by rfl), List.filter_append, ih, List.filter_eq_self.2 fun e he => by
   have := (Jin he).2.1
   simp only [Bool.or_eq_true, decide_eq_true_eq]
   exact .inr this]
def Jks (G : GP) : List Timed → PX → List (List Int)
 | [], _ => []
 | m :: ms, x => (Jaf G x m.m).2.1.1 :: Jks G ms (Jaf G x m.m).2
theorem Jp3 {G : GP} : ∀ (ms : List Timed) (x : PX), (Jks G ms x).length = ms.length
 | [], _ => rfl
 | m :: ms, x => by rw [Jks, List.length_cons, Jp3 ms, List.length_cons]
theorem Jmo {G : GP} {f : Film} {rest : List Entr} : ∀ (S : List Entr), (∀ e ∈ S, e.k = 5 ∧ Jaz G f e = some f) → Jc7 G (S ++ rest) f = Jc7 G rest f
 | [], _ => rfl
 | e :: S, h => by
  obtain ⟨h1, h2⟩ := h e List.mem_cons_self
  rw [List.cons_append, Jc7, h2]
  show (if e.k = 1 then _ else _) = _
  rw [if_neg (by omega), Jmo S fun x hx => h x (List.mem_cons_of_mem _ hx)]
theorem Jr3 {G : GP} : ∀ (ms : List Timed) (last : Int) (new : List Entr) (y : PX) (f : Film), Jnr G ms last f.x new y → f.st = false → Jc7 G new f = Jks G ms f.x
 | [], last, new, y, f, h, hst => by rw [h.1]; rfl
 | m :: ms, last, new, y, f, h, hst => by
  obtain ⟨⟨t1, t2⟩, hs, rest, rfl, hr⟩ := h
  have hm := Jp7 (m := m) hst hs
  obtain ⟨f1, hf1⟩ : ∃ f1 : Film, f1 = { f with x := (Jaf G f.x m.m).2, en := if f.en < 0 ∧ Jdk G (Jaf G f.x m.m).2 = true then m.t - f.pa else f.en } := ⟨_, rfl⟩
  have hx1 : f1.x = (Jaf G f.x m.m).2 := by rw [hf1]
  have hs1 : f1.st = false := by rw [hf1]; exact hst
  rw [← hf1] at hm
  rw [Jc7, hm]
  show (if (1 : Int) = 1 then _ else _) = _
  rw [if_pos rfl, Jks, ← hx1, Jmo _ fun e he => ⟨(Jin he).2.1, (Jl8 (G := G) t2 he).2.2⟩]
  congr 1
  exact Jr3 ms m.t rest y f1 (by rw [hx1]; exact hr) hs1
def Je3 (rows : List (List Int)) : List Entr → List Int → Int → Bool
 | [], now, n => (decide (n < 0) || (decide (n < rows.length) && decide (now = nth rows n))) && decide (n + 1 = rows.length)
 | e :: l, now, n =>
  if e.k = 1 then (decide (n < 0) || (decide (n < rows.length) && decide (now = nth rows n))) && Je3 rows l now (n + 1)
  else (decide (e.k = 5) && (decide (0 ≤ e.a) && (decide (e.a < now.length) && (decide (0 ≤ n) && !decide (nth now e.a = e.b))))) && Je3 rows l (now.set e.a.toNat e.b) n
theorem J9p {old new : List Int} {j : Nat} (hl : old.length = new.length) (h : j < new.length) : new.take j ++ old.drop j = new.take j ++ nth old j :: old.drop (j + 1) ∧ new.take (j + 1) ++ old.drop (j + 1) = new.take j ++ nth new j :: old.drop (j + 1) := by
 have h2 : j < old.length := by omega
 have e1 : nth old j = old[j] := by simp [nth, List.getD, h2]
 have e2 : nth new j = new[j] := by simp [nth, List.getD, h]
 refine ⟨by rw [e1, List.drop_eq_getElem_cons h2], ?_⟩
 have h3 := Jc4 (xs := new) (s := (j : Int)) (by omega) (by omega)
 rw [show ((j : Int) + 1).toNat = j + 1 by omega, Int.toNat_natCast] at h3
 rw [h3, List.append_assoc]; rfl
theorem Jmh {rows : List (List Int)} {rest : List Entr} {t n : Int} {old new : List Int} (hl : old.length = new.length) (hn : 0 ≤ n) : ∀ (d j : Nat), j + d = new.length →
  Je3 rows ((((List.range' j d).map (fun i : Nat => (i : Int))).filter (fun k => !decide (nth new k = nth old k))).map (fun k => (⟨t, 5, mv0, k, nth new k⟩ : Entr)) ++ rest) (new.take j ++ old.drop j) n = Je3 rows rest new n
 | 0, j, h => by
  have e1 : new.take j = new := List.take_of_length_le (by omega)
  have e2 : old.drop j = [] := List.drop_of_length_le (by omega)
  rw [e1, e2, List.append_nil]; rfl
 | d + 1, j, h => by
  have hj : j < new.length := by omega
  obtain ⟨m1, m2⟩ := J9p hl hj
  have ih := Jmh (rows := rows) (rest := rest) (t := t) hl hn d (j + 1) (by omega)
  rw [List.range'_succ, List.map_cons, List.filter_cons]
  by_cases hp : nth new (j : Int) = nth old (j : Int)
  ·
   rw [if_neg (by rw [decide_eq_true hp]; decide), m1, ← hp, ← m2]
   exact ih
  rw [if_pos (by rw [decide_eq_false hp]; rfl), List.map_cons, List.cons_append, Je3, if_neg (show ¬ (5 : Int) = 1 by decide)]
  have hlen : (new.take j ++ old.drop j).length = new.length := by simp; omega
  have htk : (new.take j).length = j := by simp; omega
  have hat : nth (new.take j ++ old.drop j) (j : Int) = nth old (j : Int) := by
   rw [m1]
   simp [nth, List.getD, htk]
  have hset : (new.take j ++ old.drop j).set (j : Int).toNat (nth new (j : Int)) = new.take (j + 1) ++ old.drop (j + 1) := by
   rw [m1, m2, Int.toNat_natCast, List.set_append_right _ _ (by omega), htk, Nat.sub_self, List.set_cons_zero]
  show (_ && _) = _
  rw [show (decide ((5 : Int) = 5) && (decide (0 ≤ (j : Int)) && (decide ((j : Int) < ((new.take j ++ old.drop j).length : Int)) && (decide (0 ≤ n) && !decide (nth (new.take j ++ old.drop j) (j : Int) = nth new (j : Int)))))) = true by
   have hq2 : ¬ nth old (j : Int) = nth new (j : Int) := fun q => hp q.symm
   rw [hlen, hat]
   simp [hq2]
   omega]
  rw [Bool.true_and, hset]
  exact ih
theorem Jzt {rows : List (List Int)} {rest : List Entr} {t n : Int} {old new : List Int} (hl : old.length = new.length) (hn : 0 ≤ n) : Je3 rows (Jf5 t old new ++ rest) old n = Je3 rows rest new n := by
 have h := Jmh (rows := rows) (rest := rest) (t := t) hl hn new.length 0 (by omega)
 rw [List.take_zero, List.nil_append, List.drop_zero] at h
 unfold Jf5 Je1
 rw [List.range_eq_range']
 exact h
theorem Jr5 {G : Game} {rows : List (List Int)} : ∀ (ms : List Timed) (last : Int) (x : PX) (new : List Entr) (y : PX) (pre : List (List Int)) (n : Int), Jnr G.p ms last x new y → posG G.p x = 0 → rows = pre ++ Jks G.p ms x → (pre.length : Int) = n + 1 → -1 ≤ n → (n < 0 ∨ (n < rows.length ∧ x.1.1 = nth rows n)) → Je3 rows new x.1.1 n = true
 | [], last, x, new, y, pre, n, h, hq, hr, hp, hn, hc => by
  rw [h.1, Je3, Bool.and_eq_true, Bool.or_eq_true, Bool.and_eq_true, decide_eq_true_eq, decide_eq_true_eq, decide_eq_true_eq, decide_eq_true_eq]
  refine ⟨hc, ?_⟩
  rw [hr, Jks, List.append_nil]
  omega
 | m :: ms, last, x, new, y, pre, n, h, hq, hr, hp, hn, hc => by
  obtain ⟨⟨t1, t2⟩, hs, rest, rfl, hrec⟩ := h
  have hg := Jen (p := Jjp x) hs
  have hl : x.1.1.length = (Jaf G.p x m.m).2.1.1.length := by rw [Jbm hq, Jbm (x := (Jaf G.p x m.m).2) hg.2.2]
  rw [Je3, if_pos rfl, Bool.and_eq_true]
  refine ⟨by rw [Bool.or_eq_true, Bool.and_eq_true, decide_eq_true_eq, decide_eq_true_eq, decide_eq_true_eq]; exact hc, ?_⟩
  rw [Jzt hl (by omega)]
  have hr2 : rows = (pre ++ [(Jaf G.p x m.m).2.1.1]) ++ Jks G.p ms (Jaf G.p x m.m).2 := by rw [hr, Jks]; simp
  refine Jr5 ms m.t _ rest y _ (n + 1) hrec hg.2.2 hr2 (by simp; omega) (by omega) (.inr ⟨by rw [hr2]; simp; omega, ?_⟩)
  have hpn : (n + 1).toNat = pre.length := by omega
  rw [hr, Jks]
  simp [nth, List.getD, hpn]
theorem Jtc {G : GP} {ms : List Timed} (h : (Jaa G ms).1 = 0) : (Jah G).1 = 0 ∧ ((Jaa G ms).2.2.length : Int) ≤ 500 ∧ ∃ y, Jnr G ms 0 (Jah G).2 (Jaa G ms).2.2 y := by
 unfold Jaa at h ⊢
 by_cases hb : (Jah G).1 = 0
 ·
  rw [if_pos hb] at h ⊢
  by_cases hr : (recF G ms 0 0 (Jah G).2 []).1 = 0
  ·
   rw [if_pos hr] at h ⊢
   by_cases hl : 500 < ((recF G ms 0 0 (Jah G).2 []).2.2.1.length : Int)
   ·
    rw [if_pos hl] at h; cases h
   rw [if_neg hl] at h ⊢
   obtain ⟨new, h1, h2⟩ := J2x ms 0 0 _ _ hr
   rw [List.nil_append] at h1
   refine ⟨hb, by show ((recF G ms 0 0 (Jah G).2 []).2.2.1.length : Int) ≤ 500; omega, (recF G ms 0 0 (Jah G).2 []).2.2.2, ?_⟩
   show Jnr G ms 0 (Jah G).2 (recF G ms 0 0 (Jah G).2 []).2.2.1 _
   rw [h1]; exact h2
  rw [if_neg hr] at h; exact absurd h hr
 rw [if_neg hb] at h; exact absurd h hb
theorem Jzl {G : GP} {ms : List Timed} (h : ¬ (Jaa G ms).1 = 0) : (Jaa G ms).2.2 = [] := by
 unfold Jaa at h ⊢
 by_cases hb : (Jah G).1 = 0
 ·
  rw [if_pos hb] at h ⊢
  by_cases hr : (recF G ms 0 0 (Jah G).2 []).1 = 0
  ·
   rw [if_pos hr] at h ⊢
   by_cases hl : 500 < ((recF G ms 0 0 (Jah G).2 []).2.2.1.length : Int)
   ·
    rw [if_pos hl]
   rw [if_neg hl] at h; exact absurd rfl h
  rw [if_neg hr]
 rw [if_neg hb]
theorem Jrb {G : Game} {ms : List Timed} (h : (Jaa G.p ms).1 = 0) :
  (∃ f, Jaj G.p (Jaa G.p ms).2.2 = (0, 0, f)) ∧ Jet G.p (Jaa G.p ms).2.2 = (0, true) ∧ (Ja2 G.p (Jaa G.p ms).2.2).1 = 0 ∧ ((Ja2 G.p (Jaa G.p ms).2.2).2.1.length = ms.length) ∧
   Je3 (Ja2 G.p (Jaa G.p ms).2.2).2.1 (Jaa G.p ms).2.2 (Jah G.p).2.1.1 (-1) = true := by
 obtain ⟨hb, hl, y, hr⟩ := Jtc h
 obtain ⟨f, h1, h2, h3⟩ := Jtt ms 0 _ y (Jax G.p) 0 hr rfl
 have hv : Jaj G.p (Jaa G.p ms).2.2 = (0, 0, f) := by
  unfold Jaj
  rw [if_pos hb, if_neg (by omega), h1]
 have hrows : (Ja2 G.p (Jaa G.p ms).2.2) = (0, Jks G.p ms (Jah G.p).2, f.x) := by
  unfold Ja2
  rw [hv, if_pos rfl, Jr3 ms 0 _ y (Jax G.p) hr rfl]; rfl
 refine ⟨⟨f, hv⟩, ?_, by rw [hrows], by rw [hrows]; exact Jp3 _ _, ?_⟩
 ·
  unfold Jet
  rw [hv, if_pos rfl, Jp0 ms 0 _ _ y hr, Jyv ms 0 _ _ y hr, h]
  simp
 rw [hrows]
 exact Jr5 ms 0 _ _ y [] (-1) hr (Jb8 hb) rfl rfl (by decide) (.inl (by decide))
end Go.Proofs.YtohneogdekdboaaGreatDoor
