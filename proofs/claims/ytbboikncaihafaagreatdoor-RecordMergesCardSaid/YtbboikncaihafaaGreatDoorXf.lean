/- Merged texts of this proof (walks and plain laws), printed by a program of the prover. -/
import Derived.Test.YtbboikncaihafaaGreatDoorXa
import Derived.Test.YtbboikncaihafaaGreatDoorZb
set_option maxHeartbeats 8000000
namespace Go.Proofs.YtbboikncaihafaaGreatDoor
open Go.RowKit Go.Proofs
set_option maxRecDepth 100000
set_option linter.unusedVariables false
set_option linter.unusedSimpArgs false
theorem Jhx {w u : World} (p : World → Prop) (R : SA)  (fn : FuncId) (cap : List Value) (v : Value) (A U M V B : List Entr) (a b n : Int) (ha : a = A.length) (hn : n = U.length) (hl : U.length = V.length) (hb : b = a + U.length + M.length) (hm : (A.length : Int) + U.length + M.length + V.length + B.length ≤ 1000000) (hu : St w.heap.size w [oT cEntry 84 v (A ++ (U ++ (M ++ (V ++ B)))), roS p, R] u) :
  Calls Tryz.prog 249 #[v, .int .i64 a, .int .i64 b, .int .i64 n, .func (.func fn) #[] cap.toArray] u (fun e u' => e = .returned (.tuple #[]) ∧ St w.heap.size w [oT cEntry 84 v (A ++ (V ++ (M ++ (U ++ B)))), roS p, R] u') := by
 refine Jcu hu Tryz.func249 rfl rfl (Nat.le_of_ble_eq_true rfl) ?_
 refine Nz 1 ?_
 refine Wd (Qc (Ce ?_))
 refine CS.loopM (σ := Int) [11, 12, 13, 14, 15, 16, 17, 18, 19, 20, 21, 22, 23, 24, 25, 26, 27, 28, 29, 30, 31, 32, 33, 34, 35, 36, 37] (fun s => [(10, .int .i64 s)]) (fun s => [oT cEntry 84 v (swr A U M V B s), roS p, R]) (fun s => 0 ≤ s ∧ s ≤ n) (fun s => (n - s).toNat) 0 (fun _ _ => rfl) rfl (congrArg (fun l => [oT cEntry 84 v (l), roS p, R]) (J0o)) ⟨by omega, by omega⟩ ?_
 intro s t hs
 obtain ⟨hs1, hs2⟩ := hs
 have hlen := Jva (A := A) (M := M) (B := B) (i := s) hl
 refine Cs (Nz 3 ?_)
 refine Wd (Qc (CS.cond rfl ?_ ?_))<;>intro hc1<;>try simp only [bq] at hc1
 ·
  refine Ck (Qc (Cs (Ce ?_)))
  refine CS.drawnTill 21 (k := 24) Jal rfl rfl ?_
  refine Tr 24 [0,1,2] ?_
  refine Tk 24 3 [8,9,10] rfl Za ?_
  refine Tk 24 11 [] rfl Za ?_
  refine Tk 24 12 [] rfl (Jak (j := 0) sl67 rfl rfl rfl rfl (by first | omega | (rw [List.length_set]; omega)) (by first | omega | (rw [List.length_set]; omega))) ?_
  refine Tk 24 13 [14,15,16] rfl (Ja4 (j := 0) rfl rfl rfl ⟨(by first | omega | (rw [List.length_set]; omega)), (by first | omega | (rw [List.length_set]; omega))⟩ rfl tk84) ?_
  refine Tk 24 17 [] rfl Za ?_
  refine Tk 24 18 [] rfl (Jak (j := 0) sl67 rfl rfl rfl rfl (by first | omega | (rw [List.length_set]; omega)) (by first | omega | (rw [List.length_set]; omega))) ?_
  refine Tk 24 19 [] rfl (Ja4 (j := 0) rfl rfl rfl ⟨(by first | omega | (rw [List.length_set]; omega)), (by first | omega | (rw [List.length_set]; omega))⟩ rfl tk84) ?_
  refine Tk 24 20 [] rfl (Jak (j := 0) sl67 rfl rfl rfl rfl (by first | omega | (rw [List.length_set]; omega)) (by first | omega | (rw [List.length_set]; omega))) ?_
  refine AT.takeP 4 rfl (by kernel_rfl) rfl (by kernel_rfl) (by kernel_rfl) rfl rfl (Ja0 rfl) rfl rfl ?_
  refine AT.takeP 5 rfl (by kernel_rfl) rfl (by kernel_rfl) (by kernel_rfl) rfl rfl (Ja0 rfl) rfl rfl ?_
  refine AT.takeP 6 rfl (by kernel_rfl) rfl (by kernel_rfl) (by kernel_rfl) rfl rfl (Ja0 rfl) rfl rfl ?_
  refine AT.takeP 7 rfl (by kernel_rfl) rfl (by kernel_rfl) (by kernel_rfl) rfl rfl (Jj9 rfl rfl (by omega)) rfl rfl ?_
  refine To 21 rfl ?_
  refine WS.storeTw (C := cEntry) (nth (swr A U M V B s) (b + s)) (j := 0) rfl rfl rfl ⟨(by first | omega | (rw [List.length_set]; omega)), (by first | omega | (rw [List.length_set]; omega))⟩ rfl (cEntry.one w _ trivial) (by decide) tk84 rfl ?_
  refine Wd (Qt ?_)
  refine To 22 rfl ?_
  refine Wk 0 (Jak (j := 0) sl67 rfl rfl rfl rfl (by first | omega | (rw [List.length_set]; omega)) (by first | omega | (rw [List.length_set]; omega))) ?_
  refine Wd (Qt ?_)
  refine To 23 rfl ?_
  refine WS.storeTw (C := cEntry) (nth (swr A U M V B s) (a + s)) (j := 0) rfl rfl rfl ⟨(by first | omega | (rw [List.length_set]; omega)), (by first | omega | (rw [List.length_set]; omega))⟩ rfl (cEntry.one w _ trivial) (by decide) tk84 rfl ?_
  refine Wd (Qt ?_)
  refine Te ?_
  refine Qb (Qc (Ny 1 ?_))
  refine Wk 1 Za ?_
  exact Wd (QS.head (s + 1) rfl (congrArg (fun l => [oT cEntry 84 v (l), roS p, R]) ((Jr7 hs1 (by omega) hl ha hb).symm)) ⟨⟨by omega, by omega⟩, by omega⟩)
 exact Cv (Qe (Qe (Qx (out0 (Or.inr rfl) rfl (fun u hu => ⟨rfl, by rw [Jww (by omega) (by omega)] at hu; exact hu⟩)))))
theorem Jy7 {w u : World} (p : World → Prop) (R : SA)  (fn : FuncId) (cap : List Value) (v : Value) (A U V B : List Entr) (a m b : Int) (ha : a = A.length) (hm1 : m = a + U.length) (hb : b = m + V.length) (h1 : 0 < U.length) (h2 : 0 < V.length) (hm : (A.length : Int) + U.length + V.length + B.length ≤ 1000000) (hu : St w.heap.size w [oT cEntry 84 v (A ++ (U ++ (V ++ B))), roS p, R] u) :
  Calls Tryz.prog 219 #[v, .int .i64 a, .int .i64 m, .int .i64 b, .func (.func fn) #[] cap.toArray] u (fun e u' => e = .returned (.tuple #[]) ∧ St w.heap.size w [oT cEntry 84 v (A ++ (V ++ (U ++ B))), roS p, R] u') := by
 refine Jcu hu Tryz.func219 rfl rfl (Nat.le_of_ble_eq_true rfl) ?_
 refine Nz 2 ?_
 refine Wk 1 Zb ?_
 refine Wd (Qc (Nz 2 ?_))
 refine Wk 1 Zb ?_
 refine Wd (Qc (Cs (Ce ?_)))
 refine CS.loopM (σ := Int × Int × List Entr × List Entr × List Entr × List Entr) [18, 19, 20, 21, 22, 23, 24, 25, 26, 27, 28, 29, 30, 31, 32, 33, 34, 35, 36, 37, 38, 39, 40, 41, 42, 43, 44, 45, 46, 47, 48, 49] (fun s => [(10, .int .i64 s.1), (11, .int .i64 s.2.1)]) (fun s => [oT cEntry 84 v (A ++ (s.2.2.1 ++ (s.2.2.2.1 ++ (s.2.2.2.2.1 ++ (s.2.2.2.2.2 ++ B))))), roS p, R]) (fun s => s.1 = s.2.2.2.1.length ∧ s.2.1 = s.2.2.2.2.1.length ∧ 0 < s.2.2.2.1.length ∧ 0 < s.2.2.2.2.1.length ∧ m = A.length + s.2.2.1.length + s.2.2.2.1.length ∧ V ++ U = s.2.2.1 ++ (s.2.2.2.2.1 ++ (s.2.2.2.1 ++ s.2.2.2.2.2))) (fun s => (s.1 + s.2.1).toNat) (m - a, b - m, [], U, V, []) (fun _ _ => rfl) rfl (congrArg (fun l => [oT cEntry 84 v (l), roS p, R]) (by simp)) ⟨by show m - a = U.length; omega, by show b - m = V.length; omega, h1, h2, by simp; omega, by simp⟩ ?_
 intro s t hs
 obtain ⟨hs1, hs2, hs3, hs4, hs5, hs6⟩ := hs
 have hsl := congrArg List.length hs6
 simp only [List.length_append] at hsl
 refine Cs (Nz 3 ?_)
 refine Wd (Qc (CS.cond rfl ?_ ?_))<;>intro hc1<;>try simp only [bq] at hc1
 ·
  refine Ck (Qc (Ce (Nz 3 ?_)))
  refine Wd (Qc (CS.cond rfl ?_ ?_))<;>intro hc2<;>try simp only [bq] at hc2
  ·
   obtain ⟨U1, U2, hU, hU1⟩ : ∃ U1 U2 : List Entr, s.2.2.2.1 = U1 ++ U2 ∧ U1.length = s.2.2.2.2.1.length := ⟨_, _, (List.take_append_drop s.2.2.2.2.1.length _).symm, by rw [List.length_take]; omega⟩
   have hUl := congrArg List.length hU
   simp only [List.length_append] at hUl
   rw [hU]
   refine Nz 3 ?_
   refine Wk 3 Zb ?_
   refine WS.weak (L' := [oT cEntry 84 v ((A ++ s.2.2.1) ++ ((U1) ++ ((U2) ++ ((s.2.2.2.2.1) ++ (s.2.2.2.2.2 ++ B))))), roS p, R]) (fun u hu => hu.oTe (by simp)) ?_
   refine WS.callS (β := Unit) (p := fun _ => True) (v := fun _ => .tuple #[]) (L' := fun _ => [oT cEntry 84 v ((A ++ s.2.2.1) ++ ((s.2.2.2.2.1) ++ ((U2) ++ ((U1) ++ (s.2.2.2.2.2 ++ B))))), roS p, R]) rfl rfl Jod (fun u hu => Calls.mono (Jhx p R fn cap v (A ++ s.2.2.1) (U1) (U2) (s.2.2.2.2.1) (s.2.2.2.2.2 ++ B) _ _ _ (by first | omega | (simp; omega)) (by first | omega | (simp; omega)) (by first | omega | (simp; omega)) (by first | omega | (simp; omega)) (by first | omega | (simp; omega)) hu) fun e u2 h => ⟨(), trivial, h.1, h.2⟩) (fun _ => rfl) ?_; rintro ⟨⟩ -
   refine Wd (Qc (Ny 2 ?_))
   refine Wk 1 Zb ?_
   exact Wd (Qb (QS.head ((s.1 - s.2.1, s.2.1, s.2.2.1 ++ s.2.2.2.2.1, U2, U1, s.2.2.2.2.2)) rfl (congrArg (fun l => [oT cEntry 84 v (l), roS p, R]) (by simp)) ⟨⟨by simp; omega, by simp; omega, by simp; omega, by simp; omega, by simp; omega, by rw [hs6, hU]; simp⟩, by simp; omega⟩))
  obtain ⟨V1, V2, hV, hV2⟩ : ∃ V1 V2 : List Entr, s.2.2.2.2.1 = V1 ++ V2 ∧ V2.length = s.2.2.2.1.length := ⟨_, _, (List.take_append_drop (s.2.2.2.2.1.length - s.2.2.2.1.length) _).symm, by rw [List.length_drop]; omega⟩
  have hVl := congrArg List.length hV
  simp only [List.length_append] at hVl
  rw [hV]
  refine Nz 3 ?_
  refine Wk 2 Zb ?_
  refine Wk 1 Za ?_
  refine Wk 2 Zb ?_
  refine WS.weak (L' := [oT cEntry 84 v ((A ++ s.2.2.1) ++ ((s.2.2.2.1) ++ ((V1) ++ ((V2) ++ (s.2.2.2.2.2 ++ B))))), roS p, R]) (fun u hu => hu.oTe (by simp)) ?_
  refine WS.callS (β := Unit) (p := fun _ => True) (v := fun _ => .tuple #[]) (L' := fun _ => [oT cEntry 84 v ((A ++ s.2.2.1) ++ ((V2) ++ ((V1) ++ ((s.2.2.2.1) ++ (s.2.2.2.2.2 ++ B))))), roS p, R]) rfl rfl Jod (fun u hu => Calls.mono (Jhx p R fn cap v (A ++ s.2.2.1) (s.2.2.2.1) (V1) (V2) (s.2.2.2.2.2 ++ B) _ _ _ (by first | omega | (simp; omega)) (by first | omega | (simp; omega)) (by first | omega | (simp; omega)) (by first | omega | (simp; omega)) (by first | omega | (simp; omega)) hu) fun e u2 h => ⟨(), trivial, h.1, h.2⟩) (fun _ => rfl) ?_; rintro ⟨⟩ -
  refine Wd (Qc (Ny 2 ?_))
  refine Wk 1 Zb ?_
  exact Wd (Qb (QS.head ((s.1, s.2.1 - s.1, s.2.2.1, V2, V1, s.2.2.2.1 ++ s.2.2.2.2.2)) rfl (congrArg (fun l => [oT cEntry 84 v (l), roS p, R]) (by simp)) ⟨⟨by simp; omega, by simp; omega, by simp; omega, by simp; omega, by simp; omega, by rw [hs6, hV]; simp⟩, by simp; omega⟩))
 refine Cv (Qe (Qe (Qx (Qc (Ny 3 ?_)))))
 refine Wk 3 Zb ?_
 refine WS.weak (L' := [oT cEntry 84 v ((A ++ s.2.2.1) ++ ((s.2.2.2.1) ++ (([]) ++ ((s.2.2.2.2.1) ++ (s.2.2.2.2.2 ++ B))))), roS p, R]) (fun u hu => hu.oTe (by simp)) ?_
 refine WS.callS (β := Unit) (p := fun _ => True) (v := fun _ => .tuple #[]) (L' := fun _ => [oT cEntry 84 v ((A ++ s.2.2.1) ++ ((s.2.2.2.2.1) ++ (([]) ++ ((s.2.2.2.1) ++ (s.2.2.2.2.2 ++ B))))), roS p, R]) rfl rfl Jod (fun u hu => Calls.mono (Jhx p R fn cap v (A ++ s.2.2.1) (s.2.2.2.1) ([]) (s.2.2.2.2.1) (s.2.2.2.2.2 ++ B) _ _ _ (by first | omega | (simp; omega)) (by first | omega | (simp; omega)) (by first | omega | (simp; omega)) (by first | omega | (simp; omega)) (by first | omega | (simp; omega)) hu) fun e u2 h => ⟨(), trivial, h.1, h.2⟩) (fun _ => rfl) ?_; rintro ⟨⟩ -
 exact Wd (out0 (Or.inr rfl) rfl (fun u hu => ⟨rfl, hu.oTe (by rw [show V ++ (U ++ B) = (V ++ U) ++ B by simp, hs6]; simp)⟩))
theorem Jp5 {w u : World} (p : World → Prop) (R : SA)  (fn : FuncId) (cap : List Value) (hent : Ent Tryz.prog fn) (key : Entr → Int) (hcmp : ∀ (x y : Entr) (u : World), p u → Calls Tryz.prog fn ([.agg (cEntry.cells x).toArray, .agg (cEntry.cells y).toArray] ++ cap : List Value).toArray u (RetB u (.int .i64 (cmpK (key x) (key y))))) (v : Value) (A M B : List Entr) (a b : Int) (ha : a = A.length) (hb : b = a + M.length) (hm : (A.length : Int) + M.length + B.length ≤ 1000000) (hu : St w.heap.size w [oT cEntry 84 v (A ++ (M ++ B)), roS p, R] u) :
  Calls Tryz.prog 175 #[v, .int .i64 a, .int .i64 b, .func (.func fn) #[] cap.toArray] u (fun e u' => ∃ M' : List Entr, (Srt key M' ∧ Eqv key M M') ∧ e = .returned (.tuple #[]) ∧ St w.heap.size w [oT cEntry 84 v (A ++ (M' ++ B)), roS p, R] u') := by
 refine Jcu hu Tryz.func175 rfl rfl (Nat.le_of_ble_eq_true rfl) ?_
 refine Nz 1 ?_
 refine Wk 1 Za ?_
 refine Wd (Qc (Ce ?_))
 refine CS.loopM (σ := Int × List Entr) [9, 12, 13, 14, 15, 16, 17, 18, 19, 20, 21, 22, 23, 24, 25, 26, 27, 28, 29, 30, 31, 32, 33, 34, 35, 36, 37, 38, 39, 40, 41, 42, 43, 44, 45, 46, 47, 48, 49, 50, 51, 52] (fun s => [(8, .int .i64 s.1)]) (fun s => [oT cEntry 84 v (A ++ (s.2 ++ (M.drop (s.1 - a).toNat ++ B))), roS p, R]) (fun s => a + 1 ≤ s.1 ∧ (s.1 ≤ b ∨ b ≤ a) ∧ Srt key s.2 ∧ Eqv key (M.take (s.1 - a).toNat) s.2) (fun s => (b - s.1).toNat) (a + 1, M.take (a + 1 - a).toNat) (fun _ _ => rfl) rfl (congrArg (fun l => [oT cEntry 84 v (A ++ l), roS p, R]) (by rw [← List.append_assoc (M.take _), List.take_append_drop])) ⟨Int.le_refl _, by show a + 1 ≤ b ∨ b ≤ a; omega, Srt.small (by rw [List.length_take]; omega), Eqv.refl _⟩ ?_
 intro o t hs
 obtain ⟨ho1, ho2, ho3, ho4⟩ := hs
 refine Cs (Nz 3 ?_)
 refine Wd (Qc (CS.cond rfl ?_ ?_))<;>intro hc1<;>try simp only [bq] at hc1
 ·
  refine Ck (Qc (Cs (Ce (Nz 2 ?_))))
  refine Wd (Qc (Ce ?_))
  refine CS.loopM (σ := Int × List Entr × List Entr) [18, 19, 20, 21, 22, 23, 24, 25, 26, 27, 28, 29, 30, 31, 32, 33, 34, 35, 36, 37, 38, 39, 40, 41, 42, 43, 44, 45, 46, 47, 48, 49, 50, 51, 52] (fun s => [(9, .int .i64 s.1)]) (fun s => [oT cEntry 84 v (A ++ (s.2.1 ++ (nth M (o.1 - a)) :: (s.2.2 ++ (M.drop (o.1 + 1 - a).toNat ++ B)))), roS p, R]) (fun s => a ≤ s.1 ∧ s.1 ≤ o.1 ∧ s.2.1 ++ s.2.2 = o.2 ∧ (s.2.1.length : Int) = s.1 - a ∧ ∀ y ∈ s.2.2, key (nth M (o.1 - a)) < key y) (fun s => s.1.toNat) (o.1, o.2, []) (fun _ _ => rfl) rfl (congrArg (fun l => [oT cEntry 84 v (A ++ (o.2 ++ l)), roS p, R]) (by rw [show M.drop (o.1 - a).toNat = (nth M (o.1 - a)) :: M.drop (o.1 + 1 - a).toNat by rw [Jaw (by omega) (by omega), show o.1 - a + 1 = o.1 + 1 - a by omega]]; rfl)) ⟨by show a ≤ o.1; omega, Int.le_refl _, by simp, by show (o.2.length : Int) = o.1 - a; rw [ho4.len, List.length_take]; omega, fun y hy => by cases hy⟩ ?_
  intro q t hs
  obtain ⟨hq1, hq2, hq3, hq4, hq5⟩ := hs
  have hql := congrArg List.length hq3
  rw [List.length_append, ho4.len, List.length_take] at hql
  have hlen : (((A ++ (q.2.1 ++ (nth M (o.1 - a)) :: (q.2.2 ++ (M.drop (o.1 + 1 - a).toNat ++ B)))).length : Nat) : Int) = A.length + M.length + B.length := by simp; omega
  have e1 : nth (A ++ (q.2.1 ++ (nth M (o.1 - a)) :: (q.2.2 ++ (M.drop (o.1 + 1 - a).toNat ++ B)))) q.1 = (nth M (o.1 - a)) := Joy (by omega)
  have e2 : a < q.1 → nth (A ++ (q.2.1 ++ (nth M (o.1 - a)) :: (q.2.2 ++ (M.drop (o.1 + 1 - a).toNat ++ B)))) (q.1 - 1) = nth q.2.1 ((q.2.1.length : Int) - 1) := fun h => by rw [Jf6 (by omega) (by omega)]; congr 1; omega
  refine Cs (Cs (Dr Jal 4 ?_))
  refine Dt 0 rfl rfl (fun hg => Fm) ?_
  refine Dt 0 rfl rfl (fun hg => Fm) ?_
  refine Dt 0 rfl rfl (fun hg => Fm) ?_
  refine Dt 0 rfl rfl (fun hg => Jak (j := 0) sl67 (eg_ hg rfl) (eg_ hg rfl) rfl rfl (by (try simp only [bq] at hg); omega) (by (try simp only [bq] at hg); omega)) ?_
  refine Dt 0 rfl rfl (fun hg => Ja4 (j := 0) rfl (eg_ hg rfl) rfl ⟨(by (try simp only [bq] at hg); omega), (by (try simp only [bq] at hg); omega)⟩ rfl tk84) ?_
  refine Dt 0 rfl rfl (fun hg => Fm) ?_
  refine Dt 0 rfl rfl (fun hg => Fm) ?_
  refine Dt 0 rfl rfl (fun hg => Zb) ?_
  refine Dt 0 rfl rfl (fun hg => Jak (j := 0) sl67 (eg_ hg rfl) (eg_ hg rfl) rfl rfl (by (try simp only [bq] at hg); omega) (by (try simp only [bq] at hg); omega)) ?_
  refine Dt 0 rfl rfl (fun hg => Ja4 (j := 0) rfl (eg_ hg rfl) rfl ⟨(by (try simp only [bq] at hg); omega), (by (try simp only [bq] at hg); omega)⟩ rfl tk84) ?_
  refine Dt 0 rfl rfl (fun hg => Cb (eg_ hg rfl) (ec_ (eg_ hg rfl) (ec_ (eg_ hg rfl) en_)) hent (fun u hu => hcmp _ _ u (hu.ro (j := 1) rfl))) ?_
  refine Dt 0 rfl rfl (fun hg => Fl) ?_
  refine Dk 0 Pa ?_
  refine Dd (Qc (CS.cond rfl ?_ ?_))<;>intro hc2<;>try simp only [bq] at hc2
  ·
   obtain ⟨hlt, hcc⟩ : a < q.1 ∧ cmpK (key (nth (A ++ (q.2.1 ++ (nth M (o.1 - a)) :: (q.2.2 ++ (M.drop (o.1 + 1 - a).toNat ++ B)))) q.1)) (key (nth (A ++ (q.2.1 ++ (nth M (o.1 - a)) :: (q.2.2 ++ (M.drop (o.1 + 1 - a).toNat ++ B)))) (q.1 - 1))) < 0 := by first | exact hc2 | simpa using hc2
   rw [Jd5, e1, e2 hlt] at hcc
   have hne : q.2.1 ≠ [] := fun h => by rw [h] at hq4; simp at hq4; omega
   have hPs := Jgy hne
   refine Ck (Qc (Cs (Ce ?_)))
   refine CS.drawnTill 15 (k := 18) Jal rfl rfl ?_
   refine Tr 18 [0,1,5,6] ?_
   refine Tk 18 7 [] rfl Zb ?_
   refine Tk 18 8 [] rfl (Jak (j := 0) sl67 rfl rfl rfl rfl (by first | omega | (rw [List.length_set]; omega)) (by first | omega | (rw [List.length_set]; omega))) ?_
   refine Tk 18 9 [10,11] rfl (Ja4 (j := 0) rfl rfl rfl ⟨(by first | omega | (rw [List.length_set]; omega)), (by first | omega | (rw [List.length_set]; omega))⟩ rfl tk84) ?_
   refine Tk 18 12 [] rfl (Jak (j := 0) sl67 rfl rfl rfl rfl (by first | omega | (rw [List.length_set]; omega)) (by first | omega | (rw [List.length_set]; omega))) ?_
   refine Tk 18 13 [] rfl (Ja4 (j := 0) rfl rfl rfl ⟨(by first | omega | (rw [List.length_set]; omega)), (by first | omega | (rw [List.length_set]; omega))⟩ rfl tk84) ?_
   refine Tk 18 14 [] rfl (Jak (j := 0) sl67 rfl rfl rfl rfl (by first | omega | (rw [List.length_set]; omega)) (by first | omega | (rw [List.length_set]; omega))) ?_
   refine AT.takeP 2 rfl (by kernel_rfl) rfl (by kernel_rfl) (by kernel_rfl) rfl rfl (Ja0 rfl) rfl rfl ?_
   refine AT.takeP 3 rfl (by kernel_rfl) rfl (by kernel_rfl) (by kernel_rfl) rfl rfl (Ja0 rfl) rfl rfl ?_
   refine AT.takeP 4 rfl (by kernel_rfl) rfl (by kernel_rfl) (by kernel_rfl) rfl rfl (Jif rfl rfl (by omega)) rfl rfl ?_
   refine To 15 rfl ?_
   refine WS.storeTw (C := cEntry) (nth (A ++ (q.2.1 ++ (nth M (o.1 - a)) :: (q.2.2 ++ (M.drop (o.1 + 1 - a).toNat ++ B)))) (q.1 - 1)) (j := 0) rfl rfl rfl ⟨(by first | omega | (rw [List.length_set]; omega)), (by first | omega | (rw [List.length_set]; omega))⟩ rfl (cEntry.one w _ trivial) (by decide) tk84 rfl ?_
   refine Wd (Qt ?_)
   refine To 16 rfl ?_
   refine Wk 0 (Jak (j := 0) sl67 rfl rfl rfl rfl (by first | omega | (rw [List.length_set]; omega)) (by first | omega | (rw [List.length_set]; omega))) ?_
   refine Wd (Qt ?_)
   refine To 17 rfl ?_
   refine WS.storeTw (C := cEntry) (nth (A ++ (q.2.1 ++ (nth M (o.1 - a)) :: (q.2.2 ++ (M.drop (o.1 + 1 - a).toNat ++ B)))) (q.1)) (j := 0) rfl rfl rfl ⟨(by first | omega | (rw [List.length_set]; omega)), (by first | omega | (rw [List.length_set]; omega))⟩ rfl (cEntry.one w _ trivial) (by decide) tk84 rfl ?_
   refine Wd (Qt ?_)
   refine Te ?_
   refine Qb (Qc (Ny 1 ?_))
   refine Wk 1 Zb ?_
   exact Wd (QS.head ((q.1 - 1, q.2.1.dropLast, nth q.2.1 ((q.2.1.length : Int) - 1) :: q.2.2)) rfl (congrArg (fun l => [oT cEntry 84 v (l), roS p, R]) ((Js7 hne (by omega) rfl).symm)) ⟨⟨by show a ≤ q.1 - 1; omega, by show q.1 - 1 ≤ o.1; omega, by show q.2.1.dropLast ++ (nth q.2.1 ((q.2.1.length : Int) - 1) :: q.2.2) = o.2; rw [← hq3, List.append_cons, ← hPs], by show (q.2.1.dropLast.length : Int) = q.1 - 1 - a; rw [List.length_dropLast]; omega, fun y hy => by rcases List.mem_cons.1 hy with rfl | hy; exact hcc; exact hq5 y hy⟩, by show (q.1 - 1).toNat < q.1.toNat; omega⟩)
  have hst : q.2.1 = [] ∨ key (nth q.2.1 ((q.2.1.length : Int) - 1)) ≤ key (nth M (o.1 - a)) := by
   by_cases hlt : a < q.1
   ·
    right
    have hcc : ¬ cmpK (key (nth (A ++ (q.2.1 ++ (nth M (o.1 - a)) :: (q.2.2 ++ (M.drop (o.1 + 1 - a).toNat ++ B)))) q.1)) (key (nth (A ++ (q.2.1 ++ (nth M (o.1 - a)) :: (q.2.2 ++ (M.drop (o.1 + 1 - a).toNat ++ B)))) (q.1 - 1))) < 0 := by first | (simp [hlt] at hc2; omega) | grind
    rw [Jd5, e1, e2 hlt] at hcc
    omega
   left
   exact List.eq_nil_of_length_eq_zero (by omega)
  have hfin := Jme (key := key) (x := (nth M (o.1 - a))) (M := M.take (o.1 - a).toNat) (by rw [hq3]; exact ho3) (Jtd (Srt.left (b := q.2.2) (by rw [hq3]; exact ho3)) hst) hq5 (by rw [hq3]; exact ho4)
  rw [← Jbl (xs := M) (by omega) (by omega), show o.1 - a + 1 = o.1 + 1 - a by omega] at hfin
  refine Cv (Qe (Qe (Qx (Qb (Qc (Ny 1 ?_))))))
  refine Wk 1 Za ?_
  exact Wd (QS.head ((o.1 + 1, q.2.1 ++ (nth M (o.1 - a)) :: q.2.2)) rfl (congrArg (fun l => [oT cEntry 84 v (l), roS p, R]) (by simp)) ⟨⟨by show a + 1 ≤ o.1 + 1; omega, by show o.1 + 1 ≤ b ∨ b ≤ a; omega, hfin.1, hfin.2⟩, by show (b - (o.1 + 1)).toNat < (b - o.1).toNat; omega⟩)
 have hdr : M.drop (o.1 - a).toNat = [] := List.drop_of_length_le (by omega)
 have htk : M.take (o.1 - a).toNat = M := List.take_of_length_le (by omega)
 rw [htk] at ho4
 rw [hdr]
 exact Cv (Qe (Qe (Qx (out0 (Or.inr rfl) rfl (fun u hu => ⟨o.2, ⟨ho3, ho4⟩, rfl, hu⟩)))))
theorem Jwe {w u : World} (p : World → Prop) (R : SA)  (fn : FuncId) (cap : List Value) (hent : Ent Tryz.prog fn) (key : Entr → Int) (hcmp : ∀ (x y : Entr) (u : World), p u → Calls Tryz.prog fn ([.agg (cEntry.cells x).toArray, .agg (cEntry.cells y).toArray] ++ cap : List Value).toArray u (RetB u (.int .i64 (cmpK (key x) (key y))))) (v : Value) (N : Nat) (ih : ∀ (A X Y B : List Entr) (a m b : Int) (u : World) (ha : a = A.length) (hm1 : m = a + X.length) (hb : b = m + Y.length) (h1 : 0 < X.length) (h2 : 0 < Y.length) (hN : X.length + Y.length ≤ N) (hX : Srt key X) (hY : Srt key Y) (hm : (A.length : Int) + X.length + Y.length + B.length ≤ 1000000) (hu : St w.heap.size w [oT cEntry 84 v (A ++ (X ++ (Y ++ B))), roS p, R] u), Calls Tryz.prog 176 #[v, .int .i64 a, .int .i64 m, .int .i64 b, .func (.func fn) #[] cap.toArray] u (fun e u' => ∃ M' : List Entr, (Srt key M' ∧ Eqv key (X ++ Y) M') ∧ e = .returned (.tuple #[]) ∧ St w.heap.size w [oT cEntry 84 v (A ++ (M' ++ B)), roS p, R] u')) (A X Y B : List Entr) (a m b : Int) (ha : a = A.length) (hm1 : m = a + X.length) (hb : b = m + Y.length) (h1 : 0 < X.length) (h2 : 0 < Y.length) (hN : X.length + Y.length ≤ N + 1) (hX : Srt key X) (hY : Srt key Y) (hm : (A.length : Int) + X.length + Y.length + B.length ≤ 1000000) (hu : St w.heap.size w [oT cEntry 84 v (A ++ (X ++ (Y ++ B))), roS p, R] u) :
  Calls Tryz.prog 176 #[v, .int .i64 a, .int .i64 m, .int .i64 b, .func (.func fn) #[] cap.toArray] u (fun e u' => ∃ M' : List Entr, (Srt key M' ∧ Eqv key (X ++ Y) M') ∧ e = .returned (.tuple #[]) ∧ St w.heap.size w [oT cEntry 84 v (A ++ (M' ++ B)), roS p, R] u') := by
 have hXs := Jum (A := A) (Z := Y ++ B) hX ha hm1
 have hYs : ∀ i j : Int, m ≤ i → i ≤ j → j < b → key (nth (A ++ (X ++ (Y ++ B))) i) ≤ key (nth (A ++ (X ++ (Y ++ B))) j) := by
  have h := Jum (A := A ++ X) (Z := B) hY (a := m) (m := b) (by simp; omega) (by omega)
  simpa only [List.append_assoc] using h
 obtain ⟨Q1, hQ1⟩ : ∃ Q : Int → Prop, ∀ k, Q k ↔ key (nth (A ++ (X ++ (Y ++ B))) a) ≤ key (nth (A ++ (X ++ (Y ++ B))) k) := ⟨_, fun _ => Iff.rfl⟩
 have hMQ1 : Mono Q1 m b := fun k l k0 k1 k2 q => (hQ1 l).2 (Int.le_trans ((hQ1 k).1 q) (hYs k l k0 k1 k2))
 obtain ⟨Q2, hQ2⟩ : ∃ Q : Int → Prop, ∀ k, Q k ↔ key (nth (A ++ (X ++ (Y ++ B))) m) < key (nth (A ++ (X ++ (Y ++ B))) k) := ⟨_, fun _ => Iff.rfl⟩
 have hMQ2 : Mono Q2 a m := fun k l k0 k1 k2 q => (hQ2 l).2 (Int.lt_of_lt_of_le ((hQ2 k).1 q) (hXs k l k0 k1 k2))
 have hlen : (((A ++ (X ++ (Y ++ B))).length : Nat) : Int) = A.length + X.length + Y.length + B.length := by simp; omega
 refine Jcu hu Tryz.func176 rfl rfl (Nat.le_of_ble_eq_true rfl) ?_
 refine Cs (Nz 2 ?_)
 refine Wk 1 Zb ?_
 refine Wd (Qc (CS.cond rfl ?_ ?_))<;>intro hc1<;>try simp only [bq] at hc1
 ·
  obtain ⟨x, hX1⟩ := List.length_eq_one_iff.1 (show X.length = 1 by omega)
  refine Nz 2 ?_
  refine Wd (Qc (Nz 2 ?_))
  refine Wd (Qc (Cs (Ce ?_)))
  refine CS.loopM (σ := Int × Int) [12, 31, 32, 33, 34, 35, 36, 37, 38, 39, 40, 41, 42, 43, 44, 45, 46, 47, 48, 49, 50, 51, 52, 53] (fun s => [(10, .int .i64 s.1), (11, .int .i64 s.2)]) (fun _ => _) (fun s => m ≤ s.1 ∧ s.1 ≤ s.2 ∧ s.2 ≤ b ∧ (∀ k : Int, m ≤ k → k < s.1 → ¬ Q1 k) ∧ ∀ k : Int, s.2 ≤ k → k < b → Q1 k) (fun s => (s.2 - s.1).toNat) (m, b) (fun _ _ => rfl) rfl rfl ⟨Int.le_refl _, by show m ≤ b; omega, Int.le_refl _, fun k k0 k1 => absurd (show k < m from k1) (by omega), fun k k0 k1 => absurd (show b ≤ k from k0) (by omega)⟩ ?_
  intro f t hs
  obtain ⟨hf1, hf2, hf3, hf4, hf5⟩ := hs
  refine Cs (Nz 3 ?_)
  refine Wd (Qc (CS.cond rfl ?_ ?_))<;>intro hc2<;>try simp only [bq] at hc2
  ·
   refine Ck (Qc (Ce (Nz 2 ?_)))
   refine Wk 0 Za ?_
   refine Wk 0 (Jhy Tryz.underlying3 Tryz.underlying274 rfl ⟨by omega, by omega⟩) ?_
   refine Wk 0 (Jfx rfl rfl) ?_
   refine Wk 1 (Jen Tryz.underlying274 Tryz.underlying3 rfl ⟨by omega, by omega⟩) ?_
   refine Wd (Qc (Cs (Dr Jal 3 ?_)))
   refine Dk 0 (Jak (j := 0) sl67 rfl rfl rfl rfl (by first | omega | (rw [List.length_set]; omega)) (by first | omega | (rw [List.length_set]; omega))) ?_
   refine Dk 2 (Ja4 (j := 0) rfl rfl rfl ⟨(by first | omega | (rw [List.length_set]; omega)), (by first | omega | (rw [List.length_set]; omega))⟩ rfl tk84) ?_
   refine Dk 0 (Jak (j := 0) sl67 rfl rfl rfl rfl (by first | omega | (rw [List.length_set]; omega)) (by first | omega | (rw [List.length_set]; omega))) ?_
   refine Dk 0 (Ja4 (j := 0) rfl rfl rfl ⟨(by first | omega | (rw [List.length_set]; omega)), (by first | omega | (rw [List.length_set]; omega))⟩ rfl tk84) ?_
   refine Dk 1 (Cb rfl rfl hent (fun u hu => hcmp _ _ u (hu.ro (j := 1) rfl))) ?_
   refine Dd (Qc (CS.cond rfl ?_ ?_))<;>intro hc3<;>try simp only [bq] at hc3
   ·
    have hq : ¬ Q1 ((f.1 + f.2) / 2) := by rw [hQ1]; have h9 := Jd5.1 hc3; omega
    refine Ny 1 ?_
    refine Wk 1 Za ?_
    exact Wd (Qb (QS.head ((((f.1 + f.2) / 2) + 1, f.2)) rfl rfl ⟨⟨by show m ≤ ((f.1 + f.2) / 2) + 1; omega, by show ((f.1 + f.2) / 2) + 1 ≤ f.2; omega, hf3, Jk3 hMQ1 (by omega) hq, hf5⟩, by show (f.2 - (((f.1 + f.2) / 2) + 1)).toNat < (f.2 - f.1).toNat; omega⟩))
   have hq : Q1 ((f.1 + f.2) / 2) := by rw [hQ1]; exact Jh5.1 (by simpa using hc3)
   refine Ny 2 ?_
   exact Wd (Qb (QS.head ((f.1, ((f.1 + f.2) / 2))) rfl rfl ⟨⟨hf1, by show f.1 ≤ ((f.1 + f.2) / 2); omega, by show ((f.1 + f.2) / 2) ≤ b; omega, hf4, Jj3 hMQ1 (by omega) hq⟩, by show (((f.1 + f.2) / 2) - f.1).toNat < (f.2 - f.1).toNat; omega⟩))
  refine Cv (Qe (Qe (Qx (Qc (Cs (Nz 2 ?_))))))
  refine Wd (Qc (Ce ?_))
  refine CS.loopM (σ := Int) [55, 56, 57, 58, 59, 60, 61, 62, 63, 64, 65, 66, 67, 68, 69, 70, 71, 72, 73, 74, 75, 76] (fun s => [(13, .int .i64 s)]) (fun s => [oT cEntry 84 v (lk A x Y B (s - a)), roS p, R]) (fun s => a ≤ s ∧ s ≤ f.1 - 1) (fun s => (f.1 - 1 - s).toNat) a (fun _ _ => rfl) rfl (congrArg (fun l => [oT cEntry 84 v (l), roS p, R]) (by rw [Int.sub_self, hX1]; exact lk_0)) ⟨Int.le_refl _, by omega⟩ ?_
  intro k t hs
  obtain ⟨hk1, hk2⟩ := hs
  have hlk : (((lk A x Y B (k - a)).length : Nat) : Int) = A.length + Y.length + B.length + 1 := by rw [Jus]; omega
  refine Cs (Nz 2 ?_)
  refine Wk 1 Zb ?_
  refine Wd (Qc (CS.cond rfl ?_ ?_))<;>intro hc4<;>try simp only [bq] at hc4
  ·
   refine Ck (Qc (Cs (Ce ?_)))
   refine CS.drawnTill 15 (k := 18) Jal rfl rfl ?_
   refine Tr 18 [0,1,5,6] ?_
   refine Tk 18 7 [] rfl Za ?_
   refine Tk 18 8 [] rfl (Jak (j := 0) sl67 rfl rfl rfl rfl (by first | omega | (rw [List.length_set]; omega)) (by first | omega | (rw [List.length_set]; omega))) ?_
   refine Tk 18 9 [10,11] rfl (Ja4 (j := 0) rfl rfl rfl ⟨(by first | omega | (rw [List.length_set]; omega)), (by first | omega | (rw [List.length_set]; omega))⟩ rfl tk84) ?_
   refine Tk 18 12 [] rfl (Jak (j := 0) sl67 rfl rfl rfl rfl (by first | omega | (rw [List.length_set]; omega)) (by first | omega | (rw [List.length_set]; omega))) ?_
   refine Tk 18 13 [] rfl (Ja4 (j := 0) rfl rfl rfl ⟨(by first | omega | (rw [List.length_set]; omega)), (by first | omega | (rw [List.length_set]; omega))⟩ rfl tk84) ?_
   refine Tk 18 14 [] rfl (Jak (j := 0) sl67 rfl rfl rfl rfl (by first | omega | (rw [List.length_set]; omega)) (by first | omega | (rw [List.length_set]; omega))) ?_
   refine AT.takeP 2 rfl (by kernel_rfl) rfl (by kernel_rfl) (by kernel_rfl) rfl rfl (Ja0 rfl) rfl rfl ?_
   refine AT.takeP 3 rfl (by kernel_rfl) rfl (by kernel_rfl) (by kernel_rfl) rfl rfl (Ja0 rfl) rfl rfl ?_
   refine AT.takeP 4 rfl (by kernel_rfl) rfl (by kernel_rfl) (by kernel_rfl) rfl rfl (Jj9 rfl rfl (by omega)) rfl rfl ?_
   refine To 15 rfl ?_
   refine WS.storeTw (C := cEntry) (nth (lk A x Y B (k - a)) (k + 1)) (j := 0) rfl rfl rfl ⟨(by first | omega | (rw [List.length_set]; omega)), (by first | omega | (rw [List.length_set]; omega))⟩ rfl (cEntry.one w _ trivial) (by decide) tk84 rfl ?_
   refine Wd (Qt ?_)
   refine To 16 rfl ?_
   refine Wk 0 (Jak (j := 0) sl67 rfl rfl rfl rfl (by first | omega | (rw [List.length_set]; omega)) (by first | omega | (rw [List.length_set]; omega))) ?_
   refine Wd (Qt ?_)
   refine To 17 rfl ?_
   refine WS.storeTw (C := cEntry) (nth (lk A x Y B (k - a)) (k)) (j := 0) rfl rfl rfl ⟨(by first | omega | (rw [List.length_set]; omega)), (by first | omega | (rw [List.length_set]; omega))⟩ rfl (cEntry.one w _ trivial) (by decide) tk84 rfl ?_
   refine Wd (Qt ?_)
   refine Te ?_
   refine Qb (Qc (Ny 1 ?_))
   refine Wk 1 Za ?_
   exact Wd (QS.head (k + 1) rfl (congrArg (fun l => [oT cEntry 84 v (l), roS p, R]) (Jxf hk1 (by omega) ha)) ⟨⟨by omega, by omega⟩, by omega⟩)
  have hka : k - a = f.1 - m := by omega
  have hres := Joo (B := B) hX1 hY ha (by omega) hb ⟨hf1, by omega⟩ (fun k k0 k1 q => hf4 k k0 k1 ((hQ1 k).2 q)) (fun k k0 k1 => (hQ1 k).1 (hf5 k (by omega) k1))
  rw [← hka] at hres
  exact Cv (Qe (Qe (Qx (Qc (Cr (Qr (out0 (Or.inl rfl) rfl (fun u hu => ⟨_, hres, rfl, hu.oTe Jp2⟩))))))))
 refine Ck (Qc (Cs (Nz 2 ?_)))
 refine Wk 1 Zb ?_
 refine Wd (Qc (CS.cond rfl ?_ ?_))<;>intro hc5<;>try simp only [bq] at hc5
 ·
  obtain ⟨y, hY1⟩ := List.length_eq_one_iff.1 (show Y.length = 1 by omega)
  refine Nz 2 ?_
  refine Wd (Qc (Nz 2 ?_))
  refine Wd (Qc (Cs (Ce ?_)))
  refine CS.loopM (σ := Int × Int) [16, 83, 84, 85, 86, 87, 88, 89, 90, 91, 92, 93, 94, 95, 96, 97, 98, 99, 100, 101, 102, 103, 104, 105, 106] (fun s => [(14, .int .i64 s.1), (15, .int .i64 s.2)]) (fun _ => _) (fun s => a ≤ s.1 ∧ s.1 ≤ s.2 ∧ s.2 ≤ m ∧ (∀ k : Int, a ≤ k → k < s.1 → ¬ Q2 k) ∧ ∀ k : Int, s.2 ≤ k → k < m → Q2 k) (fun s => (s.2 - s.1).toNat) (a, m) (fun _ _ => rfl) rfl rfl ⟨Int.le_refl _, by show a ≤ m; omega, Int.le_refl _, fun k k0 k1 => absurd (show k < a from k1) (by omega), fun k k0 k1 => absurd (show m ≤ k from k0) (by omega)⟩ ?_
  intro g t hs
  obtain ⟨hg1, hg2, hg3, hg4, hg5⟩ := hs
  refine Cs (Nz 3 ?_)
  refine Wd (Qc (CS.cond rfl ?_ ?_))<;>intro hc6<;>try simp only [bq] at hc6
  ·
   refine Ck (Qc (Ce (Nz 2 ?_)))
   refine Wk 0 Za ?_
   refine Wk 0 (Jhy Tryz.underlying3 Tryz.underlying274 rfl ⟨by omega, by omega⟩) ?_
   refine Wk 0 (Jfx rfl rfl) ?_
   refine Wk 1 (Jen Tryz.underlying274 Tryz.underlying3 rfl ⟨by omega, by omega⟩) ?_
   refine Wd (Qc (Cs (Dr Jal 3 ?_)))
   refine Dk 0 (Jak (j := 0) sl67 rfl rfl rfl rfl (by first | omega | (rw [List.length_set]; omega)) (by first | omega | (rw [List.length_set]; omega))) ?_
   refine Dk 2 (Ja4 (j := 0) rfl rfl rfl ⟨(by first | omega | (rw [List.length_set]; omega)), (by first | omega | (rw [List.length_set]; omega))⟩ rfl tk84) ?_
   refine Dk 0 (Jak (j := 0) sl67 rfl rfl rfl rfl (by first | omega | (rw [List.length_set]; omega)) (by first | omega | (rw [List.length_set]; omega))) ?_
   refine Dk 0 (Ja4 (j := 0) rfl rfl rfl ⟨(by first | omega | (rw [List.length_set]; omega)), (by first | omega | (rw [List.length_set]; omega))⟩ rfl tk84) ?_
   refine Dk 2 (Cb rfl rfl hent (fun u hu => hcmp _ _ u (hu.ro (j := 1) rfl))) ?_
   refine Dd (Qc (CS.cond rfl ?_ ?_))<;>intro hc7<;>try simp only [bq] at hc7
   ·
    have hq : ¬ Q2 ((g.1 + g.2) / 2) := by rw [hQ2]; have h9 := Jh5.1 (by simpa using hc7); omega
    refine Ny 1 ?_
    refine Wk 1 Za ?_
    exact Wd (Qb (QS.head ((((g.1 + g.2) / 2) + 1, g.2)) rfl rfl ⟨⟨by show a ≤ ((g.1 + g.2) / 2) + 1; omega, by show ((g.1 + g.2) / 2) + 1 ≤ g.2; omega, hg3, Jk3 hMQ2 (by omega) hq, hg5⟩, by show (g.2 - (((g.1 + g.2) / 2) + 1)).toNat < (g.2 - g.1).toNat; omega⟩))
   have hq : Q2 ((g.1 + g.2) / 2) := by rw [hQ2]; exact Jd5.1 (by simpa using hc7)
   refine Ny 2 ?_
   exact Wd (Qb (QS.head ((g.1, ((g.1 + g.2) / 2))) rfl rfl ⟨⟨hg1, by show g.1 ≤ ((g.1 + g.2) / 2); omega, by show ((g.1 + g.2) / 2) ≤ m; omega, hg4, Jj3 hMQ2 (by omega) hq⟩, by show (((g.1 + g.2) / 2) - g.1).toNat < (g.2 - g.1).toNat; omega⟩))
  refine Cv (Qe (Qe (Qx (Qc (Cs (Nz 2 ?_))))))
  refine Wd (Qc (Ce ?_))
  refine CS.loopM (σ := Int) [108, 109, 110, 111, 112, 113, 114, 115, 116, 117, 118, 119, 120, 121, 122, 123, 124, 125, 126, 127, 128] (fun s => [(17, .int .i64 s)]) (fun s => [oT cEntry 84 v (lk A y X B (s - a)), roS p, R]) (fun s => g.1 ≤ s ∧ s ≤ m) (fun s => (s - g.1).toNat) m (fun _ _ => rfl) rfl (congrArg (fun l => [oT cEntry 84 v (l), roS p, R]) (by rw [Jw9 (by omega), hY1]; rfl)) ⟨by omega, Int.le_refl _⟩ ?_
  intro k t hs
  obtain ⟨hk1, hk2⟩ := hs
  have hlk : (((lk A y X B (k - a)).length : Nat) : Int) = A.length + X.length + B.length + 1 := by rw [Jus]; omega
  refine Cs (Nz 3 ?_)
  refine Wd (Qc (CS.cond rfl ?_ ?_))<;>intro hc8<;>try simp only [bq] at hc8
  ·
   refine Ck (Qc (Cs (Ce ?_)))
   refine CS.drawnTill 15 (k := 18) Jal rfl rfl ?_
   refine Tr 18 [0,1,5,6] ?_
   refine Tk 18 7 [] rfl Zb ?_
   refine Tk 18 8 [] rfl (Jak (j := 0) sl67 rfl rfl rfl rfl (by first | omega | (rw [List.length_set]; omega)) (by first | omega | (rw [List.length_set]; omega))) ?_
   refine Tk 18 9 [10,11] rfl (Ja4 (j := 0) rfl rfl rfl ⟨(by first | omega | (rw [List.length_set]; omega)), (by first | omega | (rw [List.length_set]; omega))⟩ rfl tk84) ?_
   refine Tk 18 12 [] rfl (Jak (j := 0) sl67 rfl rfl rfl rfl (by first | omega | (rw [List.length_set]; omega)) (by first | omega | (rw [List.length_set]; omega))) ?_
   refine Tk 18 13 [] rfl (Ja4 (j := 0) rfl rfl rfl ⟨(by first | omega | (rw [List.length_set]; omega)), (by first | omega | (rw [List.length_set]; omega))⟩ rfl tk84) ?_
   refine Tk 18 14 [] rfl (Jak (j := 0) sl67 rfl rfl rfl rfl (by first | omega | (rw [List.length_set]; omega)) (by first | omega | (rw [List.length_set]; omega))) ?_
   refine AT.takeP 2 rfl (by kernel_rfl) rfl (by kernel_rfl) (by kernel_rfl) rfl rfl (Ja0 rfl) rfl rfl ?_
   refine AT.takeP 3 rfl (by kernel_rfl) rfl (by kernel_rfl) (by kernel_rfl) rfl rfl (Ja0 rfl) rfl rfl ?_
   refine AT.takeP 4 rfl (by kernel_rfl) rfl (by kernel_rfl) (by kernel_rfl) rfl rfl (Jif rfl rfl (by omega)) rfl rfl ?_
   refine To 15 rfl ?_
   refine WS.storeTw (C := cEntry) (nth (lk A y X B (k - a)) (k - 1)) (j := 0) rfl rfl rfl ⟨(by first | omega | (rw [List.length_set]; omega)), (by first | omega | (rw [List.length_set]; omega))⟩ rfl (cEntry.one w _ trivial) (by decide) tk84 rfl ?_
   refine Wd (Qt ?_)
   refine To 16 rfl ?_
   refine Wk 0 (Jak (j := 0) sl67 rfl rfl rfl rfl (by first | omega | (rw [List.length_set]; omega)) (by first | omega | (rw [List.length_set]; omega))) ?_
   refine Wd (Qt ?_)
   refine To 17 rfl ?_
   refine WS.storeTw (C := cEntry) (nth (lk A y X B (k - a)) (k)) (j := 0) rfl rfl rfl ⟨(by first | omega | (rw [List.length_set]; omega)), (by first | omega | (rw [List.length_set]; omega))⟩ rfl (cEntry.one w _ trivial) (by decide) tk84 rfl ?_
   refine Wd (Qt ?_)
   refine Te ?_
   refine Qb (Qc (Ny 1 ?_))
   refine Wk 1 Zb ?_
   exact Wd (QS.head (k - 1) rfl (congrArg (fun l => [oT cEntry 84 v (l), roS p, R]) (Jtf (by omega) (by omega) ha)) ⟨⟨by omega, by omega⟩, by omega⟩)
  have hka : k - a = g.1 - a := by omega
  have hres := Jns (B := B) hX hY1 ha hm1 ⟨hg1, by omega⟩ (fun k k0 k1 q => hg4 k k0 k1 ((hQ2 k).2 q)) (fun k k0 k1 => (hQ2 k).1 (hg5 k (by omega) k1))
  rw [← hka] at hres
  exact Cv (Qe (Qe (Qx (Qc (Cr (Qr (out0 (Or.inl rfl) rfl (fun u hu => ⟨_, hres, rfl, hu.oTe Jp2⟩))))))))
 refine Ck (Qc (Nz 2 ?_))
 refine Wk 0 Za ?_
 refine Wk 0 (Jhy Tryz.underlying3 Tryz.underlying274 rfl ⟨by omega, by omega⟩) ?_
 refine Wk 0 (Jfx rfl rfl) ?_
 refine Wk 1 (Jen Tryz.underlying274 Tryz.underlying3 rfl ⟨by omega, by omega⟩) ?_
 refine Wd (Qc (Nz 2 ?_))
 refine Wk 1 Za ?_
 refine Wd (Qc (Nz 2 ?_))
 refine Wd (Qc ?_)
 refine CS.cut (σ := Int × Int) [138, 139, 140, 141, 142, 143, 144, 145, 146] (fun s => [(20, .int .i64 s.1), (21, .int .i64 s.2)]) (fun s => [oT cEntry 84 v (A ++ (X ++ (Y ++ B))), roS p, R]) (fun s => (((a + b) / 2) < m ∧ s.1 = ((a + b) / 2) + m - b ∧ s.2 = ((a + b) / 2)) ∨ (m ≤ ((a + b) / 2) ∧ s.1 = a ∧ s.2 = m)) (fun _ _ => rfl) ?_ ?_
 ·
  refine Nz 3 ?_
  refine Wd (Qc (CS.cond rfl ?_ ?_))<;>intro hc9<;>try simp only [bq] at hc9
  ·
   refine Nz 2 ?_
   refine Wk 1 Zb ?_
   refine Wd (Qc (Ny 2 ?_))
   exact Wd (QS.head ((((a + b) / 2) + m - b, ((a + b) / 2))) rfl rfl (.inl ⟨by omega, rfl, rfl⟩))
  refine Nz 2 ?_
  refine Wd (Qc (Ny 2 ?_))
  exact Wd (QS.head ((a, m)) rfl rfl (.inr ⟨by omega, rfl, rfl⟩))
 intro c t hs
 obtain ⟨Q3, hQ3⟩ : ∃ Q : Int → Prop, ∀ k, Q k ↔ key (nth (A ++ (X ++ (Y ++ B))) (((a + b) / 2) + m - 1 - k)) < key (nth (A ++ (X ++ (Y ++ B))) k) := ⟨_, fun _ => Iff.rfl⟩
 have hMQ3 : Mono Q3 c.1 c.2 := fun k l k0 k1 k2 q => (hQ3 l).2 (by
  have e1 := (hQ3 k).1 q
  have e2 := hYs (((a + b) / 2) + m - 1 - l) (((a + b) / 2) + m - 1 - k) (by omega) (by omega) (by omega)
  have e3 := hXs k l (by omega) (by omega) (by omega)
  omega)
 refine Nz 1 ?_
 refine Wk 1 Zb ?_
 refine Wd (Qc (Cs (Ce ?_)))
 refine CS.loopM (σ := Int × Int) [23, 149, 150, 151, 152, 153, 154, 155, 156, 157, 158, 159, 160, 161, 162, 163, 164, 165, 166, 167, 168, 169, 170, 171, 172, 173, 174] (fun s => [(20, .int .i64 s.1), (21, .int .i64 s.2)]) (fun _ => _) (fun s => c.1 ≤ s.1 ∧ s.1 ≤ s.2 ∧ s.2 ≤ c.2 ∧ (∀ k : Int, c.1 ≤ k → k < s.1 → ¬ Q3 k) ∧ ∀ k : Int, s.2 ≤ k → k < c.2 → Q3 k) (fun s => (s.2 - s.1).toNat) (c.1, c.2) (fun _ _ => rfl) rfl rfl ⟨Int.le_refl _, by show c.1 ≤ c.2; omega, Int.le_refl _, fun k k0 k1 => absurd (show k < c.1 from k1) (by omega), fun k k0 k1 => absurd (show c.2 ≤ k from k0) (by omega)⟩ ?_
 intro q t hs
 obtain ⟨hq1, hq2, hq3, hq4, hq5⟩ := hs
 refine Cs (Nz 3 ?_)
 refine Wd (Qc (CS.cond rfl ?_ ?_))<;>intro hc10<;>try simp only [bq] at hc10
 ·
  refine Ck (Qc (Ce (Nz 2 ?_)))
  refine Wk 0 Za ?_
  refine Wk 0 (Jhy Tryz.underlying3 Tryz.underlying274 rfl ⟨by omega, by omega⟩) ?_
  refine Wk 0 (Jfx rfl rfl) ?_
  refine Wk 1 (Jen Tryz.underlying274 Tryz.underlying3 rfl ⟨by omega, by omega⟩) ?_
  refine Wd (Qc (Cs (Dr Jal 4 ?_)))
  refine Dk 0 Zb ?_
  refine Dk 0 (Jak (j := 0) sl67 rfl rfl rfl rfl (by first | omega | (rw [List.length_set]; omega)) (by first | omega | (rw [List.length_set]; omega))) ?_
  refine Dk 2 (Ja4 (j := 0) rfl rfl rfl ⟨(by first | omega | (rw [List.length_set]; omega)), (by first | omega | (rw [List.length_set]; omega))⟩ rfl tk84) ?_
  refine Dk 0 (Jak (j := 0) sl67 rfl rfl rfl rfl (by first | omega | (rw [List.length_set]; omega)) (by first | omega | (rw [List.length_set]; omega))) ?_
  refine Dk 0 (Ja4 (j := 0) rfl rfl rfl ⟨(by first | omega | (rw [List.length_set]; omega)), (by first | omega | (rw [List.length_set]; omega))⟩ rfl tk84) ?_
  refine Dk 2 (Cb rfl rfl hent (fun u hu => hcmp _ _ u (hu.ro (j := 1) rfl))) ?_
  refine Dd (Qc (CS.cond rfl ?_ ?_))<;>intro hc11<;>try simp only [bq] at hc11
  ·
   have hq : ¬ Q3 ((q.1 + q.2) / 2) := by rw [hQ3]; have h9 := Jh5.1 (by simpa using hc11); omega
   refine Ny 1 ?_
   refine Wk 1 Za ?_
   exact Wd (Qb (QS.head ((((q.1 + q.2) / 2) + 1, q.2)) rfl rfl ⟨⟨by show c.1 ≤ ((q.1 + q.2) / 2) + 1; omega, by show ((q.1 + q.2) / 2) + 1 ≤ q.2; omega, hq3, Jk3 hMQ3 (by omega) hq, hq5⟩, by show (q.2 - (((q.1 + q.2) / 2) + 1)).toNat < (q.2 - q.1).toNat; omega⟩))
  have hq : Q3 ((q.1 + q.2) / 2) := by rw [hQ3]; exact Jd5.1 (by simpa using hc11)
  refine Ny 2 ?_
  exact Wd (Qb (QS.head ((q.1, ((q.1 + q.2) / 2))) rfl rfl ⟨⟨hq1, by show q.1 ≤ ((q.1 + q.2) / 2); omega, by show ((q.1 + q.2) / 2) ≤ c.2; omega, hq4, Jj3 hMQ3 (by omega) hq⟩, by show (((q.1 + q.2) / 2) - q.1).toNat < (q.2 - q.1).toNat; omega⟩))
 have hqe : q.1 = q.2 := by omega
 obtain ⟨hr, g1, g2⟩ := Jo6 (B := B) hX hY ha hm1 hb (mid := ((a + b) / 2)) (n := ((a + b) / 2) + m) (s0 := c.1) (r0 := c.2) (s := q.1) ⟨by omega, by omega, by omega⟩ rfl hs ⟨hq1, by omega⟩ (fun k k0 k1 => by have h9 := hq4 k k0 k1; rw [hQ3] at h9; omega) (fun k k0 k1 => (hQ3 k).1 (hq5 k (by omega) k1))
 obtain ⟨X1, X2, Y1, Y2, hXX, hYY, l1, l2, g3, g4⟩ : ∃ X1 X2 Y1 Y2 : List Entr, X = X1 ++ X2 ∧ Y = Y1 ++ Y2 ∧ (X1.length : Int) = q.1 - a ∧ (Y1.length : Int) = ((a + b) / 2) - q.1 ∧ (∀ x ∈ X2, ∀ y ∈ Y1, key y < key x) ∧ ∀ x ∈ X1, ∀ y ∈ Y2, key x ≤ key y := ⟨_, _, _, _, (List.take_append_drop _ _).symm, (List.take_append_drop _ _).symm, by rw [List.length_take]; omega, by rw [List.length_take]; omega, g1, g2⟩
 subst hXX; subst hYY
 rw [List.length_append] at h1 h2 hm1 hb hm hlen hN
 rw [List.length_append] at hm hlen hN
 refine Cv (Qe (Qe (Qx (Qc (Nz 2 ?_)))))
 refine Wk 1 Zb ?_
 refine Wd (Qc ?_)
 refine CS.cut (σ := Unit) [178, 179, 180, 181, 182, 183, 184, 185, 186, 187, 188, 189, 190, 191] (fun s => []) (fun s => [oT cEntry 84 v (A ++ (X1 ++ (Y1 ++ (X2 ++ (Y2 ++ B))))), roS p, R]) (fun s => True) (fun _ _ => rfl) ?_ ?_
 ·
  refine Nz 4 ?_
  refine Wt 0 rfl rfl (fun hg => Fm) ?_
  refine Wt 0 rfl rfl (fun hg => Fm) ?_
  refine Wt 0 rfl rfl (fun hg => Fl) ?_
  refine Wk 0 Pa ?_
  refine Wd (Qc (CS.cond rfl ?_ ?_))<;>intro hc12<;>try simp only [bq] at hc12
  ·
   refine Ny 5 ?_
   refine WS.weak (L' := [oT cEntry 84 v ((A ++ X1) ++ (X2 ++ (Y1 ++ (Y2 ++ B)))), roS p, R]) (fun u hu => hu.oTe (by simp)) ?_
   refine WS.callS (β := Unit) (p := fun _ => True) (v := fun _ => .tuple #[]) (L' := fun _ => [oT cEntry 84 v ((A ++ X1) ++ (Y1 ++ (X2 ++ (Y2 ++ B)))), roS p, R]) rfl rfl Jw7 (fun u hu => Calls.mono (Jy7 p R fn cap v (A ++ X1) X2 Y1 (Y2 ++ B) _ _ _ (by first | omega | (simp; omega)) (by first | omega | (simp; omega)) (by first | omega | (simp; omega)) (by first | omega | (simp; omega)) (by first | omega | (simp; omega)) (by first | omega | (simp; omega)) hu) fun e u2 h => ⟨(), trivial, h.1, h.2⟩) (fun _ => rfl) ?_; rintro ⟨⟩ -
   exact Wd (QS.head (()) rfl (congrArg (fun l => [oT cEntry 84 v (l), roS p, R]) (by simp)) trivial)
  have hor : X2 = [] ∨ Y1 = [] := by
   by_cases h : q.1 < m
   ·
    right; exact List.eq_nil_of_length_eq_zero (by have h9 := hc12; simp [h] at h9; omega)
   left; exact List.eq_nil_of_length_eq_zero (by omega)
  exact Ck (QS.head (()) rfl (congrArg (fun l => [oT cEntry 84 v (l), roS p, R]) (by rcases hor with h | h <;> simp [h])) trivial)
 intro z t hs
 refine CS.cut (σ := List Entr) [192, 193, 194, 195, 196, 197, 198, 199, 200, 201, 202, 203, 204, 205] (fun s => []) (fun s => [oT cEntry 84 v (A ++ (s ++ (X2 ++ (Y2 ++ B)))), roS p, R]) (fun s => Srt key s ∧ Eqv key (X1 ++ Y1) s) (fun _ _ => rfl) ?_ ?_
 ·
  refine Nz 4 ?_
  refine Wt 0 rfl rfl (fun hg => Fm) ?_
  refine Wt 0 rfl rfl (fun hg => Fm) ?_
  refine Wt 0 rfl rfl (fun hg => Fl) ?_
  refine Wk 0 Pa ?_
  refine Wd (Qc (CS.cond rfl ?_ ?_))<;>intro hc13<;>try simp only [bq] at hc13
  ·
   refine Ny 5 ?_
   refine WS.weak (L' := [oT cEntry 84 v ((A) ++ ((X1) ++ ((Y1) ++ (X2 ++ (Y2 ++ B))))), roS p, R]) (fun u hu => hu.oTe (rfl)) ?_
   refine WS.callS (β := List Entr) (p := fun M' => Srt key M' ∧ Eqv key ((X1) ++ (Y1)) M') (v := fun _ => .tuple #[]) (L' := fun M' => [oT cEntry 84 v ((A) ++ (M' ++ (X2 ++ (Y2 ++ B)))), roS p, R]) rfl rfl Jm1 (fun u hu => ih (A) (X1) (Y1) (X2 ++ (Y2 ++ B)) _ _ _ u (by first | omega | (simp; omega)) (by first | omega | (simp; omega)) (by first | omega | (simp; omega)) (by first | omega | (simp; omega)) (by first | omega | (simp; omega)) (by first | omega | (simp; omega)) hX.left hY.left (by first | omega | (simp; omega)) hu) (fun _ => rfl) ?_; rintro Mc ⟨hMcs, hMce⟩
   exact Wd (QS.head (Mc) rfl rfl ⟨hMcs, hMce⟩)
  have hor2 : X1 = [] ∨ Y1 = [] := by
   by_cases h : a < q.1
   ·
    right; exact List.eq_nil_of_length_eq_zero (by have h9 := hc13; simp [h] at h9; omega)
   left; exact List.eq_nil_of_length_eq_zero (by omega)
  have hMas : Srt key (X1 ++ Y1) := by
   rcases hor2 with h | h
   ·
    rw [h]; exact hY.left
   rw [h, List.append_nil]; exact hX.left
  exact Ck (QS.head (X1 ++ Y1) rfl (congrArg (fun l => [oT cEntry 84 v (l), roS p, R]) (by simp)) ⟨hMas, Eqv.refl _⟩)
 intro Ma t hs
 obtain ⟨hMas, hMae⟩ := hs
 have hMal := hMae.len
 rw [List.length_append] at hMal
 refine Nz 4 ?_
 refine Wt 0 rfl rfl (fun hg => Fm) ?_
 refine Wt 0 rfl rfl (fun hg => Fm) ?_
 refine Wt 0 rfl rfl (fun hg => Fl) ?_
 refine Wk 0 Pa ?_
 refine Wd (Qc (CS.cond rfl ?_ ?_))<;>intro hc14<;>try simp only [bq] at hc14
 ·
  refine Ny 5 ?_
  refine WS.weak (L' := [oT cEntry 84 v ((A ++ Ma) ++ ((X2) ++ ((Y2) ++ (B)))), roS p, R]) (fun u hu => hu.oTe (by simp)) ?_
  refine WS.callS (β := List Entr) (p := fun M' => Srt key M' ∧ Eqv key ((X2) ++ (Y2)) M') (v := fun _ => .tuple #[]) (L' := fun M' => [oT cEntry 84 v ((A ++ Ma) ++ (M' ++ (B))), roS p, R]) rfl rfl Jm1 (fun u hu => ih (A ++ Ma) (X2) (Y2) (B) _ _ _ u (by first | omega | (simp; omega)) (by first | omega | (simp; omega)) (by first | omega | (simp; omega)) (by first | omega | (simp; omega)) (by first | omega | (simp; omega)) (by first | omega | (simp; omega)) hX.right hY.right (by first | omega | (simp; omega)) hu) (fun _ => rfl) ?_; rintro Mb ⟨hMbs, hMbe⟩
  exact Wd (out0 (Or.inr rfl) rfl (fun u hu => ⟨Ma ++ Mb, Jiy hX hY g3 g4 hMas hMae hMbs hMbe, rfl, hu.oTe (by first | (simp; done) | (rw [hMbq]; simp))⟩))
 have hor3 : X2 = [] ∨ Y2 = [] := by
  by_cases h : ((a + b) / 2) < ((a + b) / 2) + m - q.1
  ·
   right; exact List.eq_nil_of_length_eq_zero (by have h9 := hc14; simp [h] at h9; omega)
  left; exact List.eq_nil_of_length_eq_zero (by omega)
 obtain ⟨Mb, hMbs, hMbe, hMbq⟩ : ∃ Mb : List Entr, Srt key Mb ∧ Eqv key (X2 ++ Y2) Mb ∧ X2 ++ (Y2 ++ B) = Mb ++ B := ⟨X2 ++ Y2, by
  rcases hor3 with h | h
  ·
   rw [h]; exact hY.right
  rw [h, List.append_nil]; exact hX.right, Eqv.refl _, by simp⟩
 exact Ck (out0 (Or.inr rfl) rfl (fun u hu => ⟨Ma ++ Mb, Jiy hX hY g3 g4 hMas hMae hMbs hMbe, rfl, hu.oTe (by first | (simp; done) | (rw [hMbq]; simp))⟩))
theorem Jpx {w : World} (p : World → Prop) (R : SA) (fn : FuncId) (cap : List Value) (hent : Ent Tryz.prog fn) (key : Entr → Int) (hcmp : ∀ (x y : Entr) (u : World), p u → Calls Tryz.prog fn ([.agg (cEntry.cells x).toArray, .agg (cEntry.cells y).toArray] ++ cap : List Value).toArray u (RetB u (.int .i64 (cmpK (key x) (key y))))) (v : Value) : ∀ N : Nat, ∀ (A X Y B : List Entr) (a m b : Int) (u : World) (ha : a = A.length) (hm1 : m = a + X.length) (hb : b = m + Y.length) (h1 : 0 < X.length) (h2 : 0 < Y.length) (hN : X.length + Y.length ≤ N) (hX : Srt key X) (hY : Srt key Y) (hm : (A.length : Int) + X.length + Y.length + B.length ≤ 1000000) (hu : St w.heap.size w [oT cEntry 84 v (A ++ (X ++ (Y ++ B))), roS p, R] u), Calls Tryz.prog 176 #[v, .int .i64 a, .int .i64 m, .int .i64 b, .func (.func fn) #[] cap.toArray] u (fun e u' => ∃ M' : List Entr, (Srt key M' ∧ Eqv key (X ++ Y) M') ∧ e = .returned (.tuple #[]) ∧ St w.heap.size w [oT cEntry 84 v (A ++ (M' ++ B)), roS p, R] u')
 | 0, A, X, Y, B, a, m, b, u, _, _, _, h1, h2, hN, _, _, _, _ => absurd hN (by omega)
 | N + 1, A, X, Y, B, a, m, b, u, ha, hm1, hb, h1, h2, hN, hX, hY, hm, hu => Jwe p R fn cap hent key hcmp v N (Jpx p R fn cap hent key hcmp v N) A X Y B a m b ha hm1 hb h1 h2 hN hX hY hm hu
theorem Jv7 {w u : World} (p : World → Prop) (R : SA)  (fn : FuncId) (cap : List Value) (hent : Ent Tryz.prog fn) (key : Entr → Int) (hcmp : ∀ (x y : Entr) (u : World), p u → Calls Tryz.prog fn ([.agg (cEntry.cells x).toArray, .agg (cEntry.cells y).toArray] ++ cap : List Value).toArray u (RetB u (.int .i64 (cmpK (key x) (key y))))) (v : Value) (xs : List Entr) (n : Int) (hn : n = xs.length) (hm : (xs.length : Int) ≤ 1000000) (hu : St w.heap.size w [oT cEntry 84 v (xs), roS p, R] u) :
  Calls Tryz.prog 133 #[v, .int .i64 n, .func (.func fn) #[] cap.toArray] u (fun e u' => ∃ ys : List Entr, (Srt key ys ∧ Eqv key xs ys) ∧ e = .returned (.tuple #[]) ∧ St w.heap.size w [oT cEntry 84 v (ys), roS p, R] u') := by
 refine Jcu hu Tryz.func133 rfl rfl (Nat.le_of_ble_eq_true rfl) ?_
 refine Nz 1 ?_
 refine Wd (Qc (Nz 3 ?_))
 refine Wd (Qc (Cs (Ce ?_)))
 refine CS.loopM (σ := Int × Int × List Entr × List Entr) [11, 12, 13, 14, 15, 16, 17, 18, 19, 20, 21, 22] (fun s => [(7, .int .i64 s.1), (8, .int .i64 s.2.1)]) (fun s => [oT cEntry 84 v (s.2.2.1 ++ s.2.2.2), roS p, R]) (fun s => s.2.1 = s.1 + 20 ∧ s.1 = s.2.2.1.length ∧ Full key 20 s.2.2.1 ∧ Eqv key xs (s.2.2.1 ++ s.2.2.2)) (fun s => (n - s.1).toNat) (0, 20, [], xs) (fun _ _ => rfl) rfl rfl ⟨rfl, rfl, Full.nil, Eqv.refl _⟩ ?_
 intro o t hs
 obtain ⟨ho1, ho2, ho3, ho4⟩ := hs
 have hol := ho4.len
 rw [List.length_append] at hol
 refine Cs (Nz 3 ?_)
 refine Wd (Qc (CS.cond rfl ?_ ?_))<;>intro hc1<;>try simp only [bq] at hc1
 ·
  have htl : (o.2.2.2.take 20).length = 20 := by rw [List.length_take]; omega
  refine Ck (Qc (Ce (Nz 4 ?_)))
  refine WS.weak (L' := [oT cEntry 84 v ((o.2.2.1) ++ ((o.2.2.2.take 20) ++ (o.2.2.2.drop 20))), roS p, R]) (fun u hu => hu.oTe (by rw [List.take_append_drop])) ?_
  refine WS.callS (β := List Entr) (p := fun M' => Srt key M' ∧ Eqv key (o.2.2.2.take 20) M') (v := fun _ => .tuple #[]) (L' := fun M' => [oT cEntry 84 v ((o.2.2.1) ++ (M' ++ (o.2.2.2.drop 20))), roS p, R]) rfl rfl Juo (fun u hu => Jp5 p R fn cap hent key hcmp v (o.2.2.1) (o.2.2.2.take 20) (o.2.2.2.drop 20) _ _ (by first | omega | (simp; omega)) (by first | omega | (simp; omega)) (by first | omega | (simp; omega)) hu) (fun _ => rfl) ?_; rintro Ma ⟨hMas, hMae⟩
  refine Wd (Qc (Nz 2 ?_))
  refine Wd (Qc (Ny 2 ?_))
  refine Wk 1 Za ?_
  exact Wd (Qb (QS.head ((o.2.1, o.2.1 + 20, o.2.2.1 ++ Ma, o.2.2.2.drop 20)) rfl (congrArg (fun l => [oT cEntry 84 v (l), roS p, R]) (by simp)) ⟨⟨rfl, by simp only [List.length_append]; rw [hMae.len, htl]; omega, ho3.snoc (by rw [hMae.len, htl]) hMas, ho4.trans (by have h := (Eqv.refl (key := key) o.2.2.1).app (hMae.app (Eqv.refl (o.2.2.2.drop 20))); rw [List.take_append_drop] at h; simpa using h)⟩, by show (n - o.2.1).toNat < (n - o.1).toNat; omega⟩))
 refine Cv (Qe (Qe (Qx (Qc (Nz 4 ?_)))))
 refine WS.weak (L' := [oT cEntry 84 v ((o.2.2.1) ++ ((o.2.2.2) ++ ([]))), roS p, R]) (fun u hu => hu.oTe (by rw [List.append_nil])) ?_
 refine WS.callS (β := List Entr) (p := fun M' => Srt key M' ∧ Eqv key (o.2.2.2) M') (v := fun _ => .tuple #[]) (L' := fun M' => [oT cEntry 84 v ((o.2.2.1) ++ (M' ++ ([]))), roS p, R]) rfl rfl Juo (fun u hu => Jp5 p R fn cap hent key hcmp v (o.2.2.1) (o.2.2.2) ([]) _ _ (by first | omega | (simp; omega)) (by first | omega | (simp; omega)) (by first | omega | (simp; omega)) hu) (fun _ => rfl) ?_; rintro Mb ⟨hMbs, hMbe⟩
 refine Wd (Qc (Ce ?_))
 refine CS.loopM (σ := Int × List Entr) [7, 8, 9, 28, 29, 30, 31, 32, 33, 34, 35, 36, 37, 38, 39, 40, 41, 42, 43, 44, 45, 46, 47, 48, 49, 50, 51, 52, 53, 54, 55, 56, 57, 58, 59, 60, 61, 62] (fun s => [(6, .int .i64 s.1)]) (fun s => [oT cEntry 84 v (s.2), roS p, R]) (fun s => 20 ≤ s.1 ∧ s.1 ≤ 2000000 ∧ Blk key s.1.toNat s.2 ∧ Eqv key xs s.2) (fun s => (n - s.1).toNat) (20, o.2.2.1 ++ Mb) (fun _ _ => rfl) rfl (congrArg (fun l => [oT cEntry 84 v (l), roS p, R]) (by simp)) ⟨Int.le_refl _, by show (20 : Int) ≤ 2000000; omega, ho3.blk (.last (by show Mb.length ≤ 20; rw [hMbe.len]; omega) hMbs), ho4.trans ((Eqv.refl _).app hMbe)⟩ ?_
 intro x t hs
 obtain ⟨hx1, hx2, hx3, hx4⟩ := hs
 have hxl := hx4.len
 refine Cs (Nz 3 ?_)
 refine Wd (Qc (CS.cond rfl ?_ ?_))<;>intro hc2<;>try simp only [bq] at hc2
 ·
  refine Ck (Qc (Ce (Nz 1 ?_)))
  refine Wk 2 Zc ?_
  refine Wd (Qc (Cs (Ce ?_)))
  refine CS.loopM (σ := Int × Int × List Entr × List Entr) [33, 34, 35, 36, 37, 38, 39, 40, 41, 42, 43, 44, 45, 46, 47, 48] (fun s => [(7, .int .i64 s.1), (8, .int .i64 s.2.1)]) (fun s => [oT cEntry 84 v (s.2.2.1 ++ s.2.2.2), roS p, R]) (fun s => s.2.1 = s.1 + 2 * x.1 ∧ s.1 = s.2.2.1.length ∧ Full key (2 * x.1).toNat s.2.2.1 ∧ Blk key x.1.toNat s.2.2.2 ∧ Eqv key xs (s.2.2.1 ++ s.2.2.2)) (fun s => (n - s.1).toNat) (0, 2 * x.1, [], x.2) (fun _ _ => rfl) rfl rfl ⟨by show 2 * x.1 = 0 + 2 * x.1; omega, rfl, Full.nil, hx3, hx4⟩ ?_
  intro y t hs
  obtain ⟨hy1, hy2, hy3, hy4, hy5⟩ := hs
  have hyl := hy5.len
  rw [List.length_append] at hyl
  refine Cs (Nz 3 ?_)
  refine Wd (Qc (CS.cond rfl ?_ ?_))<;>intro hc3<;>try simp only [bq] at hc3
  ·
   obtain ⟨b1, c1, r1, hT, l1, l2, k1, k2, k3⟩ := hy4.split2 (by omega) (by omega)
   have hTl := congrArg List.length hT
   simp only [List.length_append] at hTl
   refine Ck (Qc (Ce (Nz 4 ?_)))
   refine Wk 2 Za ?_
   refine WS.weak (L' := [oT cEntry 84 v ((y.2.2.1) ++ ((b1) ++ ((c1) ++ (r1)))), roS p, R]) (fun u hu => hu.oTe (by rw [hT])) ?_
   refine WS.callS (β := List Entr) (p := fun M' => Srt key M' ∧ Eqv key ((b1) ++ (c1)) M') (v := fun _ => .tuple #[]) (L' := fun M' => [oT cEntry 84 v ((y.2.2.1) ++ (M' ++ (r1))), roS p, R]) rfl rfl Jm1 (fun u hu => Jpx p R fn cap hent key hcmp v (b1.length + c1.length) (y.2.2.1) b1 c1 (r1) _ _ _ u (by first | omega | (simp; omega)) (by first | omega | (simp; omega)) (by first | omega | (simp; omega)) (by first | omega | (simp; omega)) (by first | omega | (simp; omega)) (Nat.le_refl _) k1 k2 (by first | omega | (simp; omega)) hu) (fun _ => rfl) ?_; rintro Mc ⟨hMcs, hMce⟩
   refine Wd (Qc (Nz 2 ?_))
   refine Wd (Qc (Ny 2 ?_))
   refine Wk 0 Zc ?_
   refine Wk 1 Za ?_
   exact Wd (Qb (QS.head ((y.2.1, y.2.1 + 2 * x.1, y.2.2.1 ++ Mc, r1)) rfl (congrArg (fun l => [oT cEntry 84 v (l), roS p, R]) (by simp)) ⟨⟨rfl, by simp only [List.length_append]; rw [hMce.len, List.length_append]; omega, hy3.snoc (by rw [hMce.len, List.length_append]; omega) hMcs, k3, hy5.trans (by rw [hT]; have h := (Eqv.refl (key := key) y.2.2.1).app (hMce.app (Eqv.refl r1)); simpa using h)⟩, by show (n - y.2.1).toNat < (n - y.1).toNat; omega⟩))
  refine Cv (Qe (Qe (Qx (Qc (Cs (Nz 2 ?_))))))
  refine Wk 1 Za ?_
  refine Wd (Qc (Nz 3 ?_))
  refine Wd (Qc (CS.cond rfl ?_ ?_))<;>intro hc4<;>try simp only [bq] at hc4
  ·
   obtain ⟨b1, r1, hT, l1, k1, k2⟩ := hy4.split (by omega)
   have hTl := congrArg List.length hT
   simp only [List.length_append] at hTl
   have k3 := k2.srt (by omega)
   refine Ny 5 ?_
   refine WS.weak (L' := [oT cEntry 84 v ((y.2.2.1) ++ ((b1) ++ ((r1) ++ ([])))), roS p, R]) (fun u hu => hu.oTe (by rw [hT, List.append_nil])) ?_
   refine WS.callS (β := List Entr) (p := fun M' => Srt key M' ∧ Eqv key ((b1) ++ (r1)) M') (v := fun _ => .tuple #[]) (L' := fun M' => [oT cEntry 84 v ((y.2.2.1) ++ (M' ++ ([]))), roS p, R]) rfl rfl Jm1 (fun u hu => Jpx p R fn cap hent key hcmp v (b1.length + r1.length) (y.2.2.1) b1 r1 ([]) _ _ _ u (by first | omega | (simp; omega)) (by first | omega | (simp; omega)) (by first | omega | (simp; omega)) (by first | omega | (simp; omega)) (by first | omega | (simp; omega)) (Nat.le_refl _) k1 k3 (by first | omega | (simp; omega)) hu) (fun _ => rfl) ?_; rintro Md ⟨hMds, hMde⟩
   refine Wd (Qc (Ny 1 ?_))
   refine Wk 1 Zc ?_
   exact Wd (Qb (QS.head ((x.1 * 2, y.2.2.1 ++ Md)) rfl (congrArg (fun l => [oT cEntry 84 v (l), roS p, R]) (by simp)) ⟨⟨by show 20 ≤ x.1 * 2; omega, by show x.1 * 2 ≤ 2000000; omega, by show Blk key (x.1 * 2).toNat _; rw [show x.1 * 2 = 2 * x.1 by omega]; exact hy3.blk (.last (by rw [hMde.len, List.length_append]; omega) hMds), hy5.trans (by rw [hT]; exact (Eqv.refl _).app hMde)⟩, by show (n - x.1 * 2).toNat < (n - x.1).toNat; omega⟩))
  have k3 := hy4.srt (by omega)
  refine Ck (Qc (Ny 1 ?_))
  refine Wk 1 Zc ?_
  exact Wd (Qb (QS.head ((x.1 * 2, y.2.2.1 ++ y.2.2.2)) rfl rfl ⟨⟨by show 20 ≤ x.1 * 2; omega, by show x.1 * 2 ≤ 2000000; omega, by show Blk key (x.1 * 2).toNat _; rw [show x.1 * 2 = 2 * x.1 by omega]; exact hy3.blk (.last (by omega) k3), hy5⟩, by show (n - x.1 * 2).toNat < (n - x.1).toNat; omega⟩))
 have hfin := hx3.srt (by omega)
 exact Cv (Qe (Qe (Qx (out0 (Or.inr rfl) rfl (fun u hu => ⟨x.2, ⟨hfin, hx4⟩, rfl, hu⟩)))))
theorem Jv4 {w u : World} (p : World → Prop) (R : SA)  (fn : FuncId) (cap : List Value) (hent : Ent Tryz.prog fn) (key : Entr → Int) (hcmp : ∀ (x y : Entr) (u : World), p u → Calls Tryz.prog fn ([.agg (cEntry.cells x).toArray, .agg (cEntry.cells y).toArray] ++ cap : List Value).toArray u (RetB u (.int .i64 (cmpK (key x) (key y))))) (v : Value) (xs : List Entr) (hm : (xs.length : Int) ≤ 1000000) (hu : St w.heap.size w [oT cEntry 84 v (xs), roS p, R] u) :
  Calls Tryz.prog 71 #[v, .func (.func fn) #[] cap.toArray] u (fun e u' => ∃ ys : List Entr, (Srt key ys ∧ Eqv key xs ys) ∧ e = .returned (.tuple #[]) ∧ St w.heap.size w [oT cEntry 84 v (ys), roS p, R] u') := by
 refine Jcu hu Tryz.func71 rfl rfl (Nat.le_of_ble_eq_true rfl) ?_
 refine Ny 2 ?_
 refine Wk 1 (Jiu (j := 0) sl67 rfl rfl) ?_
 refine WS.callS (β := List Entr) (p := fun ys => Srt key ys ∧ Eqv key xs ys) (v := fun _ => .tuple #[]) (L' := fun ys => [oT cEntry 84 v (ys), roS p, R]) rfl rfl Jz8 (fun u hu => Jv7 p R fn cap hent key hcmp v xs _ rfl hm hu) (fun _ => rfl) ?_; rintro ys ⟨h1, h2⟩
 exact Wd (out0 (Or.inr rfl) rfl (fun u hu => ⟨ys, ⟨h1, h2⟩, rfl, hu⟩))
end Go.Proofs.YtbboikncaihafaaGreatDoor
