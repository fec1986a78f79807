/- Merged texts of this proof (walks and plain laws), printed by a program of the prover. -/
import Derived.Test.YtbboikncaihafaaGreatDoorXf
import Derived.Test.YtbboikncaihafaaGreatDoorXb
import Derived.Test.YtbboikncaihafaaGreatDoorZb
import Derived.Test.YtbboikncaihafaaGreatDoorXe
set_option maxHeartbeats 8000000
namespace Go.Proofs.YtbboikncaihafaaGreatDoor
open Go.RowKit Go.Proofs
set_option maxRecDepth 100000
set_option linter.unusedVariables false
set_option linter.unusedSimpArgs false
abbrev keyT (x : Entr) : Int := x.t
def Jc1 (a b : List Entr) : Int × List Entr := if 500 < (a.length : Int) + b.length then (2, []) else if srtB keyT a && srtB keyT b then (0, Jbk keyT a b) else (120, [])
theorem Jwq (n : Int) (h0 : 0 ≤ n) (h1 : n ≤ 1000000) (w : World) :
  Calls Tryz.prog 132 #[.slice none 0 0, .int .i64 n] w (fun e w' => ∃ v' : Value, v'.oneCell' = true ∧ RetF w v' (oT cEntry 84 v' []) e w') := by
 refine enter Tryz.func132 rfl rfl (Nat.le_of_ble_eq_true rfl) ?_
 refine Nz 1 ?_
 refine Wd (Qc (Cs (Nz 2 ?_)))
 refine Wd (Qc (CS.cond rfl ?_ ?_))<;>intro hc1<;>try simp only [bq] at hc1
 ·
  exact absurd hc1 (by omega)
 refine Ck (Qc (Cs (Nz 2 ?_)))
 refine Wk 1 (Jmy sl67 rfl ⟨_, _, rfl⟩) ?_
 refine Wk 0 (Jh2 sl67 rfl ⟨_, _, rfl⟩) ?_
 refine Wk 0 Zb ?_
 refine Wk 1 Zb ?_
 refine Wd (Qc (Nz 2 ?_))
 refine Wd (Qc (CS.cond rfl ?_ ?_))<;>intro hc2<;>try simp only [bq] at hc2
 ·
  have hn0 : 0 < n := by omega
  refine Ny 2 ?_
  refine Wk 0 (Jmy sl67 rfl ⟨_, _, rfl⟩) ?_
  refine Wk 1 (Jok (n := 0) (c := 0) (p := none) sl67 rfl rfl (by decide) (by decide)) ?_
  refine WS.appendMade (n := n) sl67 Tryz.underlying3 zv84 rfl (by decide) rfl (congrArg (fun z => some (Value.int .i64 z)) (show n - (0 - 0) = n by omega)) hn0 (by omega) (by decide) (fun _ _ => rfl) ?_; intro b22 c22 z22 hc22
  refine Wz 1 ?_
  refine Wk 0 (Jh2 sl67 rfl ⟨_, _, rfl⟩) ?_
  refine Wk 1 (Jok (n := n.toNat) (c := c22) (p := some ⟨b22, 0, none⟩) sl67 rfl rfl (by decide) (by omega)) ?_
  refine Wd (Qc (Nz 2 ?_))
  refine Wd (Qc (Cr ?_))
  first | exact out1 rfl rfl (fun u hu => ⟨_, Jml rfl, retF (j := 0) rfl u (hu.oslTo (Nat.zero_le _))⟩) | exact out1 rfl rfl (fun u hu => ⟨_, rfl, retF (j := 0) rfl u (hu.osl0 (e := 84) (size := 7))⟩)
 refine Ck (Qc (Nz 2 ?_))
 refine Wd (Qc (Cr ?_))
 first | exact out1 rfl rfl (fun u hu => ⟨_, Jml rfl, retF (j := 0) rfl u (hu.oslTo (Nat.zero_le _))⟩) | exact out1 rfl rfl (fun u hu => ⟨_, rfl, retF (j := 0) rfl u (hu.osl0 (e := 84) (size := 7))⟩)
theorem Jqp (x : Sl (Sl Entr)) (w : World) (hx : SlT (cSl cEntry) w x) (hm : ((catL x.l).length : Int) ≤ 1000000) :
  Calls Tryz.prog 70 #[x.v] w (fun e w' => ∃ v' : Value, v'.oneCell' = true ∧ RetF w v' (oT cEntry 84 v' (catL x.l)) e w') := by
 have lx := hx.le
 have hall := Jri (l := x.l) x.l.length
 have hta : x.l.take x.l.length = x.l := List.take_of_length_le (Nat.le_refl _)
 refine enter Tryz.func70 rfl rfl (Nat.le_of_ble_eq_true rfl) ?_
 refine Nz 1 ?_
 refine Wd (Qc (Nz 1 ?_))
 refine Wd (Qc (Cs (Nz 1 ?_)))
 refine Wk 1 Nc ?_
 refine Wd (Qc (Ce ?_))
 refine CS.loopM (σ := Int × Int) [5, 12, 13, 14, 15, 16, 17, 18, 19, 20, 21, 22] (fun s => [(11, .int .i64 s.1), (3, .int .i64 s.2)]) (fun _ => _) (fun s => 0 ≤ s.1 ∧ s.1 ≤ x.l.length ∧ s.2 = (catL (x.l.take s.1.toNat)).length) (fun s => (x.l.length - s.1).toNat) (0, 0) (fun _ _ => rfl) rfl rfl ⟨by simp, by simp, by simp [catL]⟩ ?_
 intro a t hs
 obtain ⟨ha1, ha2, ha3⟩ := hs
 refine Nz 1 ?_
 refine Wd (Qc (Cs (CS.cond rfl ?_ ?_)))<;>intro hc1<;>try simp only [bq] at hc1
 ·
  have hxs : SlT cEntry w (nth x.l a.1) := hx.at ha1 (by omega)
  have hsn := congrArg List.length (Jia ha1 (show a.1 < (x.l.length : Int) by omega))
  have hle := Jri (l := x.l) (a.1 + 1).toNat
  rw [List.length_append] at hsn
  refine Ck (Qc (Cs (Ce (Nz 0 ?_))))
  refine Wk 0 Xc ?_
  refine Wk 1 Ub ?_
  refine Wd (Qc (Nz 2 ?_))
  refine Wk 0 Nc ?_
  refine Wk 1 Za ?_
  refine Wd (Qc (Nz 2 ?_))
  refine Wd (Qc (CS.cond rfl ?_ ?_))<;>intro hc2<;>try simp only [bq] at hc2
  ·
   exact absurd hc2 (by show ¬ a.2 + _ < 0; omega)
  refine Ck (Qb (Qc (Ny 0 ?_)))
  refine Wk 1 Za ?_
  exact Wd (QS.head ((a.1 + 1, a.2 + ((nth x.l a.1).l.length : Int))) rfl rfl ⟨⟨by simp; omega, by simp; omega, by show a.2 + _ = ((catL (x.l.take (a.1 + 1).toNat)).length : Int); omega⟩, by simp; omega⟩)
 have hae : a.1.toNat = x.l.length := by omega
 rw [hae, hta] at ha3
 refine Cv (Qe (Qe (Qx (Qc (Nz 1 ?_)))))
 refine Wc rfl rfl Jyg (fun u hu => Jwq _ (by omega) (by omega) u) (fun _ => rfl) ?_; intro v24 hv24
 refine Wz 1 ?_
 refine Wd (Qc (Cs (Nz 1 ?_)))
 refine Wk 1 Nc ?_
 refine Wd (Qc (Ce ?_))
 refine CS.loopM (σ := Int × Value) [8, 28, 29, 30, 31, 32, 33, 34] (fun s => [(27, .int .i64 s.1), (6, s.2)]) (fun s => [oT cEntry 84 s.2 (catL (x.l.take s.1.toNat))]) (fun s => 0 ≤ s.1 ∧ s.1 ≤ x.l.length ∧ s.2.oneCell' = true) (fun s => (x.l.length - s.1).toNat) (0, v24) (fun _ _ => rfl) rfl (by simp [catL]) ⟨by simp, by simp, hv24⟩ ?_
 intro q t hs
 obtain ⟨hq1, hq2, hq3⟩ := hs
 refine Nz 1 ?_
 refine Wd (Qc (Cs (CS.cond rfl ?_ ?_)))<;>intro hc3<;>try simp only [bq] at hc3
 ·
  have hxs : SlT cEntry w (nth x.l q.1) := hx.at hq1 (by omega)
  have hsn := congrArg List.length (Jia hq1 (show q.1 < (x.l.length : Int) by omega))
  have hle := Jri (l := x.l) (q.1 + 1).toNat
  rw [List.length_append] at hsn
  have hone := hxs.one
  refine Ck (Qc (Cs (Ce (Nz 0 ?_))))
  refine Wk 0 Xc ?_
  refine Wk 1 Ub ?_
  refine Wd (Qc (Ny 2 ?_))
  refine WS.appendTs (C := cEntry) (s := nth x.l q.1) (j := 0) sl67 zv84 rfl (by decide) rfl rfl rfl (fun u hu => hxs.st hu) hone (by omega) (by omega) (fun _ => rfl) (fun _ => rfl) ?_; intro v33 hv33
  refine Wz 1 ?_
  refine Wd (Qb (Qc (Ny 0 ?_)))
  refine Wk 1 Za ?_
  exact Wd (QS.head ((q.1 + 1, v33)) rfl (by show [_] = [_]; rw [Jia hq1 (by omega)]) ⟨⟨by simp; omega, by simp; omega, hv33⟩, by simp; omega⟩)
 have hqe : q.1.toNat = x.l.length := by omega
 refine Cv (Qe (Qe (Qx (Qc (Nz 2 ?_)))))
 exact Wd (Qc (Cr (out1 rfl rfl (fun u hu => ⟨_, hq3, by rw [hqe, hta] at hu; exact retF (j := 0) rfl u hu⟩))))
theorem Joa (a : Int) (w : World) :
  Calls Tryz.prog 131 #[.int .i64 a] w (RetB w (.bool false)) := by
 refine enter Tryz.func131 rfl rfl (Nat.le_of_ble_eq_true rfl) ?_
 refine Nz 1 ?_
 refine Wd (Qc (Nz 4 ?_))
 exact Wd (Qc (Cr (out1 rfl rfl (Jac (by simp)))))
theorem Jot (a b : Int) (w : World) :
  Calls Tryz.prog 68 #[.int .i64 a, .int .i64 b] w (RetB w (.int .i64 (cmpK a b))) := by
 refine enter Tryz.func68 rfl rfl (Nat.le_of_ble_eq_true rfl) ?_
 refine Nz 1 ?_
 refine Wd (Qc (Nz 1 ?_))
 refine Wk 1 (Cb rfl rfl Juc (fun u hu => Joa _ u)) ?_
 refine Wd (Qc (Nz 1 ?_))
 refine Wk 1 (Cb rfl rfl Juc (fun u hu => Joa _ u)) ?_
 refine Wd (Qc (Cs (Nz 1 ?_)))
 refine Wd (Qc (CS.cond rfl ?_ ?_))<;>intro hc1<;>try simp only [bq] at hc1
 ·
  exact absurd hc1 (by simp)
 refine Ck (Qc (Cs (Nz 1 ?_)))
 refine Wd (Qc (CS.cond rfl ?_ ?_))<;>intro hc2<;>try simp only [bq] at hc2
 ·
  exact absurd hc2 (by simp)
 refine Ck (Qc (Cs (Nz 3 ?_)))
 refine Wd (Qc (CS.cond rfl ?_ ?_))<;>intro hc3<;>try simp only [bq] at hc3
 ·
  refine Nz 1 ?_
  exact Wd (Qc (Cr (Qr (out1 rfl rfl (Jac (by unfold cmpK; grind))))))
 refine Ck (Qc (Cs (Nz 3 ?_)))
 refine Wd (Qc (CS.cond rfl ?_ ?_))<;>intro hc4<;>try simp only [bq] at hc4
 ·
  refine Nz 1 ?_
  exact Wd (Qc (Cr (Qr (out1 rfl rfl (Jac (by unfold cmpK; grind))))))
 refine Ck (Qc (Nz 1 ?_))
 exact Wd (Qc (Cr (out1 rfl rfl (Jac (by unfold cmpK; grind)))))
theorem Jjz (x y : Entr) (w : World) :
  Calls Tryz.prog 67 #[.agg #[.int .i64 x.t, .int .i64 x.k, .int .i64 x.m.p, .int .i64 x.m.k, .int .i64 x.m.n, .int .i64 x.a, .int .i64 x.b], .agg #[.int .i64 y.t, .int .i64 y.k, .int .i64 y.m.p, .int .i64 y.m.k, .int .i64 y.m.n, .int .i64 y.a, .int .i64 y.b]] w (RetB w (.int .i64 (cmpK (keyT x) (keyT y)))) := by
 refine enter Tryz.func67 rfl rfl (Nat.le_of_ble_eq_true rfl) ?_
 refine Nz 0 ?_
 refine Wb 0 rfl rfl (fun _ => rfl) (fun _ => rfl) fun b2 hb2 => ?_
 refine Wb 1 rfl rfl (fun _ => rfl) (fun _ => rfl) fun b3 hb3 => ?_
 refine Wd (Qc (Nz 1 ?_))
 refine Wk 1 (Ba 1) ?_
 refine Wk 0 (Ba 0) ?_
 refine Wk 1 (Cb rfl rfl J0i (fun u hu => Jot _ _ u)) ?_
 exact Wd (Qc (Cr (out1 rfl rfl retB)))
theorem Jgx (fn : FuncId) (hent : Ent Tryz.prog fn) (key : Entr → Int) (hcmp : ∀ (x y : Entr) (u : World), Calls Tryz.prog fn #[.agg #[.int .i64 x.t, .int .i64 x.k, .int .i64 x.m.p, .int .i64 x.m.k, .int .i64 x.m.n, .int .i64 x.a, .int .i64 x.b], .agg #[.int .i64 y.t, .int .i64 y.k, .int .i64 y.m.p, .int .i64 y.m.k, .int .i64 y.m.n, .int .i64 y.a, .int .i64 y.b]] u (RetB u (.int .i64 (cmpK (key x) (key y))))) (x : Sl Entr) (w : World) (hx : SlT cEntry w x) :
  Calls Tryz.prog 69 #[x.v, .func (.func fn) #[] #[]] w (RetB w (.bool (srtB key x.l))) := by
 have lx := hx.le
 refine enter Tryz.func69 rfl rfl (Nat.le_of_ble_eq_true rfl) ?_
 refine Nz 1 ?_
 refine Wd (Qc (Cs (Nz 1 ?_)))
 refine Wk 0 Nc ?_
 refine Wk 1 Zb ?_
 refine Wd (Qc (Ce ?_))
 refine CS.loopM (σ := Int) [4, 9, 10, 11, 12, 13, 14, 15, 16, 17, 18, 19, 20, 21, 22, 23, 24] (fun s => [(5, .int .i64 s)]) (fun _ => _) (fun s => -1 ≤ s ∧ s < x.l.length ∧ ∀ k : Int, s ≤ k → 0 ≤ k → k + 1 < x.l.length → key (nth x.l k) ≤ key (nth x.l (k + 1))) (fun s => s.toNat) ((x.l.length : Int) - 1) (fun _ _ => rfl) rfl rfl ⟨by omega, by omega, fun k h1 h2 h3 => by omega⟩ ?_
 intro s t hs
 obtain ⟨hs1, hs2, hs3⟩ := hs
 refine Cs (Nz 2 ?_)
 refine Wd (Qc (CS.cond rfl ?_ ?_))<;>intro hc1<;>try simp only [bq] at hc1
 ·
  refine Ck (Qc (Cs (Ce (Cs (Dr Jal 3 ?_)))))
  refine Dk 0 Xc ?_
  refine Dk 2 Ua ?_
  refine Dk 0 Zb ?_
  refine Dk 0 Xc ?_
  refine Dk 0 Ua ?_
  refine Dk 1 (Cb rfl rfl hent (fun u hu => hcmp _ _ u)) ?_
  refine Dd (Qc (CS.cond rfl ?_ ?_))<;>intro hc2<;>try simp only [bq] at hc2
  ·
   have hcc : key (nth x.l s) < key (nth x.l (s - 1)) := Jd5.1 (by first | exact hc2 | simpa using hc2)
   refine Nz 1 ?_
   exact Wd (Qc (Cr (Qs (Qr (Qr (Qs (Qr (out1 rfl rfl (Jac (by rw [Joj (k := s - 1) (by omega) (by omega) (by rw [show s - 1 + 1 = s by omega]; omega)]))))))))))
  have hcc : key (nth x.l (s - 1)) ≤ key (nth x.l s) := Jh5.1 (by first | exact hc2 | simpa using hc2)
  refine Ck (Qb (Qc (Ny 1 ?_)))
  refine Wk 1 Zb ?_
  refine Wd ?_
  exact QS.head (s - 1) rfl rfl ⟨⟨by omega, by omega, fun k h1 h2 h3 => by
     rcases (show k = s - 1 ∨ s ≤ k by omega) with h | h
     ·
      rw [h, show s - 1 + 1 = s by omega]; exact hcc
     exact hs3 k h h2 h3⟩, by omega⟩
 refine Cv (Qe (Qe (Qx (Qc (Nz 1 ?_)))))
 exact Wd (Qc (Cr (out1 rfl rfl (Jac (by rw [Jmx fun k h0 h1 => hs3 k (by omega) h0 h1])))))
theorem Jjd (x : Sl Entr) (w : World) (hx : SlT cEntry w x) :
  Calls Tryz.prog 72 #[x.v] w (RetB w (.bool (srtB keyT x.l))) := by
 have lx := hx.le
 refine enter Tryz.func72 rfl rfl (Nat.le_of_ble_eq_true rfl) ?_
 refine Nz 1 ?_
 refine Wd (Qc (Cs (Nz 1 ?_)))
 refine Wd (Qc (Ce ?_))
 refine CS.loopM (σ := Int) [2, 4, 5, 6, 7, 8, 9, 10, 11, 12, 13, 14, 15, 16, 17, 18, 19, 20, 21] (fun s => [(3, .int .i64 s)]) (fun _ => _) (fun s => 1 ≤ s ∧ (s ≤ x.l.length ∨ s = 1) ∧ ∀ k : Int, 0 ≤ k → k + 1 < s → k + 1 < x.l.length → keyT (nth x.l k) ≤ keyT (nth x.l (k + 1))) (fun s => (x.l.length - s).toNat) 1 (fun _ _ => rfl) rfl rfl ⟨by omega, .inr rfl, fun k h1 h2 h3 => by omega⟩ ?_
 intro s t hs
 obtain ⟨hs1, hs2, hs3⟩ := hs
 refine Cs (Nz 2 ?_)
 refine Wk 1 Nc ?_
 refine Wd (Qc (CS.cond rfl ?_ ?_))<;>intro hc1<;>try simp only [bq] at hc1
 ·
  refine Ck (Qc (Cs (Ce (Cs (Dr Jal 2 ?_)))))
  refine Dk 1 Xc ?_
  refine Dk 2 (Uc 7 0) ?_
  refine Dk 0 Zb ?_
  refine Dk 1 Xc ?_
  refine Dk 1 (Uc 7 0) ?_
  refine Dd (Qc (CS.cond rfl ?_ ?_))<;>intro hc2<;>try simp only [bq] at hc2
  ·
   refine Nz 1 ?_
   exact Wd (Qc (Cr (Qs (Qr (Qr (Qs (Qr (out1 rfl rfl (Jac (by rw [Joj (k := s - 1) (by omega) (by omega) (by rw [show s - 1 + 1 = s by omega]; show ¬ (nth x.l (s - 1)).t ≤ (nth x.l s).t; omega)]))))))))))
  refine Ck (Qb (Qc (Ny 1 ?_)))
  refine Wk 1 Za ?_
  refine Wd ?_
  exact QS.head (s + 1) rfl rfl ⟨⟨by omega, by omega, fun k h1 h2 h3 => by
     rcases (show k = s - 1 ∨ k + 1 < s by omega) with h | h
     ·
      rw [h, show s - 1 + 1 = s by omega]; show (nth x.l (s - 1)).t ≤ (nth x.l s).t; omega
     exact hs3 k h1 h h3⟩, by omega⟩
 refine Cv (Qe (Qe (Qx (Qc (Nz 1 ?_)))))
 exact Wd (Qc (Cr (out1 rfl rfl (Jac (by rw [Jmx fun k h0 h1 => hs3 k h0 (by omega) h1])))))
theorem Jo1 (x y : Sl Entr) (w : World) (hx : SlT cEntry w x) (hy : SlT cEntry w y) :
  Calls Tryz.prog 26 #[x.v, y.v] w (RetB w (.int .i64 (Jcf x.l y.l 0))) := by
 have lx := hx.le
 have ly := hy.le
 refine enter Tryz.func26 rfl rfl (Nat.le_of_ble_eq_true rfl) ?_
 refine Nz 1 ?_
 refine Wd (Qc (Cs (Nz 1 ?_)))
 refine Wk 1 Nc ?_
 refine Wk 0 Nc ?_
 refine Wk 1 (Jvu rfl rfl) ?_
 refine Wd (Qc (Ce ?_))
 refine CS.loopM (σ := Int) [4, 5, 12, 13, 14, 15, 16, 17, 18, 19, 20, 21, 22, 23, 24, 25, 26, 27, 28, 29, 30, 31, 32, 33, 34, 35, 36] (fun s => [(11, .int .i64 s)]) (fun _ => _) (fun s => 0 ≤ s ∧ s ≤ x.l.length ∧ s ≤ y.l.length ∧ Jcf x.l y.l 0 = Jcf (x.l.drop s.toNat) (y.l.drop s.toNat) s) (fun s => (x.l.length - s).toNat) 0 (fun _ _ => rfl) rfl rfl ⟨by omega, by omega, by omega, by simp⟩ ?_
 intro s t hs
 obtain ⟨hs1, hs2, hs3, hs4⟩ := hs
 refine Nz 1 ?_
 refine Wd (Qc (Cs (CS.cond rfl ?_ ?_)))<;>intro hc1<;>try simp only [bq] at hc1
 ·
  refine Ck (Qc (Cs (Ce (Nz 2 ?_))))
  refine Wd (Qc (Cs (Dr Jal 2 ?_)))
  refine Dk 2 Nc ?_
  refine Df 0 rfl rfl (fun hg => Fm) ?_
  refine Df 0 rfl rfl (fun hg => Fm) ?_
  refine Df 0 rfl rfl (fun hg => Nc (eg_ hg rfl)) ?_
  refine Df 0 rfl rfl (fun hg => Fh) ?_
  refine Dk 1 Po ?_
  refine Df 0 rfl rfl (fun hg => Fm) ?_
  refine Df 0 rfl rfl (fun hg => Fm) ?_
  refine Df 0 rfl rfl (fun hg => Xc (eg_ hg rfl)) ?_
  refine Df 0 rfl rfl (fun hg => Ua) ?_
  refine Df 0 rfl rfl (fun hg => Fm) ?_
  refine Df 0 rfl rfl (fun hg => Fm) ?_
  refine Df 0 rfl rfl (fun hg => Xc (eg_ hg rfl)) ?_
  refine Df 0 rfl rfl (fun hg => Ua) ?_
  refine Df 0 rfl rfl (fun hg => Jho Jj8 (eg_ hg rfl) (eg_ hg rfl) (Jgc (nth x.l s) (nth y.l s))) ?_
  refine Dk 0 Po ?_
  refine Dd (Qc (CS.cond rfl ?_ ?_))<;>intro hc2<;>try simp only [bq] at hc2
  ·
   refine Nz 2 ?_
   refine Wd (Qc (Cr (Qs (Qr (Qr (Qs (Qr ?_)))))))
   exact out1 rfl rfl (Jac (by
      rw [hs4]
      by_cases h1 : s < (x.l.length : Int)
      ·
       by_cases h2 : s < (y.l.length : Int)
       ·
        rw [Jmq hs1 h1 h2 (by grind)]
       rw [Jec hs1 (.inl ⟨h1, h2⟩)]
      rw [Jec hs1 (.inr ⟨h1, by grind⟩)]))
  have hbb : (s < (x.l.length : Int) ∧ s < (y.l.length : Int)) ∧ nth x.l s = nth y.l s := by grind
  refine Ck (Qb (Qc (Ny 0 ?_)))
  refine Wk 1 Za ?_
  exact Wd (QS.head (s + 1) rfl rfl ⟨⟨by omega, by omega, by omega, by rw [hs4, Jhn hs1 hbb.1.1 hbb.1.2 hbb.2]⟩, by omega⟩)
 refine Cv (Qe (Qe (Qx (Qc (Nz 1 ?_)))))
 exact Wd (Qc (Cr (out1 rfl rfl (Jac (by rw [hs4, Jjm (by omega) (by omega)])))))
theorem Jja {a b : List Entr} (hle : ¬ 500 < (a.length : Int) + b.length) (h : srtB keyT a = true ∧ srtB keyT b = true) : Jc1 a b = (0, Jbk keyT a b) := (if_neg hle).trans (if_pos (by rw [h.1, h.2]; rfl))
section
variable {n0 : Nat} {w0 : World} {L : List SA} {u : World}
theorem St.sorts {a : SA} (p : World → Prop) (hp : ∀ u, p u) (h : St n0 w0 [a] u) : St n0 w0 [a, roS p, roS p] u := ((h.roTrue hp).roTrue hp).sel [2, 0, 0] rfl
end
theorem Jlf (x y : Sl Entr) (w : World) (hx : SlT cEntry w x) (hy : SlT cEntry w y) (hmx : x.l.length ≤ 1000000) (hmy : y.l.length ≤ 1000000) :
  Calls Tryz.prog 22 #[x.v, y.v] w (RetT cEntry w (Jc1 x.l y.l).2 fun v => .tuple #[v, .int .i64 (Jc1 x.l y.l).1]) := by
 have lx := hx.le
 have ly := hy.le
 have ox := (cSl cEntry).one w x hx
 have oy := (cSl cEntry).one w y hy
 refine enter Tryz.func22 rfl rfl (Nat.le_of_ble_eq_true rfl) ?_
 refine Nz 2 ?_
 refine Wd (Qc (Cs (Nz 1 ?_)))
 refine Wk 1 Nc ?_
 refine Wk 0 Nc ?_
 refine Wk 1 Za ?_
 refine Wd (Qc (CS.cond rfl ?_ ?_))<;>intro hc1<;>try simp only [bq] at hc1
 ·
  have hgt : 500 < (x.l.length : Int) + y.l.length := by first | omega | (simp at hc1; omega)
  refine Nz 2 ?_
  refine Wd (Qc (Cr (Qr ?_)))
  exact out2 rfl rfl rfl (fun u hu => by
     have hv : Jc1 x.l y.l = (2, []) := if_pos hgt
     rw [hv]
     exact Ji2 (C := cEntry) (f := fun v => .tuple #[v, .int .i64 2]) hu)
 have hle : ¬ 500 < (x.l.length : Int) + y.l.length := by first | omega | (simp at hc1; omega)
 refine Ck (Qc (Nz 1 ?_))
 refine Wd (Qc (Cs (Nz 2 ?_)))
 refine Wk 2 (Cb rfl rfl Jyb (fun u hu => Jgx 67 Jwf keyT (fun x y u => Jjz x y u) x u (hx.st hu))) ?_
 refine Wf 0 rfl rfl (fun hg => Fm) ?_
 refine Wf 0 rfl rfl (fun hg => Fm) ?_
 refine Wf 0 rfl rfl (fun hg => Cb rfl (ec_ (eg_ hg rfl) (ec_ (eg_ hg rfl) en_)) Jyb (fun u hu => Jgx 67 Jwf keyT (fun x y u => Jjz x y u) y u (hy.st hu))) ?_
 refine Wf 0 rfl rfl (fun hg => Fn) ?_
 refine Wk 0 Po ?_
 refine Wd (Qc (CS.cond rfl ?_ ?_))<;>intro hc2<;>try simp only [bq] at hc2
 ·
  have hns : (srtB keyT x.l && srtB keyT y.l) = false := by cases hp : srtB keyT x.l <;> cases hq : srtB keyT y.l <;> simp_all
  refine Nz 2 ?_
  refine Wd (Qc (Cr (Qr ?_)))
  exact out2 rfl rfl rfl (fun u hu => by
     have hv : Jc1 x.l y.l = (120, []) := (if_neg hle).trans (if_neg (by rw [hns]; decide))
     rw [hv]
     exact Ji2 (C := cEntry) (f := fun v => .tuple #[v, .int .i64 120]) hu)
 have hys : srtB keyT x.l = true ∧ srtB keyT y.l = true := by cases hp : srtB keyT x.l <;> cases hq : srtB keyT y.l <;> simp_all
 refine Ck (Qc (Nz 2 ?_))
 refine WS.buildSlice1 sl73 zv67 (vs := [x.v, y.v]) rfl rfl (by decide) (fun v h => by rcases List.mem_cons.1 h with rfl | h; exact ox _ (List.mem_singleton.2 rfl); exact oy _ h) (fun _ => rfl) ?_; intro v26
 refine Wc rfl rfl J0n (fun u hu => Jqp ⟨v26, [x, y]⟩ u (Jhh (C := cSl cEntry) (xs := [x, y]) hu (j := 0) rfl (fun a ha ↦ by rcases List.mem_cons.1 ha with rfl | ha; exact hx.st hu; rw [List.mem_singleton.1 ha]; exact hy.st hu)) (by show ((catL [x, y]).length : Int) ≤ _; simp [catL]; omega)) (fun _ => rfl) ?_; intro v27 hv27
 refine Wz 1 ?_
 refine Wd (Qc (Nz 2 ?_))
 refine WS.sel [0] rfl ?_
 refine WS.weak (fun u hu => St.sorts (fun _ => True) (fun _ => trivial) hu) ?_
 refine WS.callS (β := List Entr) (p := fun ys => Srt keyT ys ∧ Eqv keyT (catL [x, y]) ys) (v := fun _ => .tuple #[]) (L' := fun ys => [oT cEntry 84 v27 ys, roS fun _ => True, roS fun _ => True]) rfl rfl J00 (fun u hu => Jv4 (fun _ => True) _ 67 [] Jwf keyT (fun x y u _ => Jjz x y u) v27 (catL [x, y]) (by simp [catL]; omega) hu) (fun _ => rfl) ?_; rintro ys ⟨hys1, hys2⟩
 refine Wd (Qc (Nz 3 ?_))
 refine Wd (Qc (Cr ?_))
 exact out2 rfl rfl rfl (by
    rw [Jja hle hys, ← Jq0 (Jfr.1 hys.1) (Jfr.1 hys.2) hys1 (by simpa [catL] using hys2)]
    exact fun u hu => retT (C := cEntry) (f := fun v => .tuple #[v, .int .i64 0]) (j := 0) (fun _ _ _ => trivial) rfl hu)
theorem Jsl (x y : Sl Entr) (w : World) (hx : SlT cEntry w x) (hy : SlT cEntry w y) (hmx : x.l.length ≤ 1000000) (hmy : y.l.length ≤ 1000000) :
  Calls Tryz.prog 24 #[x.v, y.v] w (RetT cEntry w (Jc1 x.l y.l).2 fun v => .tuple #[v, .int .i64 (Jc1 x.l y.l).1]) := by
 have lx := hx.le
 have ly := hy.le
 refine enter Tryz.func24 rfl rfl (Nat.le_of_ble_eq_true rfl) ?_
 refine Nz 2 ?_
 refine Wd (Qc (Cs (Nz 1 ?_)))
 refine Wk 1 Nc ?_
 refine Wk 0 Nc ?_
 refine Wk 1 Za ?_
 refine Wd (Qc (CS.cond rfl ?_ ?_))<;>intro hc1<;>try simp only [bq] at hc1
 ·
  have hgt : 500 < (x.l.length : Int) + y.l.length := by first | omega | (simp at hc1; omega)
  refine Nz 2 ?_
  refine Wd (Qc (Cr (Qr ?_)))
  exact out2 rfl rfl rfl (fun u hu => by
     have hv : Jc1 x.l y.l = (2, []) := if_pos hgt
     rw [hv]
     exact Ji2 (C := cEntry) (f := fun v => .tuple #[v, .int .i64 2]) hu)
 have hle : ¬ 500 < (x.l.length : Int) + y.l.length := by first | omega | (simp at hc1; omega)
 refine Ck (Qc (Cs (Nz 1 ?_)))
 refine Wk 2 (Cb rfl rfl Jxn (fun u hu => Jjd x u (hx.st hu))) ?_
 refine Wf 0 rfl rfl (fun hg => Fm) ?_
 refine Wf 0 rfl rfl (fun hg => Cb rfl (ec_ (eg_ hg rfl) en_) Jxn (fun u hu => Jjd y u (hy.st hu))) ?_
 refine Wf 0 rfl rfl (fun hg => Fn) ?_
 refine Wk 0 Po ?_
 refine Wd (Qc (CS.cond rfl ?_ ?_))<;>intro hc2<;>try simp only [bq] at hc2
 ·
  have hns : (srtB keyT x.l && srtB keyT y.l) = false := by cases hp : srtB keyT x.l <;> cases hq : srtB keyT y.l <;> simp_all
  refine Nz 2 ?_
  refine Wd (Qc (Cr (Qr ?_)))
  exact out2 rfl rfl rfl (fun u hu => by
     have hv : Jc1 x.l y.l = (120, []) := (if_neg hle).trans (if_neg (by rw [hns]; decide))
     rw [hv]
     exact Ji2 (C := cEntry) (f := fun v => .tuple #[v, .int .i64 120]) hu)
 have hys : srtB keyT x.l = true ∧ srtB keyT y.l = true := by cases hp : srtB keyT x.l <;> cases hq : srtB keyT y.l <;> simp_all
 refine Ck (Qc (Nz 1 ?_))
 refine Wd (Qc (Cs (Ce ?_)))
 refine CS.weak (fun _ hu => hu.osl0 (e := 84) (size := 7)) ?_
 refine CS.loopM (σ := Sl Entr × Sl Entr × Value × List Entr) [21, 22, 23, 24, 25, 26, 27, 28, 29, 30, 31, 32, 33, 34, 35, 36, 37, 38, 39, 40, 41, 42, 43, 44, 45, 46, 47, 48, 49, 50, 51, 52, 53, 54, 55, 56, 57, 58, 59, 60, 61] (fun s => [(0, s.1.v), (1, s.2.1.v), (6, s.2.2.1)]) (fun s => [oT cEntry 84 s.2.2.1 s.2.2.2]) (fun s => SlT cEntry w s.1 ∧ SlT cEntry w s.2.1 ∧ (s.2.2.2.length : Int) + s.1.l.length + s.2.1.l.length = x.l.length + y.l.length ∧ Jbk keyT x.l y.l = s.2.2.2 ++ Jbk keyT s.1.l s.2.1.l) (fun s => s.1.l.length + s.2.1.l.length) (x, y, .slice none 0 0, []) (fun _ _ => rfl) rfl rfl ⟨hx, hy, by simp, by simp⟩ ?_
 intro s t hs
 obtain ⟨hs1, hs2, hs3, hs4⟩ := hs
 have hl1 := hs1.le
 have hl2 := hs2.le
 refine Cs (Nz 1 ?_)
 refine Wk 1 Nc ?_
 refine Wk 0 Nc ?_
 refine Wk 1 Za ?_
 refine Wd (Qc (CS.cond rfl ?_ ?_))<;>intro hc3<;>try simp only [bq] at hc3
 ·
  refine Ck (Qc (Ce (Cs (Dr Jal 1 ?_))))
  refine Dk 2 Nc ?_
  refine Df 0 rfl rfl (fun hg => Fm) ?_
  refine Df 0 rfl rfl (fun hg => Nc (eg_ hg rfl)) ?_
  refine Df 0 rfl rfl (fun hg => Fg) ?_
  refine Df 0 rfl rfl (fun hg => Fm (eg_ hg rfl)) ?_
  refine Dn 0 rfl rfl rfl (fun hg => Fm) ?_
  refine Dn 0 rfl rfl rfl (fun hg => Xc (eg_ hg rfl)) ?_
  refine Dn 0 rfl rfl rfl (fun hg => Ff) ?_
  refine Dn 0 rfl rfl rfl (fun hg => Uc 7 0) ?_
  refine Dn 0 rfl rfl rfl (fun hg => Fm) ?_
  refine Dn 0 rfl rfl rfl (fun hg => Xc (eg_ hg rfl)) ?_
  refine Dn 0 rfl rfl rfl (fun hg => Ff) ?_
  refine Dn 0 rfl rfl rfl (fun hg => Uc 7 0) ?_
  refine Dn 0 rfl rfl rfl (fun hg => Fk) ?_
  refine Df 0 rfl rfl (fun hg => Jb8 (eg_ hg rfl) (Jim hg rfl) rfl) ?_
  refine Dk 0 Po ?_
  refine Dd (Qc (CS.cond rfl ?_ ?_))<;>intro hc4<;>try simp only [bq] at hc4
  ·
   have ho : s.2.1.l = [] ∨ (0 < s.1.l.length ∧ 0 < s.2.1.l.length ∧ (nth s.1.l 0).t ≤ (nth s.2.1.l 0).t) := by
    by_cases h : s.2.1.l.length = 0
    ·
     exact .inl (List.eq_nil_of_length_eq_zero h)
    right; grind
   have hp : 0 < s.1.l.length := by
    rcases ho with h | h
    ·
     rw [h] at hc3; simp at hc3; omega
    exact h.1
   have hst := Jkk ho hp
   have hls := hs1.le
   refine Nz 2 ?_
   refine Wk 0 Xc ?_
   refine Wk 0 Ua ?_
   refine WS.buildT1 cEntry (a := (nth s.1.l 0)) sl67 zv84 rfl (by decide) (fun _ => rfl) ?_; intro v50
   refine WS.appendT1 (C := cEntry) (a := (nth s.1.l 0)) (j := 1) (jz := 0) sl67 zv84 rfl (by decide) rfl rfl rfl rfl (w := w) trivial (by omega) (by omega) (fun _ => rfl) (fun _ => rfl) ?_; intro v51 hv51
   refine Wz 1 ?_
   refine Wd (Qc (Ny 1 ?_))
   refine Wk 1 (Jhv sl67 rfl rfl hs1.sp (by decide) (by omega)) ?_
   refine Wd (Qb ?_)
   refine QS.sel [1] rfl ?_
   exact QS.head ((s.1.cut 7 1 s.1.l.length, s.2.1, v51, s.2.2.2 ++ [nth s.1.l 0])) rfl rfl ⟨⟨hs1.cut (C := cEntry) (by omega) (Nat.le_refl _), hs2, by simp [Sl.cut]; omega, by rw [hs4, hst, List.append_assoc]; simp [Sl.cut, List.drop_one]; rw [List.take_of_length_le (by simp)]⟩, by simp [Sl.cut]; omega⟩
  have hp : 0 < s.2.1.l.length := by grind
  have ho : s.1.l = [] ∨ ¬ (nth s.1.l 0).t ≤ (nth s.2.1.l 0).t := by
   by_cases h : s.1.l.length = 0
   ·
    exact .inl (List.eq_nil_of_length_eq_zero h)
   right; grind
  have hst := Jkx ho hp
  have hls := hs2.le
  refine Nz 2 ?_
  refine Wk 0 Xc ?_
  refine Wk 0 Ua ?_
  refine WS.buildT1 cEntry (a := (nth s.2.1.l 0)) sl67 zv84 rfl (by decide) (fun _ => rfl) ?_; intro v58
  refine WS.appendT1 (C := cEntry) (a := (nth s.2.1.l 0)) (j := 1) (jz := 0) sl67 zv84 rfl (by decide) rfl rfl rfl rfl (w := w) trivial (by omega) (by omega) (fun _ => rfl) (fun _ => rfl) ?_; intro v59 hv59
  refine Wz 1 ?_
  refine Wd (Qc (Ny 1 ?_))
  refine Wk 1 (Jhv sl67 rfl rfl hs2.sp (by decide) (by omega)) ?_
  refine Wd (Qb ?_)
  refine QS.sel [1] rfl ?_
  exact QS.head ((s.1, s.2.1.cut 7 1 s.2.1.l.length, v59, s.2.2.2 ++ [nth s.2.1.l 0])) rfl rfl ⟨⟨hs1, hs2.cut (C := cEntry) (by omega) (Nat.le_refl _), by simp [Sl.cut]; omega, by rw [hs4, hst, List.append_assoc]; simp [Sl.cut, List.drop_one]; rw [List.take_of_length_le (by simp)]⟩, by simp [Sl.cut]; omega⟩
 have hA : s.1.l = [] := List.eq_nil_of_length_eq_zero (by omega)
 have hB : s.2.1.l = [] := List.eq_nil_of_length_eq_zero (by omega)
 rw [hA, hB, Jbc, List.append_nil] at hs4
 refine Cv (Qe (Qe (Qx (Qc (Nz 3 ?_)))))
 refine Wd (Qc (Cr ?_))
 exact out2 rfl rfl rfl (by
    rw [Jja hle hys, hs4]
    exact fun u hu => retT (C := cEntry) (f := fun v => .tuple #[v, .int .i64 0]) (j := 0) (fun _ _ _ => trivial) rfl hu)
end Go.Proofs.YtbboikncaihafaaGreatDoor
