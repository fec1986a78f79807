/- Merged texts of this proof (walks and plain laws), printed by a program of the prover. -/
import Derived.Test.YtaeagngfhceceaaGreatDoorY0
import Derived.Test.YtaeagngfhceceaaGreatDoorY1
import Derived.Test.YtaeagngfhceceaaGreatDoorY3
import Derived.Test.YtaeagngfhceceaaGreatDoorY4
import Derived.Test.YtaeagngfhceceaaGreatDoorY5
import Derived.Test.YtaeagngfhceceaaGreatDoorY7
import Derived.Test.YtaeagngfhceceaaGreatDoorY8
import Derived.Test.YtaeagngfhceceaaGreatDoorZa
import Derived.Test.YtaeagngfhceceaaGreatDoorZb
import Derived.Test.YtaeagngfhceceaaGreatDoorProg
import Derived.KernelRfl
import Derived.Test.YtaeagngfhceceaaGreatDoorZc
import Derived.Test.YtaeagngfhceceaaGreatDoorZg
import Derived.Test.YtaeagngfhceceaaGreatDoorZo
import Derived.Test.YtaeagngfhceceaaGreatDoorZm
import Derived.Test.YtaeagngfhceceaaGreatDoorZp
namespace Go.Proofs.YtaeagngfhceceaaGreatDoor
set_option linter.unusedVariables false
set_option linter.unusedSimpArgs false
open Go.RowKit
section
variable {k : Nat} {s n i m : Int} {xs : List Int}
end
section
variable {w s : Int} {cs : List Clue} {n : Nat}
end
end Go.Proofs.YtaeagngfhceceaaGreatDoor
namespace Go.Proofs.YtaeagngfhceceaaGreatDoor
set_option linter.unusedVariables false
set_option linter.unusedSimpArgs false
open Go.RowKit
section
variable {L : List (List Int)} {gs : List Value} {i m : Int} {v : Value}
end
section
variable {P : Program} {l : List Value} {d : Option Tmp} {ty : TypeId} {ps : String} {af : Array Edge} {g : Option (Nat × Bool)} {C : World → Prop}
end
end Go.Proofs.YtaeagngfhceceaaGreatDoor
namespace Go.Proofs.YtaeagngfhceceaaGreatDoor
set_option linter.unusedVariables false
set_option linter.unusedSimpArgs false
open Go.RowKit Go.Proofs
section
variable {P : Program} {ro : Option Nat} {n0 : Nat} {w0 : World} {ds : List Deferred} {ops : Array Oper} {Q : Exit → Act → World → Prop} {L : List SA}
  {rest : List Oper} {l : List Value} {d : Option Tmp} {ty : TypeId} {ps : String} {af : Array Edge} {g : Option (Nat × Bool)} {C : World → Prop} {u : World}
end
end Go.Proofs.YtaeagngfhceceaaGreatDoor
namespace Go.Proofs.YtaeagngfhceceaaGreatDoor
set_option linter.unusedVariables false
set_option linter.unusedSimpArgs false
open Go.RowKit Go.Proofs
section
variable {α : Type} [Inhabited α] {cs : List α} {ns ms : List Nat}
end
section
variable {w s : Int} {cs : List Clue} {i : Nat}
end
section
variable {P : Program} {ro : Option Nat} {n0 : Nat} {w0 : World} {ds : List Deferred} {ops : Array Oper} {Q : Exit → Act → World → Prop} {L : List SA}
  {rest : List Oper} {l : List Value} {d : Option Tmp} {ty : TypeId} {ps : String} {af : Array Edge} {g : Option (Nat × Bool)} {C : World → Prop}
theorem ev_nestF {x : Operand} {v : Value} {c b : Bool} (hg : c = true) (h : evo l x = some (cond (c && (b == false)) v undef)) : evo l x = some (cond (!b) v undef) := by subst hg; cases b <;> exact h
end
end Go.Proofs.YtaeagngfhceceaaGreatDoor
namespace Go.Proofs.YtaeagngfhceceaaGreatDoor
set_option linter.unusedVariables false
set_option linter.unusedSimpArgs false
open Go.RowKit
section
variable {P : Program} {ro : Option Nat} {n0 : Nat} {w0 : World} {ds : List Deferred} {ops : Array Oper} {Q : Exit → Act → World → Prop} {L : List SA} {rest : List Oper} {l : List Value} {ty : TypeId} {ps : String} {af : Array Edge}
  {α : Type} {C : Cel α}
end
def soFar (r : Room) (x : P3) (p k n : Int) : List Move := (candL p.toNat ++ (candP p (k - 1).toNat ++ candK p k n.toNat)).filter (legalB r x)
theorem soFar_0 {r : Room} {x : P3} {p : Int} : soFar r x p 1 0 = (candL p.toNat).filter (legalB r x) := by simp [soFar, candP, candK]
theorem soFar_k {r : Room} {x : P3} {p k : Int} (h0 : 1 ≤ k) : soFar r x p k 24 = soFar r x p (k + 1) 0 := by
  have : (k + 1 - 1).toNat = (k - 1).toNat + 1 := by omega
  unfold soFar
  rw [this, candP, show (((k - 1).toNat : Nat) : Int) + 1 = k by omega]
  simp [candK]
theorem soFar_p {r : Room} {x : P3} {p : Int} (h0 : 0 ≤ p) : soFar r x p 5 0 = soFar r x (p + 1) 1 0 := by
  unfold soFar
  rw [show (p + 1).toNat = p.toNat + 1 by omega, candL, show ((p.toNat : Nat) : Int) = p by omega]
  simp [candP, candK]
theorem soFar_yes {r : Room} {x : P3} {p k n : Int} (h0 : 0 ≤ n) (h : legalB r x ⟨p, k, n⟩ = true) : soFar r x p k n ++ [⟨p, k, n⟩] = soFar r x p k (n + 1) := by
  unfold soFar
  rw [candK_snoc _ _ h0, ← List.append_assoc (candP _ _), ← List.append_assoc (candL _), List.filter_append (candL p.toNat ++ _)]
  simp [List.filter_cons, h]
theorem soFar_no {r : Room} {x : P3} {p k n : Int} (h0 : 0 ≤ n) (h : legalB r x ⟨p, k, n⟩ = false) : soFar r x p k n = soFar r x p k (n + 1) := by
  unfold soFar
  rw [candK_snoc _ _ h0, ← List.append_assoc (candP _ _), ← List.append_assoc (candL _), List.filter_append (candL p.toNat ++ _)]
  simp [List.filter_cons, h]
theorem soFar_len {r : Room} {x : P3} {p k n : Int} (h0 : p ≤ 4) (h1 : k ≤ 5) (h2 : n ≤ 24) : (soFar r x p k n).length ≤ 1000 := by
  have := List.length_filter_le (legalB r x) (candL p.toNat ++ (candP p (k - 1).toNat ++ candK p k n.toNat))
  simp only [List.length_append, candL_len, candP_len, candK_len] at this
  unfold soFar
  omega
theorem retMr {w0 u : World} {L : List SA} {j : Nat} {v : Value} {x : List Move} {f : Value → Value} (hj : L[j]? = some (roT cMove ⟨v, x⟩)) (hu : St w0.heap.size w0 L u) : RetM w0 x f (.returned (f v)) u := ⟨v, ⟨u, hu.ro hj⟩, retF hj u hu⟩
end Go.Proofs.YtaeagngfhceceaaGreatDoor
namespace Go.Proofs.YtaeagngfhceceaaGreatDoor
set_option linter.unusedVariables false
set_option linter.unusedSimpArgs false
open Go.RowKit
section
variable {P : Program} {ro : Option Nat} {n0 : Nat} {w0 : World} {ds : List Deferred} {ops : Array Oper} {Q : Exit → Act → World → Prop} {L : List SA}
  {rest : List Oper} {l : List Value} {d : Option Tmp} {ty : TypeId} {ps : String} {af : Array Edge} {g : Option (Nat × Bool)} {C : World → Prop}
end
theorem mem_legal {r : Room} {x : P3} {i : Int} (h0 : 0 ≤ i) (h1 : i < (legalL r x).length) : legalB r x (nth (legalL r x) i) = true := (List.mem_filter.1 (nth_mem h0 h1)).2
end Go.Proofs.YtaeagngfhceceaaGreatDoor
namespace Go.Proofs.YtaeagngfhceceaaGreatDoor
open Go.Proofs
theorem ent30 : Ent Tryz.prog 30 := ent_of Tryz.func30 (by kernel_rfl) rfl
theorem ent86 : Ent Tryz.prog 86 := ent_of Tryz.func86 (by kernel_rfl) rfl
theorem ent143 : Ent Tryz.prog 143 := ent_of Tryz.func143 (by kernel_rfl) rfl
theorem ent144 : Ent Tryz.prog 144 := ent_of Tryz.func144 (by kernel_rfl) rfl
theorem ent174 : Ent Tryz.prog 174 := ent_of Tryz.func174 (by kernel_rfl) rfl
theorem ent197 : Ent Tryz.prog 197 := ent_of Tryz.func197 (by kernel_rfl) rfl
theorem ent224 : Ent Tryz.prog 224 := ent_of Tryz.func224 (by kernel_rfl) rfl
end Go.Proofs.YtaeagngfhceceaaGreatDoor
set_option maxHeartbeats 8000000
namespace Go.Proofs.YtaeagngfhceceaaGreatDoor
open Go.RowKit Go.Proofs
set_option maxRecDepth 100000
set_option linter.unusedVariables false
set_option linter.unusedSimpArgs false
theorem Rhand_c (z : Stt) (w : World) (hz : SttOk w z) (p : Int) (h0 : 0 ≤ p) (h1 : p ≤ 3) (hl : z.prs.l.length ≤ 1000000) :
  Calls Tryz.prog 224 #[.agg #[z.ths.v, z.prs.v, z.pls.v], .int .i64 p] w (RetB w (.int .i64 (cnt z.prs.l (-2 - p)))) := by
 have zth := hz.ths.ints
 have zpr := hz.prs.ints
 have zpl := hz.pls.ints
 refine enter Tryz.func224 rfl rfl (Nat.le_of_ble_eq_true rfl) ?_
 refine Nz 0 ?_
 refine Wb 1 rfl rfl (fun _ => rfl) (fun _ => rfl) fun b2 hb2 => ?_
 refine Wd (Qc (Nz 1 ?_))
 refine Wd (Qc (Cs (Nz 1 ?_)))
 refine Wd (Qc (Ce ?_))
 refine CS.loopM (σ := Int × Int) [7, 8, 9, 10, 11, 12, 13, 14, 15, 16, 17, 18, 19, 20, 21, 22, 23] (fun s => [(6, .int .i64 s.1), (5, .int .i64 s.2)]) (fun _ => _) (fun s => 0 ≤ s.1 ∧ s.1 ≤ z.prs.l.length ∧ s.2 = cnt (z.prs.l.take s.1.toNat) (-2 - p)) (fun s => (z.prs.l.length - s.1).toNat) (0, 0) (fun _ _ => rfl) rfl rfl ⟨by simp, by simp, rfl⟩ ?_
 intro s t hs
 obtain ⟨hs1, hs2, hs3⟩ := hs
 have hcl := cnt_le (z.prs.l.take s.1.toNat) (-2 - p)
 have htl := List.length_take_le s.1.toNat z.prs.l
 refine Cs (Nz 2 ?_)
 refine Wk 0 (Ba 0) ?_
 refine Wk 1 Na ?_
 refine Wd (Qc (CS.cond rfl ?_ ?_))<;>intro hc1<;>try simp only [bq] at hc1
 ·
  refine Ck (Qc (Cs (Ce (Nz 1 ?_))))
  refine Wk 1 (Ba 0) ?_
  refine Wk 0 Xa ?_
  refine Wk 1 Ia ?_
  refine Wk 1 Zb ?_
  refine Wd (Qc (CS.cond rfl ?_ ?_))<;>intro hc2<;>try simp only [bq] at hc2
  ·
   refine Ny 1 ?_
   refine Wk 1 Za ?_
   refine Wd (Qb (Qc (Ny 1 ?_)))
   refine Wk 1 Za ?_
   exact Wd (QS.head ((s.1 + 1, s.2 + 1)) rfl rfl ⟨⟨by simp; omega, by simp; omega, by simp only; rw [cnt_takeS hs1 (by omega), if_pos hc2, hs3]⟩, by simp; omega⟩)
  ·
   refine Ck (Qb (Qc (Ny 1 ?_)))
   refine Wk 1 Za ?_
   exact Wd (QS.head ((s.1 + 1, s.2)) rfl rfl ⟨⟨by simp; omega, by simp; omega, by simp only; rw [cnt_takeS hs1 (by omega), if_neg hc2, hs3, Int.add_zero]⟩, by simp; omega⟩)
 ·
  refine Cv (Qe (Qe (Qx (Qc (Nz 2 ?_)))))
  exact Wd (Qc (Cr (out1 rfl rfl (retBe (by rw [hs3, List.take_of_length_le (by omega)])))))
theorem Rlegal_c (r : Room) (w : World) (hr : RoomOk w r) (z : Stt) (hz : SttOk w z) (hR : Ready r) (hI : StIn r z.x) (m : Move) :
  Calls Tryz.prog 197 #[.agg #[r.pls.v, r.ths.v, r.prs.v, r.wys.v, r.acs.v, r.aus.v, .int .i64 r.ply, r.gl.v], .agg #[z.ths.v, z.prs.v, z.pls.v], .agg #[.int .i64 m.p, .int .i64 m.k, .int .i64 m.n]] w (RetB w (.bool (legalB r z.x m))) := by
 have kpl := hr.pls
 have lpl := hr.pls.le
 have kth := hr.ths
 have lth := hr.ths.le
 have kpr := hr.prs
 have lpr := hr.prs.le
 have kwy := hr.wys
 have lwy := hr.wys.le
 have kac := hr.acs
 have lac := hr.acs.le
 have kau := hr.aus
 have lau := hr.aus.le
 have kgl := hr.gl
 have lgl := hr.gl.le
 have zth := hz.ths.ints
 have zpr := hz.prs.ints
 have zpl := hz.pls.ints
 have hlen := hR.lens
 have hply := hR.ply
 have hlt : z.ths.l.length = r.ths.l.length := hI.lt
 have hlp : z.prs.l.length = r.prs.l.length := hI.lp
 have hll : (z.pls.l.length : Int) = r.ply := hI.ll
 refine enter Tryz.func197 rfl rfl (Nat.le_of_ble_eq_true rfl) ?_
 refine Nz 0 ?_
 refine Wb 0 rfl rfl (fun _ => rfl) (fun _ => rfl) fun b3 hb3 => ?_
 refine Wb 0 rfl rfl (fun _ => rfl) (fun _ => rfl) fun b4 hb4 => ?_
 refine Wb 1 rfl rfl (fun _ => rfl) (fun _ => rfl) fun b5 hb5 => ?_
 refine Wd (Qc (Cs (Nz 1 ?_)))
 refine Wk 1 (Ba 0) ?_
 refine Wk 0 (Ba 2) ?_
 refine Wk 0 Zb ?_
 refine Wk 1 (Cb rfl rfl ent114 (fun u hu => from_c _ _ _ u)) ?_
 refine Wd (Qc (CS.cond rfl ?_ ?_))<;>intro hc1<;>try simp only [bq] at hc1
 ·
  refine Nz 1 ?_
  exact Wd (Qc (Cr (Qr (out1 rfl rfl (retBe (by unfold legalB; rw [if_neg (by simp only [Bool.and_eq_true, decide_eq_true_eq]; omega)]))))))
 ·
  have hp : (decide (0 ≤ m.p) && decide (m.p ≤ r.ply - 1)) = true := by simp only [Bool.and_eq_true, decide_eq_true_eq]; exact hc1
  have hat := hI.at (i := m.p) (by omega) (show m.p < z.pls.l.length by omega)
  refine Ck (Qc (Cs (Dr mixed 1 ?_)))
  refine Dk 1 (Ba 1) ?_
  refine Dk 0 (Ba 0) ?_
  refine Dk 0 Xa ?_
  refine Dk 1 Ia ?_
  refine Dk 0 (Ba 0) ?_
  refine Dk 2 Zb ?_
  refine Dd (Qc (Cs (Nz 1 ?_)))
  refine Wk 0 (Ba 0) ?_
  refine Wd (Qc (Ce (Nz 2 ?_)))
  refine Wd (Qc (CS.cond rfl ?_ ?_))<;>intro hc2<;>try simp only [bq] at hc2
  ·
   refine Cs (Dr mixed 1 ?_)
   refine Dk 1 (Ba 0) ?_
   refine Dk 0 (Ba 2) ?_
   refine Dk 0 Nc ?_
   refine Dk 0 Zb ?_
   refine Dk 1 (Cb rfl rfl ent114 (fun u hu => from_c _ _ _ u)) ?_
   refine Dt 0 rfl rfl (fun hg => Ff) ?_
   refine Dt 0 rfl rfl (fun hg => Ba 2) ?_
   refine Dt 0 rfl rfl (fun hg => Ff) ?_
   refine Dt 0 rfl rfl (fun hg => Ba 0) ?_
   refine Dt 0 rfl rfl (fun hg => Xc (eg_ hg rfl)) ?_
   refine Dt 0 rfl rfl (fun hg => Ff) ?_
   refine Dt 0 rfl rfl (fun hg => Uc 3 0) ?_
   refine Dt 0 rfl rfl (fun hg => Fm) ?_
   refine Dt 0 rfl rfl (fun hg => Fq) ?_
   refine Dt 0 rfl rfl (fun hg => Fm (eg_ hg rfl)) ?_
   refine Dn 0 rfl rfl rfl (fun hg => Ff) ?_
   refine Dn 0 rfl rfl rfl (fun hg => Ba 2) ?_
   refine Dn 0 rfl rfl rfl (fun hg => Ff) ?_
   refine Dn 0 rfl rfl rfl (fun hg => Ba 0) ?_
   refine Dn 0 rfl rfl rfl (fun hg => Xc (eg_ hg rfl)) ?_
   refine Dn 0 rfl rfl rfl (fun hg => Ff) ?_
   refine Dn 0 rfl rfl rfl (fun hg => Uc 3 1) ?_
   refine Dn 0 rfl rfl rfl (fun hg => Fm) ?_
   refine Dn 0 rfl rfl rfl (fun hg => Fq) ?_
   refine Dt 0 rfl rfl (fun hg => det_pick_or (eg_ hg rfl) (ev_nestF hg rfl) rfl) ?_
   refine Dk 1 Pa ?_
   refine Dt 0 rfl rfl (fun hg => Bb 1) ?_
   refine Dt 0 rfl rfl (fun hg => Ff) ?_
   refine Dt 0 rfl rfl (fun hg => Ba 2) ?_
   refine Dt 0 rfl rfl (fun hg => Ff) ?_
   refine Dt 0 rfl rfl (fun hg => Ba 0) ?_
   refine Dt 0 rfl rfl (fun hg => Xc (eg_ hg rfl)) ?_
   refine Dt 0 rfl rfl (fun hg => Ff) ?_
   refine Dt 0 rfl rfl (fun hg => Uc 3 2) ?_
   refine Dt 0 rfl rfl (fun hg => Cb rfl (ec_ (eg_ hg rfl) (ec_ (eg_ hg rfl) en_)) ent152 (fun u hu => Holding_c z u (hz.st hu) (nth r.wys.l m.n).wh ((hr.wys.el _ (nth_mem (i := m.n) (xs := r.wys.l) (by (try simp only [decide_eq_true_eq, decide_eq_false_iff_not, Bool.and_eq_true, Bool.or_eq_true, Bool.not_eq_true', beq_iff_eq] at hg); omega) (by (try simp only [decide_eq_true_eq, decide_eq_false_iff_not, Bool.and_eq_true, Bool.or_eq_true, Bool.not_eq_true', beq_iff_eq] at hg); omega)) : SlT cLit w (nth r.wys.l m.n).wh).st hu) (by rw [hlt]; exact (hR.wys _ (nth_mem (i := m.n) (xs := r.wys.l) (by (try simp only [decide_eq_true_eq, decide_eq_false_iff_not, Bool.and_eq_true, Bool.or_eq_true, Bool.not_eq_true', beq_iff_eq] at hg); omega) (by (try simp only [decide_eq_true_eq, decide_eq_false_iff_not, Bool.and_eq_true, Bool.or_eq_true, Bool.not_eq_true', beq_iff_eq] at hg); omega))).1))) ?_
   refine Dk 1 Pa ?_
   exact Dd (Qc (Cr (Qs (Qr (out1 rfl rfl (retBe (by unfold legalB; rw [if_pos hp, if_pos hc2]; rfl)))))))
  ·
   refine Nz 2 ?_
   refine Wd (Qc (CS.cond rfl ?_ ?_))<;>intro hc3<;>try simp only [bq] at hc3
   ·
    refine Cs (Dr mixed 1 ?_)
    refine Dk 1 (Ba 0) ?_
    refine Dk 0 (Ba 2) ?_
    refine Dk 0 Nc ?_
    refine Dk 0 Zb ?_
    refine Dk 1 (Cb rfl rfl ent114 (fun u hu => from_c _ _ _ u)) ?_
    refine Dt 0 rfl rfl (fun hg => Ff) ?_
    refine Dt 0 rfl rfl (fun hg => Ba 1) ?_
    refine Dt 0 rfl rfl (fun hg => Ff) ?_
    refine Dt 0 rfl rfl (fun hg => Ba 0) ?_
    refine Dt 0 rfl rfl (fun hg => Xa (eg_ hg rfl)) ?_
    refine Dt 0 rfl rfl (fun hg => Ia) ?_
    refine Dt 0 rfl rfl (fun hg => Fm) ?_
    refine Dt 0 rfl rfl (fun hg => Fq) ?_
    refine Dk 1 Pa ?_
    refine Dt 0 rfl rfl (fun hg => Bb 1) ?_
    refine Dt 0 rfl rfl (fun hg => Ff) ?_
    refine Dt 0 rfl rfl (fun hg => Ba 2) ?_
    refine Dt 0 rfl rfl (fun hg => Ff) ?_
    refine Dt 0 rfl rfl (fun hg => Ba 0) ?_
    refine Dt 0 rfl rfl (fun hg => Xc (eg_ hg rfl)) ?_
    refine Dt 0 rfl rfl (fun hg => Ff) ?_
    refine Dt 0 rfl rfl (fun hg => Uc 3 2) ?_
    refine Dt 0 rfl rfl (fun hg => Cb rfl (ec_ (eg_ hg rfl) (ec_ (eg_ hg rfl) en_)) ent152 (fun u hu => Holding_c z u (hz.st hu) (nth r.prs.l m.n).wh ((hr.prs.el _ (nth_mem (i := m.n) (xs := r.prs.l) (by (try simp only [decide_eq_true_eq, decide_eq_false_iff_not, Bool.and_eq_true, Bool.or_eq_true, Bool.not_eq_true', beq_iff_eq] at hg); omega) (by (try simp only [decide_eq_true_eq, decide_eq_false_iff_not, Bool.and_eq_true, Bool.or_eq_true, Bool.not_eq_true', beq_iff_eq] at hg); omega)) : SlT cLit w (nth r.prs.l m.n).wh).st hu) (by rw [hlt]; exact (hR.prs _ (nth_mem (i := m.n) (xs := r.prs.l) (by (try simp only [decide_eq_true_eq, decide_eq_false_iff_not, Bool.and_eq_true, Bool.or_eq_true, Bool.not_eq_true', beq_iff_eq] at hg); omega) (by (try simp only [decide_eq_true_eq, decide_eq_false_iff_not, Bool.and_eq_true, Bool.or_eq_true, Bool.not_eq_true', beq_iff_eq] at hg); omega))).1))) ?_
    refine Dk 1 Pa ?_
    refine Dt 0 rfl rfl (fun hg => Bb 1) ?_
    refine Dt 0 rfl rfl (fun hg => Ff) ?_
    refine Dt 0 rfl rfl (fun hg => Ba 0) ?_
    refine Dt 0 rfl rfl (fun hg => Cb rfl (ec_ (eg_ hg rfl) (ec_ (eg_ hg rfl) en_)) ent224 (fun u hu => Rhand_c z u (hz.st hu) m.p (by omega) (by omega) (by omega))) ?_
    refine Dt 0 rfl rfl (fun hg => Fl) ?_
    refine Dk 1 Pa ?_
    exact Dd (Qc (Cr (Qs (Qr (out1 rfl rfl (retBe (by unfold legalB; rw [if_pos hp, if_neg hc2, if_pos hc3]; rfl)))))))
   ·
    refine Nz 2 ?_
    refine Wd (Qc (CS.cond rfl ?_ ?_))<;>intro hc4<;>try simp only [bq] at hc4
    ·
     refine Nz 1 ?_
     refine Wk 1 (Ba 0) ?_
     refine Wk 0 (Ba 2) ?_
     refine Wk 0 Nc ?_
     refine Wk 0 Zb ?_
     refine Wk 1 (Cb rfl rfl ent114 (fun u hu => from_c _ _ _ u)) ?_
     refine Wt 0 rfl rfl (fun hg => Ff) ?_
     refine Wt 0 rfl rfl (fun hg => Ba 1) ?_
     refine Wt 0 rfl rfl (fun hg => Ff) ?_
     refine Wt 0 rfl rfl (fun hg => Ba 0) ?_
     refine Wt 0 rfl rfl (fun hg => Xa (eg_ hg rfl)) ?_
     refine Wt 0 rfl rfl (fun hg => Ia) ?_
     refine Wt 0 rfl rfl (fun hg => Fm) ?_
     refine Wt 0 rfl rfl (fun hg => Fq) ?_
     refine Wk 1 Pa ?_
     exact Wd (Qc (Cr (Qs (Qr (out1 rfl rfl (retBe (by unfold legalB; rw [if_pos hp, if_neg hc2, if_neg hc3, if_pos hc4]; rfl)))))))
    ·
     refine Nz 2 ?_
     refine Wd (Qc (CS.cond rfl ?_ ?_))<;>intro hc5<;>try simp only [bq] at hc5
     ·
      refine Cs (Nz 1 ?_)
      refine Wk 1 (Ba 0) ?_
      refine Wk 0 (Ba 2) ?_
      refine Wk 0 Nc ?_
      refine Wk 0 Zb ?_
      refine Wk 1 (Cb rfl rfl ent114 (fun u hu => from_c _ _ _ u)) ?_
      refine Wd (Qc (CS.cond rfl ?_ ?_))<;>intro hc6<;>try simp only [bq] at hc6
      ·
       refine Nz 1 ?_
       exact Wd (Qc (Cr (Qr (Qs (Qr (out1 rfl rfl (retBe (by unfold legalB; rw [if_pos hp, if_neg hc2, if_neg hc3, if_neg hc4, if_pos hc5]; unfold doB; rw [show (decide (0 ≤ m.n) && decide (m.n ≤ (r.acs.l.length : Int) - 1)) = false by simp only [Bool.and_eq_false_iff, decide_eq_false_iff_not]; omega]; rfl))))))))
      ·
       have hn2 : 0 ≤ m.n ∧ m.n < r.acs.l.length := by omega
       have ha := hR.acs _ (nth_mem hn2.1 hn2.2)
       have hak : ActOk w (nth r.acs.l m.n) := hr.acs.at hn2.1 hn2.2
       have hus := hak.us.ints
       have hsp := hak.sp.ints
       have hbr := hak.br.ints
       have lus := ha.lus
       have lbr := ha.lbr
       have lsp := ha.lsp
       have hcl := cnt_le z.prs.l (-2 - m.p)
       refine Ck (Qc (Nz 1 ?_))
       refine Wk 1 (Ba 2) ?_
       refine Wk 0 (Ba 0) ?_
       refine Wk 0 Xc ?_
       refine Wk 0 Ua ?_
       refine Wl 0 zv104 (fun _ => rfl) (fun _ => rfl) fun b9 hb9 => ?_
       refine Wv 0 0 ?_
       refine Wd (Qc (Cs (Nz 1 ?_)))
       refine Wd (Qc (Ce ?_))
       refine CS.loopM (σ := Int) [6, 144, 145, 146, 147, 148, 149, 150, 151, 152, 153, 154, 155, 156, 157, 158, 159, 160, 161] (fun s => [(10, .int .i64 s)]) (fun _ => _) (fun s => 0 ≤ s ∧ s ≤ (nth r.acs.l m.n).us.l.length ∧ ∀ j : Int, 0 ≤ j → j < s → nth z.prs.l (nth (nth r.acs.l m.n).us.l j) = -2 - m.p) (fun s => ((nth r.acs.l m.n).us.l.length - s).toNat) 0 (fun _ _ => rfl) rfl rfl ⟨by omega, by omega, fun j _ _ => by omega⟩ ?_
       intro a t hs
       obtain ⟨ha1, ha2, ha3⟩ := hs
       refine Cs (Nz 2 ?_)
       refine Wk 0 (Ba 0) ?_
       refine Wk 1 Na ?_
       refine Wd (Qc (CS.cond rfl ?_ ?_))<;>intro hc7<;>try simp only [bq] at hc7
       ·
        have hin := ha.us _ (nth_mem ha1 (by omega))
        refine Ck (Qc (Cs (Ce (Cs (Dr mixed 1 ?_)))))
        refine Dk 1 (Ba 2) ?_
        refine Dk 1 (Ba 0) ?_
        refine Dk 0 Xa ?_
        refine Dk 0 Ia ?_
        refine Dk 0 Xa ?_
        refine Dk 2 Ia ?_
        refine Dd (Qc (CS.cond rfl ?_ ?_))<;>intro hc8<;>try simp only [bq] at hc8
        ·
         refine Nz 1 ?_
         exact Wd (Qc (Cr (Qs (Qr (Qr (Qs (Qr (Qs (Qr (out1 rfl rfl (retBe (by unfold legalB; rw [if_pos hp, if_neg hc2, if_neg hc3, if_neg hc4, if_pos hc5]; unfold doB; rw [show usesB z.x (nth r.acs.l m.n) m = false from allI_no ha1 (by omega) (decide_eq_false hc8)]; simp))))))))))))
        ·
         refine Ck (Qb (Qc (Ny 1 ?_)))
         refine Wk 1 Za ?_
         refine Wd ?_
         exact QS.head (a + 1) rfl rfl ⟨⟨by omega, by omega, fun j h0 h1 => by
            rcases (show j < a ∨ j = a by omega) with h | h
            ·
             exact ha3 j h0 h
            ·
             rw [h]; exact hc8⟩, by omega⟩
       ·
        refine Cv (Qe (Qe (Qx (Qc (Cs (Nz 1 ?_))))))
        refine Wd (Qc (Ce ?_))
        refine CS.loopM (σ := Int) [6, 162, 163, 164, 165, 166, 167, 168, 169, 170, 171, 172, 173, 174, 175, 176, 177, 178] (fun s => [(11, .int .i64 s)]) (fun _ => _) (fun s => 0 ≤ s ∧ s ≤ (nth r.acs.l m.n).br.l.length ∧ ∀ j : Int, 0 ≤ j → j < s → nth z.prs.l (nth (nth r.acs.l m.n).br.l j) = -1) (fun s => ((nth r.acs.l m.n).br.l.length - s).toNat) 0 (fun _ _ => rfl) rfl rfl ⟨by omega, by omega, fun j _ _ => by omega⟩ ?_
        intro b t hs
        obtain ⟨hb1, hb2, hb3⟩ := hs
        refine Cs (Nz 2 ?_)
        refine Wk 0 (Ba 0) ?_
        refine Wk 1 Na ?_
        refine Wd (Qc (CS.cond rfl ?_ ?_))<;>intro hc9<;>try simp only [bq] at hc9
        ·
         have hin := ha.br _ (nth_mem hb1 (by omega))
         refine Ck (Qc (Cs (Ce (Cs (Dr mixed 1 ?_)))))
         refine Dk 1 (Ba 2) ?_
         refine Dk 1 (Ba 0) ?_
         refine Dk 0 Xa ?_
         refine Dk 0 Ia ?_
         refine Dk 0 Xa ?_
         refine Dk 1 Ia ?_
         refine Dd (Qc (CS.cond rfl ?_ ?_))<;>intro hc10<;>try simp only [bq] at hc10
         ·
          refine Nz 1 ?_
          exact Wd (Qc (Cr (Qs (Qr (Qr (Qs (Qr (Qs (Qr (out1 rfl rfl (retBe (by unfold legalB; rw [if_pos hp, if_neg hc2, if_neg hc3, if_neg hc4, if_pos hc5]; unfold doB; rw [show bringB z.x (nth r.acs.l m.n) = false from allI_no hb1 (by omega) (decide_eq_false hc10)]; simp))))))))))))
         ·
          refine Ck (Qb (Qc (Ny 1 ?_)))
          refine Wk 1 Za ?_
          refine Wd ?_
          exact QS.head (b + 1) rfl rfl ⟨⟨by omega, by omega, fun j h0 h1 => by
             rcases (show j < b ∨ j = b by omega) with h | h
             ·
              exact hb3 j h0 h
             ·
              rw [h]; exact hc10⟩, by omega⟩
        ·
         refine Cv (Qe (Qe (Qx (Qc (Cs (Dr mixed 1 ?_))))))
         refine Dk 3 (Ba 0) ?_
         refine Dt 0 rfl rfl (fun hg => Bb 2) ?_
         refine Dt 0 rfl rfl (fun hg => Ff) ?_
         refine Dt 0 rfl rfl (fun hg => Ba 0) ?_
         refine Dt 0 rfl rfl (fun hg => Cb rfl (ec_ (eg_ hg rfl) (ec_ (eg_ hg rfl) en_)) ent152 (fun u hu => Holding_c z u (hz.st hu) (nth r.acs.l m.n).wh (hak.wh.st hu) (by rw [hlt]; exact ha.wh))) ?_
         refine Dk 1 Pa ?_
         refine Dt 0 rfl rfl (fun hg => Bb 2) ?_
         refine Dt 0 rfl rfl (fun hg => Ff) ?_
         refine Dt 0 rfl rfl (fun hg => Ba 1) ?_
         refine Dt 0 rfl rfl (fun hg => Cb rfl (ec_ (eg_ hg rfl) (ec_ (eg_ hg rfl) en_)) ent224 (fun u hu => Rhand_c z u (hz.st hu) m.p (by omega) (by omega) (by omega))) ?_
         refine Dt 0 rfl rfl (fun hg => Ff) ?_
         refine Dt 0 rfl rfl (fun hg => Ba 0) ?_
         refine Dt 0 rfl rfl (fun hg => Na (eg_ hg rfl)) ?_
         refine Dt 0 rfl rfl (fun hg => Zb) ?_
         refine Dt 0 rfl rfl (fun hg => Ff) ?_
         refine Dt 0 rfl rfl (fun hg => Ba 0) ?_
         refine Dt 0 rfl rfl (fun hg => Na (eg_ hg rfl)) ?_
         refine Dt 0 rfl rfl (fun hg => Za) ?_
         refine Dt 0 rfl rfl (fun hg => Fk) ?_
         refine Dk 1 Pa ?_
         exact Dd (Qc (Cr (Qs (Qr (out1 rfl rfl (retBe (by unfold legalB; rw [if_pos hp, if_neg hc2, if_neg hc3, if_neg hc4, if_pos hc5]; unfold doB; rw [show (decide (0 ≤ m.n) && decide (m.n ≤ (r.acs.l.length : Int) - 1)) = true by simp only [Bool.and_eq_true, decide_eq_true_eq]; omega, show usesB z.x (nth r.acs.l m.n) m = true from allI_yes fun j a b => decide_eq_true (ha3 j a (by omega)), show bringB z.x (nth r.acs.l m.n) = true from allI_yes fun j a b => decide_eq_true (hb3 j a (by omega))]; rfl)))))))
     ·
      refine Ck (Qb (Qc (Nz 1 ?_)))
      exact Wd (Qc (Cr (out1 rfl rfl (retBe (by unfold legalB; rw [if_pos hp, if_neg hc2, if_neg hc3, if_neg hc4, if_neg hc5])))))
end Go.Proofs.YtaeagngfhceceaaGreatDoor
set_option maxHeartbeats 8000000
namespace Go.Proofs.YtaeagngfhceceaaGreatDoor
open Go.RowKit Go.Proofs
set_option maxRecDepth 100000
set_option linter.unusedVariables false
set_option linter.unusedSimpArgs false
theorem RPlayed_c (r : Room) (w : World) (hr : RoomOk w r) (z : Stt) (hz : SttOk w z) (hR : Ready r) (hI : StIn r z.x) (m : Move) (hL : legalB r z.x m = true) :
  Calls Tryz.prog 174 #[.agg #[r.pls.v, r.ths.v, r.prs.v, r.wys.v, r.acs.v, r.aus.v, .int .i64 r.ply, r.gl.v], .agg #[z.ths.v, z.prs.v, z.pls.v], .agg #[.int .i64 m.p, .int .i64 m.k, .int .i64 m.n]] w (RetS w ((settleV r (moveX r z.x m)).getD no3) fun v => .tuple #[v, .bool (settleV r (moveX r z.x m)).isSome]) := by
 have kpl := hr.pls
 have lpl := hr.pls.le
 have kth := hr.ths
 have lth := hr.ths.le
 have kpr := hr.prs
 have lpr := hr.prs.le
 have kwy := hr.wys
 have lwy := hr.wys.le
 have kac := hr.acs
 have lac := hr.acs.le
 have kau := hr.aus
 have lau := hr.aus.le
 have kgl := hr.gl
 have lgl := hr.gl.le
 have zth := hz.ths.ints
 have zpr := hz.prs.ints
 have zpl := hz.pls.ints
 have hlen := hR.lens
 have hply := hR.ply
 have hlt : z.ths.l.length = r.ths.l.length := hI.lt
 have hlp : z.prs.l.length = r.prs.l.length := hI.lp
 have hll : (z.pls.l.length : Int) = r.ply := hI.ll
 have hM := move_in hR hI hL
 have hMp : 0 ≤ m.p ∧ m.p < z.pls.l.length ∧ m.p ≤ 3 := hM.p
 have hat : 0 ≤ nth z.pls.l m.p ∧ nth z.pls.l m.p < r.pls.l.length := hI.at (i := m.p) (by omega) (show m.p < z.pls.l.length by omega)
 have hsm : z.ths.l.length ≤ 1000000 ∧ z.prs.l.length ≤ 1000000 ∧ z.pls.l.length ≤ 1000000 := hI.small hR
 have hau : autosIn r.aus.l z.ths.l.length := hI.autos hR
 refine enter Tryz.func174 rfl rfl (Nat.le_of_ble_eq_true rfl) ?_
 refine Nz 0 ?_
 refine Wb 0 rfl rfl (fun _ => rfl) (fun _ => rfl) fun b3 hb3 => ?_
 refine Wb 0 rfl rfl (fun _ => rfl) (fun _ => rfl) fun b4 hb4 => ?_
 refine Wb 0 rfl rfl (fun _ => rfl) (fun _ => rfl) fun b5 hb5 => ?_
 refine Wl 1 zv65 (fun _ => rfl) (fun _ => rfl) fun b6 hb6 => ?_
 refine Wd (Qc (Nz 0 ?_))
 refine Wk 0 (Bb 2) ?_
 refine Wc rfl rfl ent85 (fun u hu => CopyState_c z u (hz.st hu) hsm) (fun _ => rfl) ?_; rintro ⟨va, vb, vc⟩ ⟨oa, ob, oc⟩
 refine WS.unpack ?_
 refine Wl 0 zv65 (fun _ => rfl) (fun _ => rfl) fun b8 hb8 => ?_
 refine Wv 0 0 ?_
 refine Wd (Qc (Cs (Dr mixed 1 ?_)))
 refine Dk 1 (Ba 6) ?_
 refine Dk 0 (Ba 5) ?_
 refine Dk 0 Xa ?_
 refine Dk 1 Ia ?_
 refine Dk 0 (Ba 5) ?_
 refine Dk 2 Zb ?_
 refine Dd (Qc (Cs (Nz 1 ?_)))
 refine Wk 0 (Ba 5) ?_
 refine Wd (Qc (Ce (Nz 2 ?_)))
 refine Wd (Qc (CS.cond rfl ?_ ?_))<;>intro hc1<;>try simp only [bq] at hc1
 ·
  have hn := hM.go hc1
  have hwy := hR.wys _ (nth_mem hn.1 hn.2)
  have hmv : moveX r z.x m = (z.ths.l, z.prs.l, z.pls.l.set m.p.toNat ((nth r.wys.l m.n).a + (nth r.wys.l m.n).b - nth z.pls.l m.p)) := if_pos hc1
  refine CS.drawnTill 22 (k := 23) mixed rfl rfl ?_
  refine Tr 23 [0] ?_
  refine Tk 23 1 [2] rfl (Ba 0) ?_
  refine Tk 23 3 [4] rfl (Ba 5) ?_
  refine Tk 23 5 [6] rfl (Ba 7) ?_
  refine Tk 23 7 [] rfl (Ba 5) ?_
  refine Tk 23 8 [9] rfl Xc ?_
  refine Tk 23 10 [11] rfl (Uc 3 0) ?_
  refine Tk 23 12 [13] rfl (Ba 7) ?_
  refine Tk 23 14 [] rfl (Ba 5) ?_
  refine Tk 23 15 [16] rfl Xc ?_
  refine Tk 23 17 [] rfl (Uc 3 1) ?_
  refine Tk 23 18 [19] rfl Za ?_
  refine Tk 23 20 [] rfl Zb ?_
  refine Tk 23 21 [] rfl (Xb 3) ?_
  refine To 22 rfl ?_
  refine WS.storeOI (j := 3) rfl rfl (by omega) rfl tk3 rfl ?_
  refine Wd (Qt ?_)
  refine Te ?_
  refine Qb (Qc (Nz 0 ?_))
  refine Wk 0 (Bb 7) ?_
  refine Wk 0 (Bb 0) ?_
  refine Wc rfl rfl ent175 (fun u hu => Rsettle_c r u (hr.st hu) ⟨⟨va, _⟩, ⟨vb, _⟩, ⟨vc, _⟩⟩ ⟨(oints_SlI hu (j := 1) rfl).tree, (oints_SlI hu (j := 2) rfl).tree, (oints_SlI hu (j := 3) rfl).tree⟩ (by simpa only [List.length_set, setAll_len, putAll_len] using hsm) (by simpa only [List.length_set, setAll_len, putAll_len] using hau)) (fun _ => rfl) ?_; rintro y ⟨hyx, uy, hyok⟩
  obtain ⟨hya, hyb, hyc⟩ := hyok.ones
  refine Wz 2 ?_
  refine Wv 1 5 ?_
  refine Wd (Qc (Cr ?_))
  exact outR (resct rfl (cell_rvN (j := 5) rfl rfl tk65) rfl) (by
    rw [hmv]
    exact fun u hu => retSr (f := fun v => .tuple #[v, .bool (settleV r _).isSome]) (j := 0) rfl hyx hu)
 ·
  refine Nz 2 ?_
  refine Wd (Qc (CS.cond rfl ?_ ?_))<;>intro hc2<;>try simp only [bq] at hc2
  ·
   have hn : 0 ≤ m.n ∧ m.n < z.prs.l.length := hM.pr (.inl hc2)
   have hmv : moveX r z.x m = (z.ths.l, z.prs.l.set m.n.toNat (-2 - m.p), z.pls.l) := (if_neg hc1).trans (if_pos hc2)
   refine Ny 1 ?_
   refine Wk 1 (Ba 0) ?_
   refine Wk 1 (Ba 5) ?_
   refine Wk 0 (Xb 2) ?_
   refine WS.storeOI (j := 2) rfl rfl (by omega) rfl tk3 rfl ?_
   refine Wd (Qb (Qc (Nz 0 ?_)))
   refine Wk 0 (Bb 7) ?_
   refine Wk 0 (Bb 0) ?_
   refine Wc rfl rfl ent175 (fun u hu => Rsettle_c r u (hr.st hu) ⟨⟨va, _⟩, ⟨vb, _⟩, ⟨vc, _⟩⟩ ⟨(oints_SlI hu (j := 1) rfl).tree, (oints_SlI hu (j := 2) rfl).tree, (oints_SlI hu (j := 3) rfl).tree⟩ (by simpa only [List.length_set, setAll_len, putAll_len] using hsm) (by simpa only [List.length_set, setAll_len, putAll_len] using hau)) (fun _ => rfl) ?_; rintro y ⟨hyx, uy, hyok⟩
   obtain ⟨hya, hyb, hyc⟩ := hyok.ones
   refine Wz 2 ?_
   refine Wv 1 5 ?_
   refine Wd (Qc (Cr ?_))
   exact outR (resct rfl (cell_rvN (j := 5) rfl rfl tk65) rfl) (by
     rw [hmv]
     exact fun u hu => retSr (f := fun v => .tuple #[v, .bool (settleV r _).isSome]) (j := 0) rfl hyx hu)
  ·
   refine Nz 2 ?_
   refine Wd (Qc (CS.cond rfl ?_ ?_))<;>intro hc3<;>try simp only [bq] at hc3
   ·
    have hn : 0 ≤ m.n ∧ m.n < z.prs.l.length := hM.pr (.inr hc3)
    have hmv : moveX r z.x m = (z.ths.l, z.prs.l.set m.n.toNat (nth z.pls.l m.p), z.pls.l) := (if_neg hc1).trans ((if_neg hc2).trans (if_pos hc3))
    refine Ny 1 ?_
    refine Wk 1 (Ba 0) ?_
    refine Wk 1 (Ba 5) ?_
    refine Wk 0 (Xb 2) ?_
    refine WS.storeOI (j := 2) rfl rfl (by omega) rfl tk3 rfl ?_
    refine Wd (Qb (Qc (Nz 0 ?_)))
    refine Wk 0 (Bb 7) ?_
    refine Wk 0 (Bb 0) ?_
    refine Wc rfl rfl ent175 (fun u hu => Rsettle_c r u (hr.st hu) ⟨⟨va, _⟩, ⟨vb, _⟩, ⟨vc, _⟩⟩ ⟨(oints_SlI hu (j := 1) rfl).tree, (oints_SlI hu (j := 2) rfl).tree, (oints_SlI hu (j := 3) rfl).tree⟩ (by simpa only [List.length_set, setAll_len, putAll_len] using hsm) (by simpa only [List.length_set, setAll_len, putAll_len] using hau)) (fun _ => rfl) ?_; rintro y ⟨hyx, uy, hyok⟩
    obtain ⟨hya, hyb, hyc⟩ := hyok.ones
    refine Wz 2 ?_
    refine Wv 1 5 ?_
    refine Wd (Qc (Cr ?_))
    exact outR (resct rfl (cell_rvN (j := 5) rfl rfl tk65) rfl) (by
      rw [hmv]
      exact fun u hu => retSr (f := fun v => .tuple #[v, .bool (settleV r _).isSome]) (j := 0) rfl hyx hu)
   ·
    refine Nz 2 ?_
    refine Wd (Qc (CS.cond rfl ?_ ?_))<;>intro hc4<;>try simp only [bq] at hc4
    ·
     have hn := hM.ac hc4
     have hmv : moveX r z.x m = (setAll z.ths.l (nth r.acs.l m.n).se.l, putAll (-2 - m.p) (putAll (-1) z.prs.l (nth r.acs.l m.n).sp.l) (nth r.acs.l m.n).br.l, z.pls.l) := (if_neg hc1).trans ((if_neg hc2).trans ((if_neg hc3).trans (if_pos hc4)))
     have ha := hR.acs _ (nth_mem hn.1 hn.2)
     have hak : ActOk w (nth r.acs.l m.n) := hr.acs.at hn.1 hn.2
     have hsp := hak.sp.ints
     have hbr := hak.br.ints
     have kse := hak.se
     have lbr := ha.lbr
     have lsp := ha.lsp
     have lse := ha.lse
     refine Nz 1 ?_
     refine Wk 1 (Ba 7) ?_
     refine Wk 0 (Ba 5) ?_
     refine Wk 0 Xc ?_
     refine Wk 0 Ua ?_
     refine Wl 0 zv104 (fun _ => rfl) (fun _ => rfl) fun b11 hb11 => ?_
     refine Wv 0 0 ?_
     refine Wd (Qc (Cs (Nz 1 ?_)))
     refine Wd (Qc (Ce ?_))
     refine CS.loopM (σ := Int) [76, 77, 78, 79, 80, 81, 82, 83, 84, 85, 86, 87, 88, 89, 90] (fun s => [(12, .int .i64 s)]) (fun s => [blk b11 (cAct.cells (nth r.acs.l m.n)) 104, blk b8 [va, vb, vc] 65, oints 3 va (z.ths.l), oints 3 vb (putAll (-1) z.prs.l ((nth r.acs.l m.n).sp.l.take s.toNat)), oints 3 vc z.pls.l, blk b6 [.slice none 0 0, .slice none 0 0, .slice none 0 0] 65, blk b5 [.int .i64 m.p, .int .i64 m.k, .int .i64 m.n] 91, blk b4 [z.ths.v, z.prs.v, z.pls.v] 65, blk b3 [r.pls.v, r.ths.v, r.prs.v, r.wys.v, r.acs.v, r.aus.v, .int .i64 r.ply, r.gl.v] 31]) (fun s => 0 ≤ s ∧ s ≤ (nth r.acs.l m.n).sp.l.length) (fun s => ((nth r.acs.l m.n).sp.l.length - s).toNat) 0 (fun _ _ => rfl) rfl rfl ⟨by omega, by omega⟩ ?_
     intro d t hs
     obtain ⟨hd1, hd2⟩ := hs
     refine Cs (Nz 2 ?_)
     refine Wk 0 (Ba 0) ?_
     refine Wk 1 Na ?_
     refine Wd (Qc (CS.cond rfl ?_ ?_))<;>intro hc5<;>try simp only [bq] at hc5
     ·
      have hin := ha.sp _ (nth_mem hd1 (by omega))
      have hln := putAll_len (v := -1) (ps := (nth r.acs.l m.n).sp.l.take d.toNat) (l := z.prs.l)
      refine Ck (Qc (Cs (Ce ?_)))
      refine CS.drawnTill 8 (k := 9) mixed rfl rfl ?_
      refine Tr 9 [0] ?_
      refine Tk 9 1 [2] rfl (Ba 1) ?_
      refine Tk 9 3 [4] rfl (Ba 0) ?_
      refine Tk 9 5 [] rfl Xa ?_
      refine Tk 9 6 [] rfl Ia ?_
      refine Tk 9 7 [] rfl (Xb 3) ?_
      refine To 8 rfl ?_
      refine WS.storeOI (j := 3) rfl rfl (by omega) rfl tk3 rfl ?_
      refine Wd (Qt ?_)
      refine Te ?_
      refine Qb (Qc (Ny 1 ?_))
      refine Wk 1 Za ?_
      exact Wd (QS.head (d + 1) rfl (by simp only [putAll_snoc hd1 (by omega)]) ⟨⟨by omega, by omega⟩, by omega⟩)
     ·
      have hta : (nth r.acs.l m.n).sp.l.take d.toNat = (nth r.acs.l m.n).sp.l := List.take_of_length_le (by omega)
      rw [hta]
      refine Cv (Qe (Qe (Qx (Qc (Cs (Nz 1 ?_))))))
      refine Wd (Qc (Ce ?_))
      refine CS.loopM (σ := Int) [91, 92, 93, 94, 95, 96, 97, 98, 99, 100, 101, 102, 103, 104, 105, 106] (fun s => [(13, .int .i64 s)]) (fun s => [blk b11 (cAct.cells (nth r.acs.l m.n)) 104, blk b8 [va, vb, vc] 65, oints 3 va (z.ths.l), oints 3 vb (putAll (-2 - m.p) (putAll (-1) z.prs.l (nth r.acs.l m.n).sp.l) ((nth r.acs.l m.n).br.l.take s.toNat)), oints 3 vc z.pls.l, blk b6 [.slice none 0 0, .slice none 0 0, .slice none 0 0] 65, blk b5 [.int .i64 m.p, .int .i64 m.k, .int .i64 m.n] 91, blk b4 [z.ths.v, z.prs.v, z.pls.v] 65, blk b3 [r.pls.v, r.ths.v, r.prs.v, r.wys.v, r.acs.v, r.aus.v, .int .i64 r.ply, r.gl.v] 31]) (fun s => 0 ≤ s ∧ s ≤ (nth r.acs.l m.n).br.l.length) (fun s => ((nth r.acs.l m.n).br.l.length - s).toNat) 0 (fun _ _ => rfl) rfl rfl ⟨by omega, by omega⟩ ?_
      intro e t hs
      obtain ⟨he1, he2⟩ := hs
      refine Cs (Nz 2 ?_)
      refine Wk 0 (Ba 0) ?_
      refine Wk 1 Na ?_
      refine Wd (Qc (CS.cond rfl ?_ ?_))<;>intro hc6<;>try simp only [bq] at hc6
      ·
       have hin := ha.br _ (nth_mem he1 (by omega))
       have hln := putAll_len (v := -1) (ps := (nth r.acs.l m.n).sp.l) (l := z.prs.l)
       have hln2 := putAll_len (v := -2 - m.p) (ps := (nth r.acs.l m.n).br.l.take e.toNat) (l := putAll (-1) z.prs.l (nth r.acs.l m.n).sp.l)
       refine Ck (Qc (Cs (Ce ?_)))
       refine CS.drawnTill 9 (k := 10) mixed rfl rfl ?_
       refine Tr 10 [0] ?_
       refine Tk 10 1 [2] rfl (Ba 1) ?_
       refine Tk 10 3 [4] rfl (Ba 0) ?_
       refine Tk 10 5 [] rfl Xa ?_
       refine Tk 10 6 [7] rfl Ia ?_
       refine Tk 10 8 [] rfl (Xb 3) ?_
       refine To 9 rfl ?_
       refine WS.storeOI (j := 3) rfl rfl (by omega) rfl tk3 rfl ?_
       refine Wd (Qt ?_)
       refine Te ?_
       refine Qb (Qc (Ny 1 ?_))
       refine Wk 1 Za ?_
       exact Wd (QS.head (e + 1) rfl (by simp only [putAll_snoc he1 (by omega)]) ⟨⟨by omega, by omega⟩, by omega⟩)
      ·
       have hta : (nth r.acs.l m.n).br.l.take e.toNat = (nth r.acs.l m.n).br.l := List.take_of_length_le (by omega)
       rw [hta]
       refine Cv (Qe (Qe (Qx (Qc (Nz 1 ?_)))))
       refine Wd (Qc (Ce ?_))
       refine CS.loopM (σ := Int) [107, 108, 109, 110, 111, 112, 113, 114, 115, 116, 117, 118, 119, 120, 121, 122, 123, 124, 125, 126, 127, 128] (fun s => [(14, .int .i64 s)]) (fun s => [blk b11 (cAct.cells (nth r.acs.l m.n)) 104, blk b8 [va, vb, vc] 65, oints 3 va (setAll z.ths.l ((nth r.acs.l m.n).se.l.take s.toNat)), oints 3 vb (putAll (-2 - m.p) (putAll (-1) z.prs.l (nth r.acs.l m.n).sp.l) (nth r.acs.l m.n).br.l), oints 3 vc z.pls.l, blk b6 [.slice none 0 0, .slice none 0 0, .slice none 0 0] 65, blk b5 [.int .i64 m.p, .int .i64 m.k, .int .i64 m.n] 91, blk b4 [z.ths.v, z.prs.v, z.pls.v] 65, blk b3 [r.pls.v, r.ths.v, r.prs.v, r.wys.v, r.acs.v, r.aus.v, .int .i64 r.ply, r.gl.v] 31]) (fun s => 0 ≤ s ∧ s ≤ (nth r.acs.l m.n).se.l.length) (fun s => ((nth r.acs.l m.n).se.l.length - s).toNat) 0 (fun _ _ => rfl) rfl rfl ⟨by omega, by omega⟩ ?_
       intro g t hs
       obtain ⟨hg1, hg2⟩ := hs
       refine Cs (Nz 2 ?_)
       refine Wk 0 (Ba 0) ?_
       refine Wk 1 Nc ?_
       refine Wd (Qc (CS.cond rfl ?_ ?_))<;>intro hc7<;>try simp only [bq] at hc7
       ·
        have hin := putB_t (ha.se _ (nth_mem hg1 (by omega)))
        have hln := setAll_len (ss := (nth r.acs.l m.n).se.l.take g.toNat) (l := z.ths.l)
        refine Ck (Qc (Cs (Ce ?_)))
        refine CS.drawnTill 15 (k := 16) mixed rfl rfl ?_
        refine Tr 16 [0] ?_
        refine Tk 16 1 [2] rfl (Ba 1) ?_
        refine Tk 16 3 [4] rfl (Ba 0) ?_
        refine Tk 16 5 [6] rfl Xc ?_
        refine Tk 16 7 [8] rfl (Uc 2 0) ?_
        refine Tk 16 9 [10] rfl (Ba 0) ?_
        refine Tk 16 11 [12] rfl Xc ?_
        refine Tk 16 13 [] rfl (Uc 2 1) ?_
        refine Tk 16 14 [] rfl (Xb 2) ?_
        refine To 15 rfl ?_
        refine WS.storeOI (j := 2) rfl rfl (by omega) rfl tk3 rfl ?_
        refine Wd (Qt ?_)
        refine Te ?_
        refine Qb (Qc (Ny 1 ?_))
        refine Wk 1 Za ?_
        exact Wd (QS.head (g + 1) rfl (by simp only [setAll_snoc hg1 (by omega)]) ⟨⟨by omega, by omega⟩, by omega⟩)
       ·
        have hta : (nth r.acs.l m.n).se.l.take g.toNat = (nth r.acs.l m.n).se.l := List.take_of_length_le (by omega)
        rw [hta]
        refine Cv (Qe (Qe (Qx (Qb (Qc (Nz 0 ?_))))))
        refine Wk 0 (Bb 8) ?_
        refine Wk 0 (Bb 1) ?_
        refine Wc rfl rfl ent175 (fun u hu => Rsettle_c r u (hr.st hu) ⟨⟨va, _⟩, ⟨vb, _⟩, ⟨vc, _⟩⟩ ⟨(oints_SlI hu (j := 2) rfl).tree, (oints_SlI hu (j := 3) rfl).tree, (oints_SlI hu (j := 4) rfl).tree⟩ (by simpa only [List.length_set, setAll_len, putAll_len] using hsm) (by simpa only [List.length_set, setAll_len, putAll_len] using hau)) (fun _ => rfl) ?_; rintro y ⟨hyx, uy, hyok⟩
        obtain ⟨hya, hyb, hyc⟩ := hyok.ones
        refine Wz 2 ?_
        refine Wv 1 6 ?_
        refine Wd (Qc (Cr ?_))
        exact outR (resct rfl (cell_rvN (j := 6) rfl rfl tk65) rfl) (by
          rw [hmv]
          exact fun u hu => retSr (f := fun v => .tuple #[v, .bool (settleV r _).isSome]) (j := 0) rfl hyx hu)
    ·
     have hmv : moveX r z.x m = (z.ths.l, z.prs.l, z.pls.l) := (if_neg hc1).trans ((if_neg hc2).trans ((if_neg hc3).trans (if_neg hc4)))
     refine Ck (Qb (Qc (Nz 0 ?_)))
     refine Wk 0 (Bb 7) ?_
     refine Wk 0 (Bb 0) ?_
     refine Wc rfl rfl ent175 (fun u hu => Rsettle_c r u (hr.st hu) ⟨⟨va, _⟩, ⟨vb, _⟩, ⟨vc, _⟩⟩ ⟨(oints_SlI hu (j := 1) rfl).tree, (oints_SlI hu (j := 2) rfl).tree, (oints_SlI hu (j := 3) rfl).tree⟩ (by simpa only [List.length_set, setAll_len, putAll_len] using hsm) (by simpa only [List.length_set, setAll_len, putAll_len] using hau)) (fun _ => rfl) ?_; rintro y ⟨hyx, uy, hyok⟩
     obtain ⟨hya, hyb, hyc⟩ := hyok.ones
     refine Wz 2 ?_
     refine Wv 1 5 ?_
     refine Wd (Qc (Cr ?_))
     exact outR (resct rfl (cell_rvN (j := 5) rfl rfl tk65) rfl) (by
       rw [hmv]
       exact fun u hu => retSr (f := fun v => .tuple #[v, .bool (settleV r _).isSome]) (j := 0) rfl hyx hu)
end Go.Proofs.YtaeagngfhceceaaGreatDoor
set_option maxHeartbeats 8000000
namespace Go.Proofs.YtaeagngfhceceaaGreatDoor
open Go.RowKit Go.Proofs
set_option maxRecDepth 100000
set_option linter.unusedVariables false
set_option linter.unusedSimpArgs false
theorem RLegalMoves_c (r : Room) (w : World) (hr : RoomOk w r) (z : Stt) (hz : SttOk w z) (hR : Ready r) (hI : StIn r z.x) :
  Calls Tryz.prog 143 #[.agg #[r.pls.v, r.ths.v, r.prs.v, r.wys.v, r.acs.v, r.aus.v, .int .i64 r.ply, r.gl.v], .agg #[z.ths.v, z.prs.v, z.pls.v]] w (RetM w (legalL r z.x) fun v => v) := by
 have hply := hR.ply
 refine enter Tryz.func143 rfl rfl (Nat.le_of_ble_eq_true rfl) ?_
 refine Nz 0 ?_
 refine Wb 0 rfl rfl (fun _ => rfl) (fun _ => rfl) fun b2 hb2 => ?_
 refine Wb 1 rfl rfl (fun _ => rfl) (fun _ => rfl) fun b3 hb3 => ?_
 refine Wd (Qc (Nz 1 ?_))
 refine Wd (Qc (Cs (Nz 1 ?_)))
 refine Wd (Qc (Ce ?_))
 refine CS.weak (fun _ hu => hu.osl0 (e := 91) (size := 3)) ?_
 refine CS.loopM (σ := Int × Value) [7, 8, 9, 10, 11, 12, 13, 14, 15, 16, 17, 18, 19, 20, 21, 22, 23, 24, 25, 26, 27, 28, 29, 30, 31, 32, 33, 34, 35] (fun s => [(6, .int .i64 s.1), (5, s.2)]) (fun s => [oT cMove 91 s.2 (soFar r z.x s.1 1 0), blk b3 [z.ths.v, z.prs.v, z.pls.v] 65, blk b2 [r.pls.v, r.ths.v, r.prs.v, r.wys.v, r.acs.v, r.aus.v, .int .i64 r.ply, r.gl.v] 31]) (fun s => 0 ≤ s.1 ∧ s.1 ≤ r.ply) (fun s => (r.ply - s.1).toNat) (0, .slice none 0 0) (fun _ _ => rfl) rfl rfl ⟨by simp, by simp; omega⟩ ?_
 intro p t hs
 obtain ⟨hp1, hp2⟩ := hs
 refine Cs (Nz 2 ?_)
 refine Wk 1 (Ba 2) ?_
 refine Wd (Qc (CS.cond rfl ?_ ?_))<;>intro hc1<;>try simp only [bq] at hc1
 ·
  refine Ck (Qc (Cs (Ce (Nz 1 ?_))))
  refine Wd (Qc (Ce ?_))
  refine CS.loopM (σ := Int × Value) [8, 9, 16, 17, 18, 19, 20, 21, 22, 23, 24, 25, 26, 27, 28, 29, 30, 31, 32, 33, 34, 35] (fun s => [(7, .int .i64 s.1), (5, s.2)]) (fun s => [oT cMove 91 s.2 (soFar r z.x p.1 s.1 0), blk b3 [z.ths.v, z.prs.v, z.pls.v] 65, blk b2 [r.pls.v, r.ths.v, r.prs.v, r.wys.v, r.acs.v, r.aus.v, .int .i64 r.ply, r.gl.v] 31]) (fun s => 1 ≤ s.1 ∧ s.1 ≤ 5) (fun s => (5 - s.1).toNat) (1, p.2) (fun _ _ => rfl) rfl rfl ⟨by simp, by simp⟩ ?_
  intro k t hs
  obtain ⟨hk1, hk2⟩ := hs
  refine Cs (Nz 2 ?_)
  refine Wd (Qc (CS.cond rfl ?_ ?_))<;>intro hc2<;>try simp only [bq] at hc2
  ·
   refine Ck (Qc (Cs (Ce (Nz 1 ?_))))
   refine Wd (Qc (Ce ?_))
   refine CS.loopM (σ := Int × Value) [9, 20, 21, 22, 23, 24, 25, 26, 27, 28, 29, 30, 31, 32, 33, 34, 35] (fun s => [(8, .int .i64 s.1), (5, s.2)]) (fun s => [oT cMove 91 s.2 (soFar r z.x p.1 k.1 s.1), blk b3 [z.ths.v, z.prs.v, z.pls.v] 65, blk b2 [r.pls.v, r.ths.v, r.prs.v, r.wys.v, r.acs.v, r.aus.v, .int .i64 r.ply, r.gl.v] 31]) (fun s => 0 ≤ s.1 ∧ s.1 ≤ 24) (fun s => (24 - s.1).toNat) (0, k.2) (fun _ _ => rfl) rfl rfl ⟨by simp, by simp⟩ ?_
   intro n t hs
   obtain ⟨hn1, hn2⟩ := hs
   have hln := soFar_len (r := r) (x := z.x) (p := p.1) (k := k.1) (n := n.1) (by omega) (by omega) (by omega)
   refine Cs (Nz 2 ?_)
   refine Wd (Qc (CS.cond rfl ?_ ?_))<;>intro hc3<;>try simp only [bq] at hc3
   ·
    refine Ck (Qc (Cs (Ce (Nz 3 ?_))))
    refine Wk 0 (Db plc91 zv91) ?_
    refine Wl 0 zv91 (fun _ => rfl) (fun _ => rfl) fun b9 hb9 => ?_
    refine Wv 0 0 ?_
    refine Wd (Qc (Nz 0 ?_))
    refine Wk 0 (Bb 3) ?_
    refine Wk 0 (Bb 2) ?_
    refine Wk 0 (Bb 0) ?_
    refine Wk 0 (Cb rfl rfl ent197 (fun u hu => Rlegal_c r u (hr.st hu) z (hz.st hu) hR hI ⟨p.1, k.1, n.1⟩)) ?_
    refine Wd (Qc (CS.cond rfl ?_ ?_))<;>intro hc4<;>try simp only [bq] at hc4
    ·
     refine Ny 1 ?_
     refine Wk 0 (Bb 0) ?_
     refine WS.buildT1 cMove (a := ⟨p.1, k.1, n.1⟩) sl70 zv91 rfl (by decide) (fun _ => rfl) ?_; intro v34
     refine WS.appendT1 (j := 2) (jz := 0) sl70 zv91 rfl (by decide) rfl rfl rfl rfl (w := w) trivial (by omega) (by omega) (fun _ => rfl) (fun _ => rfl) ?_; intro v35 hv35
     refine Wz 1 ?_
     refine Wd (Qb (Qc (Ny 1 ?_)))
     refine Wk 1 Za ?_
     refine Wd ?_
     refine QS.sel [2, 2, 2] rfl ?_
     exact QS.head ((n.1 + 1, v35)) rfl (by first | simp only [soFar_yes hn1 hc4] | simp only [← soFar_no hn1 hc4]) ⟨⟨by simp; omega, by simp; omega⟩, by simp; omega⟩
    ·
     refine Ck (Qb (Qc (Ny 1 ?_)))
     refine Wk 1 Za ?_
     refine Wd ?_
     refine QS.sel [1, 1, 1] rfl ?_
     exact QS.head ((n.1 + 1, n.2)) rfl (by first | simp only [soFar_yes hn1 hc4] | simp only [← soFar_no hn1 hc4]) ⟨⟨by simp; omega, by simp; omega⟩, by simp; omega⟩
   ·
    refine Cv (Qe (Qe (Qx (Qb (Qc (Ny 1 ?_))))))
    refine Wk 1 Za ?_
    exact Wd (QS.head ((k.1 + 1, n.2)) rfl (by simp only [← soFar_k hk1, show n.1 = 24 by omega]) ⟨⟨by simp; omega, by simp; omega⟩, by simp; omega⟩)
  ·
   refine Cv (Qe (Qe (Qx (Qb (Qc (Ny 1 ?_))))))
   refine Wk 1 Za ?_
   exact Wd (QS.head ((p.1 + 1, k.2)) rfl (by simp only [← soFar_p hp1, show k.1 = 5 by omega]) ⟨⟨by simp; omega, by simp; omega⟩, by simp; omega⟩)
 ·
  refine Cv (Qe (Qe (Qx (Qc (Nz 2 ?_)))))
  refine Wd (Qc (Cr ?_))
  have hpe : p.1 = r.ply := by omega
  exact out1 rfl rfl (by
    rw [show legalL r z.x = soFar r z.x p.1 1 0 by rw [soFar_0, hpe]; rfl]
    exact fun u hu => retM (f := fun v => v) (j := 0) rfl hu)
end Go.Proofs.YtaeagngfhceceaaGreatDoor
set_option maxHeartbeats 8000000
namespace Go.Proofs.YtaeagngfhceceaaGreatDoor
open Go.RowKit Go.Proofs
set_option maxRecDepth 100000
set_option linter.unusedVariables false
set_option linter.unusedSimpArgs false
theorem possibleR_c (G : Game) (w : World) (hG : GameOk w G) (hn : NearG G) (p : Pos) (hp : PosOk w p) (hP : GoodP G p) (m : Move) (hL : legalB G.rm p.st.x m = true) :
  Calls Tryz.prog 144 #[.agg #[G.rm.pls.v, G.rm.ths.v, G.rm.prs.v, G.rm.wys.v, G.rm.acs.v, G.rm.aus.v, .int .i64 G.rm.ply, G.rm.gl.v, G.lks.v, G.cds.v, G.nts.v, .int .i64 G.tr], .agg #[p.st.ths.v, p.st.prs.v, p.st.pls.v, p.rd.v], .agg #[.int .i64 m.p, .int .i64 m.k, .int .i64 m.n]] w (RetB w (.bool (possB G.p p.x m))) := by
 have hR := hP.ready
 have hI := hP.inn
 have hdo := legal_do hR hI hL
 have kac := hG.rm.acs
 have lac := hG.rm.acs.le
 have hxx : p.x.1 = p.st.x := rfl
 refine enter Tryz.func144 rfl rfl (Nat.le_of_ble_eq_true rfl) ?_
 refine Nz 0 ?_
 refine Wb 0 rfl rfl (fun _ => rfl) (fun _ => rfl) fun b3 hb3 => ?_
 refine Wb 0 rfl rfl (fun _ => rfl) (fun _ => rfl) fun b4 hb4 => ?_
 refine Wb 1 rfl rfl (fun _ => rfl) (fun _ => rfl) fun b5 hb5 => ?_
 refine Wd (Qc (Nz 1 ?_))
 refine Wk 1 (Bc 2) ?_
 refine Wk 0 (Bc 1) ?_
 refine Wk 0 (Bb 0) ?_
 refine Wc rfl rfl ent174 (fun u hu => RPlayed_c G.rm u (hG.rm.st hu) p.st (hp.st.st hu) hR hI m hL) (fun _ => rfl) ?_; rintro y ⟨hyx, uy, hyok⟩
 obtain ⟨hya, hyb, hyc⟩ := hyok.ones
 refine Wz 3 ?_
 refine Wl 0 zv65 (fun _ => rfl) (fun _ => rfl) fun b7 hb7 => ?_
 refine Wv 1 0 ?_
 refine Wd (Qc (Cs (Nz 2 ?_)))
 refine Wd (Qc (CS.cond rfl ?_ ?_))<;>intro hc1<;>try simp only [bq] at hc1
 ·
  refine Nz 1 ?_
  exact Wd (Qc (Cr (Qr (out1 rfl rfl (retBe (by rw [possB, hxx, playX_p, if_pos hL, hc1]; rfl))))))
 ·
  refine Ck (Qc (Cs (Dr mixed 1 ?_)))
  refine Dk 2 (Ba 2) ?_
  refine Df 0 rfl rfl (fun hg => Ff) ?_
  refine Df 0 rfl rfl (fun hg => Ff) ?_
  refine Df 0 rfl rfl (fun hg => Ba 4) ?_
  refine Df 0 rfl rfl (fun hg => Ff) ?_
  refine Df 0 rfl rfl (fun hg => Ba 2) ?_
  refine Df 0 rfl rfl (fun hg => Xc (eg_ hg rfl)) ?_
  refine Df 0 rfl rfl (fun hg => Ff) ?_
  refine Df 0 rfl rfl (fun hg => Uc 8 2) ?_
  refine Df 0 rfl rfl (fun hg => Fl) ?_
  refine Dk 1 Po ?_
  refine Df 0 rfl rfl (fun hg => Bb 4) ?_
  refine Df 0 rfl rfl (fun hg => Bb 3) ?_
  refine Df 0 rfl rfl (fun hg => Ff) ?_
  refine Df 0 rfl rfl (fun hg => Ff) ?_
  refine Df 0 rfl rfl (fun hg => Ba 4) ?_
  refine Df 0 rfl rfl (fun hg => Ff) ?_
  refine Df 0 rfl rfl (fun hg => Ba 2) ?_
  refine Df 0 rfl rfl (fun hg => Xc (eg_ hg rfl)) ?_
  refine Df 0 rfl rfl (fun hg => Ff) ?_
  refine Df 0 rfl rfl (fun hg => Uc 8 2) ?_
  refine Df 0 rfl rfl (fun hg => Cb rfl (ec_ (eg_ hg rfl) (ec_ (eg_ hg rfl) (ec_ (eg_ hg rfl) en_))) ent94 (fun u hu => openR_c G u (hG.st hu) hP.toGoodG p (hp.toSt hu) hP.ln (nth G.rm.acs.l m.n).lk (by (try simp only [bq] at hg); omega) (hP.alk (by (try simp only [bq] at hg); omega) (by (try simp only [bq] at hg); omega)))) ?_
  refine Dk 1 Po ?_
  exact Dd (Qc (Cr (out1 rfl rfl (retBe (by rw [possB, hxx, playX_p, if_pos hL, hc1, mayB, Game.p_alk, ← Bool.or_assoc]; simp [Pos.x])))))
theorem MovesR_c (G : Game) (w : World) (hG : GameOk w G) (hn : NearG G) (p : Pos) (hp : PosOk w p) (hP : GoodP G p) :
  Calls Tryz.prog 86 #[.agg #[G.rm.pls.v, G.rm.ths.v, G.rm.prs.v, G.rm.wys.v, G.rm.acs.v, G.rm.aus.v, .int .i64 G.rm.ply, G.rm.gl.v, G.lks.v, G.cds.v, G.nts.v, .int .i64 G.tr], .agg #[p.st.ths.v, p.st.prs.v, p.st.pls.v, p.rd.v]] w (RetM w (movesX G.p p.x) fun v => v) := by
 have hR := hP.ready
 have hI := hP.inn
 have hll := legal_len hR p.st.x
 refine enter Tryz.func86 rfl rfl (Nat.le_of_ble_eq_true rfl) ?_
 refine Nz 0 ?_
 refine Wb 0 rfl rfl (fun _ => rfl) (fun _ => rfl) fun b2 hb2 => ?_
 refine Wb 1 rfl rfl (fun _ => rfl) (fun _ => rfl) fun b3 hb3 => ?_
 refine Wd (Qc (Nz 1 ?_))
 refine Wd (Qc (Nz 1 ?_))
 refine Wk 1 (Bc 1) ?_
 refine Wk 0 (Bc 0) ?_
 refine Wc rfl rfl ent143 (fun u hu => RLegalMoves_c G.rm u (hG.rm.st hu) p.st (hp.st.st hu) hR hI) (fun _ => rfl) ?_; rintro ml ⟨uml, hml⟩
 refine Wz 1 ?_
 refine Wd (Qc (Cs (Nz 1 ?_)))
 refine Wd (Qc (Ce ?_))
 refine CS.weak (fun _ hu => hu.osl0 (e := 91) (size := 3)) ?_
 refine CS.loopM (σ := Int × Value) [13, 14, 15, 16, 17, 18, 19, 20, 21, 22, 23, 24, 25, 26, 27, 28, 29, 30, 31, 32] (fun s => [(7, .int .i64 s.1), (5, s.2)]) (fun s => [oT cMove 91 s.2 (((legalL G.rm p.st.x).take s.1.toNat).filter (possB G.p p.x)), roT cMove ⟨ml, legalL G.rm p.st.x⟩, blk b3 [p.st.ths.v, p.st.prs.v, p.st.pls.v, p.rd.v] 68, blk b2 [G.rm.pls.v, G.rm.ths.v, G.rm.prs.v, G.rm.wys.v, G.rm.acs.v, G.rm.aus.v, .int .i64 G.rm.ply, G.rm.gl.v, G.lks.v, G.cds.v, G.nts.v, .int .i64 G.tr] 36]) (fun s => 0 ≤ s.1 ∧ s.1 ≤ (legalL G.rm p.st.x).length) (fun s => ((legalL G.rm p.st.x).length - s.1).toNat) (0, .slice none 0 0) (fun _ _ => rfl) rfl rfl ⟨by simp, by simp⟩ ?_
 intro a t hs
 obtain ⟨ha1, ha2⟩ := hs
 refine Cs (Nz 2 ?_)
 refine Wk 1 (Nc (s := ⟨ml, legalL G.rm p.st.x⟩)) ?_
 refine Wd (Qc (CS.cond rfl ?_ ?_))<;>intro hc1<;>try simp only [bq] at hc1
 ·
  have hLm := mem_legal ha1 (show a.1 < (legalL G.rm p.st.x).length by omega)
  have hfl := filt_len (p := possB G.p p.x) (l := legalL G.rm p.st.x) (n := a.1.toNat)
  refine Ck (Qc (Cs (Ce (Cs (Dr mixed 0 ?_)))))
  refine Dk 0 (Bb 3) ?_
  refine Dk 2 (Bb 2) ?_
  refine Dk 0 (Xc (s := ⟨ml, legalL G.rm p.st.x⟩)) ?_
  refine Dk 0 (det_ldRN (jj := 1) (s := ⟨ml, legalL G.rm p.st.x⟩) rfl rfl rfl ⟨(by omega), (by omega)⟩ rfl tk91) ?_
  refine Dk 0 (Cb rfl rfl ent144 (fun u hu => possibleR_c G u (hG.st hu) hn p (hp.toSt hu) hP _ hLm)) ?_
  refine Dd (Qc (CS.cond rfl ?_ ?_))<;>intro hc2<;>try simp only [bq] at hc2
  ·
   refine Ny 3 ?_
   refine Wk 0 (Xc (s := ⟨ml, legalL G.rm p.st.x⟩)) ?_
   refine Wk 0 (det_ldRN (jj := 1) (s := ⟨ml, legalL G.rm p.st.x⟩) rfl rfl rfl ⟨(by omega), (by omega)⟩ rfl tk91) ?_
   refine WS.buildT1 cMove (a := nth (legalL G.rm p.st.x) a.1) sl70 zv91 rfl (by decide) (fun _ => rfl) ?_; intro v31
   refine WS.appendT1 (j := 1) (jz := 0) sl70 zv91 rfl (by decide) rfl rfl rfl rfl (w := w) trivial (by omega) (by omega) (fun _ => rfl) (fun _ => rfl) ?_; intro v32 hv32
   refine Wz 1 ?_
   refine Wd (Qb (Qc (Ny 1 ?_)))
   refine Wk 1 Za ?_
   refine Wd ?_
   refine QS.sel [1, 1, 1, 1] rfl ?_
   exact QS.head ((a.1 + 1, v32)) rfl (by first | simp only [filt_yes ha1 (show a.1 < (legalL G.rm p.st.x).length by omega) hc2] | simp only [← filt_no ha1 (show a.1 < (legalL G.rm p.st.x).length by omega) hc2]) ⟨⟨by simp; omega, by simp; omega⟩, by simp; omega⟩
  ·
   refine Ck (Qb (Qc (Ny 1 ?_)))
   refine Wk 1 Za ?_
   exact Wd (QS.head ((a.1 + 1, a.2)) rfl (by first | simp only [filt_yes ha1 (show a.1 < (legalL G.rm p.st.x).length by omega) hc2] | simp only [← filt_no ha1 (show a.1 < (legalL G.rm p.st.x).length by omega) hc2]) ⟨⟨by simp; omega, by simp; omega⟩, by simp; omega⟩)
 ·
  have hta : (legalL G.rm p.st.x).take a.1.toNat = legalL G.rm p.st.x := List.take_of_length_le (by omega)
  refine Cv (Qe (Qe (Qx (Qc (Nz 2 ?_)))))
  refine Wd (Qc (Cr ?_))
  exact out1 rfl rfl (by
    rw [movesX_p, show (legalL G.rm p.x.1).filter (possB G.p p.x) = ((legalL G.rm p.st.x).take a.1.toNat).filter (possB G.p p.x) by rw [hta]; rfl]
    exact fun u hu => retM (f := fun v => v) (j := 0) rfl hu)
theorem CanR_c (G : Game) (w : World) (hG : GameOk w G) (hn : NearG G) (p : Pos) (hp : PosOk w p) :
  Calls Tryz.prog 30 #[.agg #[G.rm.pls.v, G.rm.ths.v, G.rm.prs.v, G.rm.wys.v, G.rm.acs.v, G.rm.aus.v, .int .i64 G.rm.ply, G.rm.gl.v, G.lks.v, G.cds.v, G.nts.v, .int .i64 G.tr], .agg #[p.st.ths.v, p.st.prs.v, p.st.pls.v, p.rd.v]] w (RetM w (CanV G.p p.x).2 fun v => .tuple #[v, .int .i64 (CanV G.p p.x).1]) := by
 refine enter Tryz.func30 rfl rfl (Nat.le_of_ble_eq_true rfl) ?_
 refine Nz 0 ?_
 refine Wb 0 rfl rfl (fun _ => rfl) (fun _ => rfl) fun b2 hb2 => ?_
 refine Wb 2 rfl rfl (fun _ => rfl) (fun _ => rfl) fun b3 hb3 => ?_
 refine Wd (Qc (Nz 0 ?_))
 refine Wk 0 (Bb 1) ?_
 refine Wk 0 (Bb 0) ?_
 refine Wk 1 (Cb rfl rfl ent52 (fun u hu => RPos_c G u (hG.st hu) hn p (hp.toSt hu))) ?_
 refine Wd (Qc (Cs (Nz 2 ?_)))
 refine Wd (Qc (CS.cond rfl ?_ ?_))<;>intro hc1<;>try simp only [bq] at hc1
 ·
  have hv : CanV G.p p.x = (posG G.p p.x, []) := if_neg hc1
  refine Nz 3 ?_
  refine Wd (Qc (Cr (Qr ?_)))
  exact out2 rfl rfl rfl (by
    rw [hv]
    exact fun u hu => retM0 (f := fun v => .tuple #[v, .int .i64 (posG G.p p.x)]) hu)
 ·
  have hv : CanV G.p p.x = (0, movesX G.p p.x) := if_pos hc1
  have hP := goodp_of hc1
  refine Ck (Qc (Nz 0 ?_))
  refine Wk 0 (Bb 1) ?_
  refine Wk 0 (Bb 0) ?_
  refine Wc rfl rfl ent86 (fun u hu => MovesR_c G u (hG.st hu) hn p (hp.toSt hu) hP) (fun _ => rfl) ?_; rintro y ⟨uy, hy⟩
  refine Wz 2 ?_
  refine Wd (Qc (Cr ?_))
  exact out2 rfl rfl rfl (by
    rw [hv]
    exact fun u hu => retMr (f := fun v => .tuple #[v, .int .i64 0]) (j := 0) rfl hu)
end Go.Proofs.YtaeagngfhceceaaGreatDoor
