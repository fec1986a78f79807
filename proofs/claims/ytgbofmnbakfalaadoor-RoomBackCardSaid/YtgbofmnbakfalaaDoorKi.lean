/- Merged texts of this proof (walks and plain laws), printed by a program of the prover. -/
import Derived.Test.YtgbofmnbakfalaaDoorKh
set_option maxHeartbeats 8000000
namespace Go.Proofs.YtgbofmnbakfalaaDoor
open Go.RowKit Go.Proofs
set_option maxRecDepth 100000
set_option linter.unusedVariables false
set_option linter.unusedSimpArgs false
theorem is_c (n : Int) (w : World) (b1 : Nat) :
  Calls Tryd.prog 97 #[.int .i64 n, .pointer (some ⟨b1, 0, none⟩)] w (fun e w' => ∃ b : Nat, True ∧ RetF w (.func (.func 98) #[] #[.pointer (some ⟨b1, 0, none⟩), .pointer (some ⟨b, 0, none⟩)]) (blk b [.int .i64 n] 3) e w') := by
 refine enter Tryd.func97 rfl rfl (Nat.le_of_ble_eq_true rfl) ?_
 refine Nz 0 ?_
 refine Wb 1 rfl rfl (fun _ => rfl) (fun _ => rfl) fun b2 hb2 => ?_
 refine Wd (Qc (Nz 0 ?_))
 refine Wk 1 (det_makeFunc rfl) ?_
 exact Wd (Qc (Cr (out1 rfl rfl (fun u hu => ⟨b2, trivial, retF (j := 0) rfl u hu⟩))))
theorem isF_c (tb : Nat) (r : Room) (z : Stt) (w : World) (hT : TabOk w tb r z) (b1 : Nat) (e1 : TypeId) (h1 : BlkAt w b1 [.pointer (some ⟨tb, 0, none⟩)] e1) (b2 : Nat) (n : Int) (e2 : TypeId) (h2 : BlkAt w b2 [.int .i64 n] e2) (p : Int) (h3 : 0 ≤ p ∧ p < z.prs.l.length) :
  Calls Tryd.prog 98 #[.int .i64 p, .pointer (some ⟨b1, 0, none⟩), .pointer (some ⟨b2, 0, none⟩)] w (RetB w (.bool (decide (nth z.prs.l p = n)))) := by
 have hTb := hT.blk
 have hr := hT.room
 have zth := hT.st.ths.ints
 have zpr := hT.st.prs.ints
 have zpl := hT.st.pls.ints
 have mth := zth.le
 have mpr := zpr.le
 have mpl := zpl.le
 refine enter Tryd.func98 rfl rfl (Nat.le_of_ble_eq_true rfl) ?_
 refine Nz 1 ?_
 refine Wd (Qc (Cs (Dr mixed 0 ?_)))
 refine Dk 3 Ga ?_
 refine Dk 1 Ga ?_
 refine Dk 0 Xa ?_
 refine Dk 0 Ia ?_
 refine Dk 2 Ga ?_
 exact Dd (Qc (Cr (out1 rfl rfl retB)))
theorem allG_c (g : Nat) (lb : List Value) (q : Bool) (hg : Ent Tryd.prog g) (x : Int) (w : World) (hx : ∀ u, Below w.heap.size w u → Calls Tryd.prog g ([.int .i64 x] ++ lb : List Value).toArray u (RetB u (.bool q))) (b : Nat) (e : TypeId) (hb : BlkAt w b [.func (.func g) #[] lb.toArray] e) :
  Calls Tryd.prog 100 #[.int .i64 x, .pointer (some ⟨b, 0, none⟩)] w (RetB w (.bool (!q))) := by
 refine enter Tryd.func100 rfl rfl (Nat.le_of_ble_eq_true rfl) ?_
 refine Nz 1 ?_
 refine Wd (Qc (Nz 0 ?_))
 refine Wk 1 Ga ?_
 refine Wk 2 (Cb rfl rfl hg (fun u hu => hx u hu.below)) ?_
 exact Wd (Qc (Cr (out1 rfl rfl retB)))
theorem all_c (s0 : Sl Int) (w : World) (hk : SlT cInt w s0) (g : Nat) (lb : List Value) (p : Int → Bool) (hg : Ent Tryd.prog g)
  (hp : ∀ u, Below w.heap.size w u → ∀ i : Int, 0 ≤ i → i < s0.l.length → Calls Tryd.prog g ([.int .i64 (nth s0.l i)] ++ lb : List Value).toArray u (RetB u (.bool (p (nth s0.l i))))) :
  Calls Tryd.prog 99 #[s0.v, .func (.func g) #[] lb.toArray] w (RetB w (.bool (s0.l.all p))) := by
 refine enter Tryd.func99 rfl rfl (Nat.le_of_ble_eq_true rfl) ?_
 refine Nz 0 ?_
 refine Wb 1 rfl rfl (fun _ => rfl) (fun _ => rfl) fun b3 hb3 => ?_
 refine Wd (Qc (Nz 1 ?_))
 refine Wk 0 (det_makeFunc rfl) ?_
 refine Wk 2 (Cb rfl rfl ent90 (fun u hu => ContainsIn_c s0 u (hk.st hu) _ [.pointer (some ⟨b3, 0, none⟩)] (fun x => !p x) ent100 (fun u2 h2 i a0 a1 => allG_c g lb _ hg _ u2 (fun u3 h3 => hp u3 (below_trans hu.below (below_trans h2 h3)) i a0 a1) _ _ ((st_blk hu (j := 0) rfl).ext h2)))) ?_
 exact Wd (Qc (Cr (out1 rfl rfl (retBe (by rw [List.all_eq_not_any_not])))))
end Go.Proofs.YtgbofmnbakfalaaDoor
set_option maxHeartbeats 8000000
namespace Go.Proofs.YtgbofmnbakfalaaDoor
open Go.RowKit Go.Proofs
set_option maxRecDepth 100000
set_option linter.unusedVariables false
set_option linter.unusedSimpArgs false
theorem ilegal_c (tb : Nat) (r : Room) (z : Stt) (w : World) (hT : TabOk w tb r z) (hR : Ready r) (hI : StIn r z.x) (m : Move) :
  Calls Tryd.prog 68 #[.pointer (some ⟨tb, 0, none⟩), .agg #[.int .i64 m.p, .int .i64 m.k, .int .i64 m.n]] w (RetB w (.bool (legalB r z.x m))) := by
 have hTb := hT.blk
 have hr := hT.room
 have zth := hT.st.ths.ints
 have zpr := hT.st.prs.ints
 have zpl := hT.st.pls.ints
 have mth := zth.le
 have mpr := zpr.le
 have mpl := zpl.le
 have kpl := hr.pls
 have lpl := hr.pls.le
 have kth := hr.ths
 have lth := hr.ths.le
 have kpr := hr.prs
 have lpr := hr.prs.le
 have kwy := hr.wys
 have lwy := hr.wys.le
 have kac := hr.acs
 have lac := hr.acs.le
 have kau := hr.aus
 have lau := hr.aus.le
 have kgl := hr.gl
 have lgl := hr.gl.le
 have hlen := hR.lens
 have hply := hR.ply
 have hlt : z.ths.l.length = r.ths.l.length := hI.lt
 have hlp : z.prs.l.length = r.prs.l.length := hI.lp
 have hll : (z.pls.l.length : Int) = r.ply := hI.ll
 have hcl := cnt_le z.prs.l (-2 - m.p)
 refine enter Tryd.func68 rfl rfl (Nat.le_of_ble_eq_true rfl) ?_
 refine Nz 0 ?_
 refine Wb 0 rfl rfl (fun _ => rfl) (fun _ => rfl) fun b2 hb2 => ?_
 refine Wb 1 rfl rfl (fun _ => rfl) (fun _ => rfl) fun b3 hb3 => ?_
 refine Wd (Qc (Cs (Cs (Dr mixed 1 ?_))))
 refine Dk 0 (Ba 0) ?_
 refine Dk 3 (Ba 1) ?_
 refine Dk 0 Ga ?_
 refine Dk 0 Na ?_
 refine Dk 0 Zb ?_
 refine Dk 1 (Cb rfl rfl ent48 (fun u hu => within_c _ _ _ u)) ?_
 refine Dd (Qc (CS.cond rfl ?_ ?_))<;>intro hc1<;>try simp only [bq] at hc1
 ·
  refine Nz 1 ?_
  exact Wd (Qc (Cr (Qr (out1 rfl rfl (retBe (by unfold legalB; rw [if_neg (by simp only [Bool.and_eq_true, decide_eq_true_eq]; omega)]))))))
 ·
  have hp : (decide (0 ≤ m.p) && decide (m.p ≤ r.ply - 1)) = true := by simp only [Bool.and_eq_true, decide_eq_true_eq]; omega
  have hat : 0 ≤ nth z.pls.l m.p ∧ nth z.pls.l m.p < r.pls.l.length := hI.at (i := m.p) (by omega) (show m.p < z.pls.l.length by omega)
  refine Ck (Qc (Cs (Dr mixed 0 ?_)))
  refine Dk 3 (Ba 1) ?_
  refine Dk 1 Ga ?_
  refine Dk 0 (Ba 0) ?_
  refine Dk 0 Xa ?_
  refine Dk 1 Ia ?_
  refine Dd (Qc (Nz 1 ?_))
  refine Wk 0 (Ba 0) ?_
  refine Wk 1 Zb ?_
  refine Wd (Qc (Nz 0 ?_))
  refine Wk 1 (det_makeFunc rfl) ?_
  refine Wd (Qc (Nz 1 ?_))
  refine Wd (Qc (Cs (Nz 1 ?_)))
  refine Wk 0 (Ba 0) ?_
  refine Wd (Qc (Ce (Nz 2 ?_)))
  refine Wd (Qc (CS.cond rfl ?_ ?_))<;>intro hc2<;>try simp only [bq] at hc2
  ·
   refine Cs (Cs (Dr mixed 1 ?_))
   refine Dk 0 (Ba 0) ?_
   refine Dk 3 (Ba 1) ?_
   refine Dk 0 Ga ?_
   refine Dk 0 Nc ?_
   refine Dk 0 Zb ?_
   refine Dk 1 (Cb rfl rfl ent48 (fun u hu => within_c _ _ _ u)) ?_
   refine Dd (Qc (CS.cond rfl ?_ ?_))<;>intro hc3<;>try simp only [bq] at hc3
   ·
    refine Nz 1 ?_
    exact Wd (Qc (Cr (Qr (Qs (Qr (out1 rfl rfl (retBe (by unfold legalB; rw [if_pos hp, if_pos hc2]; unfold goB; rw [show (decide (0 ≤ m.n) && decide (m.n ≤ (r.wys.l.length : Int) - 1)) = false by (simp only [Bool.and_eq_false_iff, decide_eq_false_iff_not]; omega)]; simp))))))))
   ·
    have hwh : SlT cLit w (nth r.wys.l m.n).wh := hr.wys.at (by omega) (by omega)
    have hwc := (hR.wys _ (nth_mem (i := m.n) (xs := r.wys.l) (by omega) (by omega))).1
    refine Ck (Qc (Cs ?_))
    refine CS.drawnAll (k := 11) mixed rfl rfl ?_
    refine Ak 0 [1,2,3] rfl (Ba 1) ?_
    refine Ak 4 [5] rfl Ga ?_
    refine Ak 6 [] rfl (Ba 0) ?_
    refine Ak 7 [] rfl Xc ?_
    refine Ak 8 [] rfl Ua ?_
    refine Ao 9 rfl ?_
    refine Wl 0 zv74 (fun _ => rfl) (fun _ => rfl) fun b9 hb9 => ?_
    refine Wd (Qa ?_)
    refine Ao 10 rfl ?_
    refine Wv 0 0 ?_
    refine Wd (Qa ?_)
    refine Ae ?_
    refine Qc (Nz 1 ?_)
    refine Wk 3 (Ba 0) ?_
    refine Wf 0 rfl rfl (fun hg => Ff) ?_
    refine Wf 0 rfl rfl (fun hg => Ba 0) ?_
    refine Wf 0 rfl rfl (fun hg => Fm) ?_
    refine Wf 0 rfl rfl (fun hg => Fq) ?_
    refine Wk 1 Po ?_
    refine Wt 0 rfl rfl (fun hg => Ba 2) ?_
    refine Wt 0 rfl rfl (fun hg => Ff) ?_
    refine Wt 0 rfl rfl (fun hg => Ba 0) ?_
    refine Wt 0 rfl rfl (fun hg => Cb rfl (ec_ (eg_ hg rfl) (ec_ (eg_ hg rfl) en_)) ent74 (fun u hu => holds_c tb r z u (hT.stt hu) (nth r.wys.l m.n).wh (hwh.st hu) (by rw [hlt]; exact hwc))) ?_
    refine Wk 1 Pa ?_
    exact Wd (Qc (Cr (Qs (Qr (out1 rfl rfl (retBe (by unfold legalB; rw [if_pos hp, if_pos hc2]; unfold goB; rw [show (decide (0 ≤ m.n) && decide (m.n ≤ (r.wys.l.length : Int) - 1)) = true by (simp only [Bool.and_eq_true, decide_eq_true_eq]; omega)]; rfl)))))))
  ·
   refine Nz 2 ?_
   refine Wd (Qc (CS.cond rfl ?_ ?_))<;>intro hc4<;>try simp only [bq] at hc4
   ·
    refine Cs ?_
    rcases Bool.eq_false_or_eq_true ((decide (0 ≤ m.n) && decide (m.n ≤ (z.prs.l.length : Int) - 1))) with hb | hb
    ·
     have hn2 : 0 ≤ m.n ∧ m.n < z.prs.l.length := by simp only [Bool.and_eq_true, decide_eq_true_eq] at hb; omega
     have hwh : SlT cLit w (nth r.prs.l m.n).wh := hr.prs.at hn2.1 (by omega)
     have hwc := (hR.prs _ (nth_mem (i := m.n) (xs := r.prs.l) hn2.1 (by omega))).1
     refine CS.drawnAll (k := 40) mixed rfl rfl ?_
     refine Ar [0] ?_
     refine Ak 1 [] rfl (Ba 0) ?_
     refine Ak 2 [3,4,5] rfl (Ba 1) ?_
     refine Ak 6 [] rfl Ga ?_
     refine Ak 7 [] rfl Na ?_
     refine Ak 8 [] rfl Zb ?_
     refine Ak 9 [] rfl (Cb rfl rfl ent48 (fun u hu => within_c _ _ _ u)) ?_
     refine Ak 10 [] rfl (det_move (v := .bool true) (congrArg (fun b => some (Value.bool b)) hb)) ?_
     refine At 11 [] rfl rfl rfl (fun hg => Fm) ?_
     refine At 12 [] rfl rfl rfl (fun hg => Fm) ?_
     refine At 14 [] rfl rfl rfl (fun hg => Ff) ?_
     refine At 15 [] rfl rfl rfl (fun hg => Ba 0) ?_
     refine Ao 13 rfl ?_
     refine WS.callFg rfl rfl rfl ent97 (fun u hu => is_c (nth z.pls.l m.p) u b2) (fun _ => rfl) ?_; intro b90 hb90
     refine Wd (Qa ?_)
     refine Ao 16 rfl ?_
     refine Wt 0 rfl rfl (fun hg => Cb rfl (ec_ (eg_ hg rfl) en_) ent98 (fun u hu => isF_c tb r z u (hT.stt hu) b2 _ (st_blk hu (j := 2) rfl) b90 _ _ (st_blk hu (j := 0) rfl) m.n hn2)) ?_
     refine Wd (Qa ?_)
     refine Ak 17 [18] rfl Pa ?_
     refine At 19 [] rfl rfl rfl (fun hg => Ba 1) ?_
     refine At 20 [] rfl rfl rfl (fun hg => Ba 1) ?_
     refine At 21 [] rfl rfl rfl (fun hg => Fc) ?_
     refine At 22 [] rfl rfl rfl (fun hg => Ff) ?_
     refine At 23 [] rfl rfl rfl (fun hg => Ff) ?_
     refine At 24 [] rfl rfl rfl (fun hg => Ga) ?_
     refine At 25 [] rfl rfl rfl (fun hg => Ff) ?_
     refine At 26 [] rfl rfl rfl (fun hg => Ba 0) ?_
     refine At 27 [] rfl rfl rfl (fun hg => Xc (eg_ hg rfl)) ?_
     refine At 28 [] rfl rfl rfl (fun hg => Ff) ?_
     refine At 29 [] rfl rfl rfl (fun hg => Uc 3 2) ?_
     refine At 30 [] rfl rfl rfl (fun hg => Cb rfl (ec_ (eg_ hg rfl) (ec_ (eg_ hg rfl) en_)) ent74 (fun u hu => holds_c tb r z u (hT.stt hu) (nth r.prs.l m.n).wh (hwh.st hu) (by rw [hlt]; exact hwc))) ?_
     refine Ak 31 [32] rfl Pa ?_
     refine At 33 [] rfl rfl rfl (fun hg => Ba 1) ?_
     refine At 34 [] rfl rfl rfl (fun hg => Ff) ?_
     refine At 35 [] rfl rfl rfl (fun hg => Ba 0) ?_
     refine At 36 [] rfl rfl rfl (fun hg => Cb rfl (ec_ (eg_ hg rfl) (ec_ (eg_ hg rfl) en_)) ent101 (fun u hu => ihand_c tb r z u (hT.stt hu) m.p (by omega) (by omega) (by omega))) ?_
     refine At 37 [] rfl rfl rfl (fun hg => Fl) ?_
     refine Ak 38 [39] rfl Pa ?_
     refine Ae ?_
     exact Qc (Cr (Qs (Qr (out1 rfl rfl (retBe (by unfold legalB; rw [if_pos hp, if_neg hc2, if_pos hc4]; unfold takeB; rw [show (decide (0 ≤ m.n) && decide (m.n ≤ (r.prs.l.length : Int) - 1)) = true by (rw [← hlp]; exact hb)]; rfl))))))
    ·
     refine Dr mixed 1 ?_
     refine Dk 0 (Ba 0) ?_
     refine Dk 3 (Ba 1) ?_
     refine Dk 0 Ga ?_
     refine Dk 0 Na ?_
     refine Dk 0 Zb ?_
     refine Dk 1 (Cb rfl rfl ent48 (fun u hu => within_c _ _ _ u)) ?_
     refine Dt 0 rfl rfl (fun hg => by first | exact Fy hb hg | exact Fy_ (by rw [hb] at hg; simp at hg; done) | exact Fy_ (by simp [hb] at hg; done)) ?_
     refine Dt 0 rfl rfl (fun hg => by first | exact Fy hb hg | exact Fy_ (by rw [hb] at hg; simp at hg; done) | exact Fy_ (by simp [hb] at hg; done)) ?_
     refine Dt 0 rfl rfl (fun hg => by first | exact Fy hb hg | exact Fy_ (by rw [hb] at hg; simp at hg; done) | exact Fy_ (by simp [hb] at hg; done)) ?_
     refine Dt 0 rfl rfl (fun hg => by first | exact Fy hb hg | exact Fy_ (by rw [hb] at hg; simp at hg; done) | exact Fy_ (by simp [hb] at hg; done)) ?_
     refine Dt 0 rfl rfl (fun hg => by first | exact Fy hb hg | exact Fy_ (by rw [hb] at hg; simp at hg; done) | exact Fy_ (by simp [hb] at hg; done)) ?_
     refine Dt 0 rfl rfl (fun hg => by first | exact Fz hb hg | exact Fz_ (by rw [hb] at hg; simp at hg; done) | exact Fz_ (by simp [hb] at hg; done)) ?_
     refine Dk 1 Pa ?_
     refine Dt 0 rfl rfl (fun hg => by first | exact Fy hb hg | exact Fy_ (by rw [hb] at hg; simp at hg; done) | exact Fy_ (by simp [hb] at hg; done)) ?_
     refine Dt 0 rfl rfl (fun hg => by first | exact Fy hb hg | exact Fy_ (by rw [hb] at hg; simp at hg; done) | exact Fy_ (by simp [hb] at hg; done)) ?_
     refine Dt 0 rfl rfl (fun hg => by first | exact Fy hb hg | exact Fy_ (by rw [hb] at hg; simp at hg; done) | exact Fy_ (by simp [hb] at hg; done)) ?_
     refine Dt 0 rfl rfl (fun hg => by first | exact Fy hb hg | exact Fy_ (by rw [hb] at hg; simp at hg; done) | exact Fy_ (by simp [hb] at hg; done)) ?_
     refine Dt 0 rfl rfl (fun hg => by first | exact Fy hb hg | exact Fy_ (by rw [hb] at hg; simp at hg; done) | exact Fy_ (by simp [hb] at hg; done)) ?_
     refine Dt 0 rfl rfl (fun hg => by first | exact Fy hb hg | exact Fy_ (by rw [hb] at hg; simp at hg; done) | exact Fy_ (by simp [hb] at hg; done)) ?_
     refine Dt 0 rfl rfl (fun hg => by first | exact Fy hb hg | exact Fy_ (by rw [hb] at hg; simp at hg; done) | exact Fy_ (by simp [hb] at hg; done)) ?_
     refine Dt 0 rfl rfl (fun hg => by first | exact Fy hb hg | exact Fy_ (by rw [hb] at hg; simp at hg; done) | exact Fy_ (by simp [hb] at hg; done)) ?_
     refine Dt 0 rfl rfl (fun hg => by first | exact Fy hb hg | exact Fy_ (by rw [hb] at hg; simp at hg; done) | exact Fy_ (by simp [hb] at hg; done)) ?_
     refine Dt 0 rfl rfl (fun hg => by first | exact Fy hb hg | exact Fy_ (by rw [hb] at hg; simp at hg; done) | exact Fy_ (by simp [hb] at hg; done)) ?_
     refine Dt 0 rfl rfl (fun hg => by first | exact Fy hb hg | exact Fy_ (by rw [hb] at hg; simp at hg; done) | exact Fy_ (by simp [hb] at hg; done)) ?_
     refine Dt 0 rfl rfl (fun hg => by first | exact Fz hb hg | exact Fz_ (by rw [hb] at hg; simp at hg; done) | exact Fz_ (by simp [hb] at hg; done)) ?_
     refine Dk 1 Pa ?_
     refine Dt 0 rfl rfl (fun hg => by first | exact Fy hb hg | exact Fy_ (by rw [hb] at hg; simp at hg; done) | exact Fy_ (by simp [hb] at hg; done)) ?_
     refine Dt 0 rfl rfl (fun hg => by first | exact Fy hb hg | exact Fy_ (by rw [hb] at hg; simp at hg; done) | exact Fy_ (by simp [hb] at hg; done)) ?_
     refine Dt 0 rfl rfl (fun hg => by first | exact Fy hb hg | exact Fy_ (by rw [hb] at hg; simp at hg; done) | exact Fy_ (by simp [hb] at hg; done)) ?_
     refine Dt 0 rfl rfl (fun hg => by first | exact Fy hb hg | exact Fy_ (by rw [hb] at hg; simp at hg; done) | exact Fy_ (by simp [hb] at hg; done)) ?_
     refine Dt 0 rfl rfl (fun hg => by first | exact Fz hb hg | exact Fz_ (by rw [hb] at hg; simp at hg; done) | exact Fz_ (by simp [hb] at hg; done)) ?_
     refine Dk 1 Pa ?_
     exact Dd (Qc (Cr (Qs (Qr (out1 rfl rfl (retBe (by unfold legalB; rw [if_pos hp, if_neg hc2, if_pos hc4]; unfold takeB; rw [show (decide (0 ≤ m.n) && decide (m.n ≤ (r.prs.l.length : Int) - 1)) = false by (rw [← hlp]; exact hb), hb]; simp)))))))
   ·
    refine Nz 2 ?_
    refine Wd (Qc (CS.cond rfl ?_ ?_))<;>intro hc5<;>try simp only [bq] at hc5
    ·
     refine Cs ?_
     rcases Bool.eq_false_or_eq_true ((decide (0 ≤ m.n) && decide (m.n ≤ (z.prs.l.length : Int) - 1))) with hb | hb
     ·
      have hn2 : 0 ≤ m.n ∧ m.n < z.prs.l.length := by simp only [Bool.and_eq_true, decide_eq_true_eq] at hb; omega
      refine CS.drawnAll (k := 19) mixed rfl rfl ?_
      refine Ar [0] ?_
      refine Ak 1 [] rfl (Ba 0) ?_
      refine Ak 2 [3,4,5] rfl (Ba 1) ?_
      refine Ak 6 [] rfl Ga ?_
      refine Ak 7 [] rfl Na ?_
      refine Ak 8 [] rfl Zb ?_
      refine Ak 9 [] rfl (Cb rfl rfl ent48 (fun u hu => within_c _ _ _ u)) ?_
      refine Ak 10 [] rfl (det_move (v := .bool true) (congrArg (fun b => some (Value.bool b)) hb)) ?_
      refine At 11 [] rfl rfl rfl (fun hg => Fm) ?_
      refine At 12 [] rfl rfl rfl (fun hg => Fm) ?_
      refine At 14 [] rfl rfl rfl (fun hg => Ff) ?_
      refine At 15 [] rfl rfl rfl (fun hg => Ba 0) ?_
      refine Ao 13 rfl ?_
      refine WS.callFg rfl rfl rfl ent97 (fun u hu => is_c (-2 - m.p) u b2) (fun _ => rfl) ?_; intro b131 hb131
      refine Wd (Qa ?_)
      refine Ao 16 rfl ?_
      refine Wt 0 rfl rfl (fun hg => Cb rfl (ec_ (eg_ hg rfl) en_) ent98 (fun u hu => isF_c tb r z u (hT.stt hu) b2 _ (st_blk hu (j := 2) rfl) b131 _ _ (st_blk hu (j := 0) rfl) m.n hn2)) ?_
      refine Wd (Qa ?_)
      refine Ak 17 [18] rfl Pa ?_
      refine Ae ?_
      exact Qc (Cr (Qs (Qr (out1 rfl rfl (retBe (by unfold legalB; rw [if_pos hp, if_neg hc2, if_neg hc4, if_pos hc5]; unfold dropB; rw [show (decide (0 ≤ m.n) && decide (m.n ≤ (r.prs.l.length : Int) - 1)) = true by (rw [← hlp]; exact hb)]; rfl))))))
     ·
      refine Dr mixed 1 ?_
      refine Dk 0 (Ba 0) ?_
      refine Dk 3 (Ba 1) ?_
      refine Dk 0 Ga ?_
      refine Dk 0 Na ?_
      refine Dk 0 Zb ?_
      refine Dk 1 (Cb rfl rfl ent48 (fun u hu => within_c _ _ _ u)) ?_
      refine Dt 0 rfl rfl (fun hg => by first | exact Fy hb hg | exact Fy_ (by rw [hb] at hg; simp at hg; done) | exact Fy_ (by simp [hb] at hg; done)) ?_
      refine Dt 0 rfl rfl (fun hg => by first | exact Fy hb hg | exact Fy_ (by rw [hb] at hg; simp at hg; done) | exact Fy_ (by simp [hb] at hg; done)) ?_
      refine Dt 0 rfl rfl (fun hg => by first | exact Fy hb hg | exact Fy_ (by rw [hb] at hg; simp at hg; done) | exact Fy_ (by simp [hb] at hg; done)) ?_
      refine Dt 0 rfl rfl (fun hg => by first | exact Fy hb hg | exact Fy_ (by rw [hb] at hg; simp at hg; done) | exact Fy_ (by simp [hb] at hg; done)) ?_
      refine Dt 0 rfl rfl (fun hg => by first | exact Fy hb hg | exact Fy_ (by rw [hb] at hg; simp at hg; done) | exact Fy_ (by simp [hb] at hg; done)) ?_
      refine Dt 0 rfl rfl (fun hg => by first | exact Fz hb hg | exact Fz_ (by rw [hb] at hg; simp at hg; done) | exact Fz_ (by simp [hb] at hg; done)) ?_
      refine Dk 1 Pa ?_
      exact Dd (Qc (Cr (Qs (Qr (out1 rfl rfl (retBe (by unfold legalB; rw [if_pos hp, if_neg hc2, if_neg hc4, if_pos hc5]; unfold dropB; rw [show (decide (0 ≤ m.n) && decide (m.n ≤ (r.prs.l.length : Int) - 1)) = false by (rw [← hlp]; exact hb), hb]; simp)))))))
    ·
     refine Nz 2 ?_
     refine Wd (Qc (CS.cond rfl ?_ ?_))<;>intro hc6<;>try simp only [bq] at hc6
     ·
      refine Cs (Cs (Dr mixed 1 ?_))
      refine Dk 0 (Ba 0) ?_
      refine Dk 3 (Ba 1) ?_
      refine Dk 0 Ga ?_
      refine Dk 0 Nc ?_
      refine Dk 0 Zb ?_
      refine Dk 1 (Cb rfl rfl ent48 (fun u hu => within_c _ _ _ u)) ?_
      refine Dd (Qc (CS.cond rfl ?_ ?_))<;>intro hc7<;>try simp only [bq] at hc7
      ·
       refine Nz 1 ?_
       exact Wd (Qc (Cr (Qr (Qs (Qr (out1 rfl rfl (retBe (by unfold legalB; rw [if_pos hp, if_neg hc2, if_neg hc4, if_neg hc5, if_pos hc6]; unfold doB; rw [show (decide (0 ≤ m.n) && decide (m.n ≤ (r.acs.l.length : Int) - 1)) = false by (simp only [Bool.and_eq_false_iff, decide_eq_false_iff_not]; omega)]; simp))))))))
      ·
       have hn2 : 0 ≤ m.n ∧ m.n < r.acs.l.length := by omega
       have ha := hR.acs _ (nth_mem hn2.1 hn2.2)
       have hak : ActOk w (nth r.acs.l m.n) := hr.acs.at hn2.1 hn2.2
       have hus := hak.us.ints
       have hsp := hak.sp.ints
       have hbr := hak.br.ints
       have lus := ha.lus
       have lbr := ha.lbr
       have lsp := ha.lsp
       refine Ck (Qc (Cs ?_))
       refine CS.drawnAll (k := 11) mixed rfl rfl ?_
       refine Ak 0 [1,2,3] rfl (Ba 1) ?_
       refine Ak 4 [5] rfl Ga ?_
       refine Ak 6 [] rfl (Ba 0) ?_
       refine Ak 7 [] rfl Xc ?_
       refine Ak 8 [] rfl Ua ?_
       refine Ao 9 rfl ?_
       refine Wl 0 zv77 (fun _ => rfl) (fun _ => rfl) fun b10 hb10 => ?_
       refine Wd (Qa ?_)
       refine Ao 10 rfl ?_
       refine Wv 0 0 ?_
       refine Wd (Qa ?_)
       refine Ae ?_
       refine Qc (Cs ?_)
       rcases Bool.eq_false_or_eq_true (decide ((nth r.acs.l m.n).pl = nth z.pls.l m.p)) with hb | hb
       ·
        rcases Bool.eq_false_or_eq_true (((nth r.acs.l m.n).us.l.all fun x => decide (nth z.prs.l x = -2 - m.p)) && holdB z.ths.l (nth r.acs.l m.n).wh.l) with hd | hd
        ·
         refine CS.drawnAll (k := 43) mixed rfl rfl ?_
         refine Ar [0] ?_
         refine Ak 1 [2,3] rfl (Ba 0) ?_
         refine Ak 4 [] rfl (det_move (v := .bool true) (congrArg (fun b => some (Value.bool b)) hb)) ?_
         refine At 5 [] rfl rfl rfl (fun hg => Fm) ?_
         refine At 6 [] rfl rfl rfl (fun hg => Ff) ?_
         refine At 7 [] rfl rfl rfl (fun hg => Ba 0) ?_
         refine At 8 [] rfl rfl rfl (fun hg => Fm) ?_
         refine At 9 [] rfl rfl rfl (fun hg => Fm) ?_
         refine Ao 10 rfl ?_
         refine WS.callFg rfl rfl rfl ent97 (fun u hu => is_c (-2 - m.p) u b2) (fun _ => rfl) ?_; intro b168 hb168
         refine Wd (Qa ?_)
         refine Ao 11 rfl ?_
         refine Wt 0 rfl rfl (fun hg => Cb (eg_ hg rfl) (ec_ (eg_ hg rfl) (ec_ rfl en_)) ent99 (fun u hu => all_c (nth r.acs.l m.n).us u (hak.us.st hu) _ [.pointer (some ⟨b2, 0, none⟩), .pointer (some ⟨b168, 0, none⟩)] (fun x => decide (nth z.prs.l x = -2 - m.p)) ent98 (fun u2 h2 i a0 a1 => isF_c tb r z u2 ((hT.stt hu).ext h2) b2 _ ((st_blk hu (j := 3) rfl).ext h2) b168 _ _ ((st_blk hu (j := 0) rfl).ext h2) _ (by have := ha.us _ (nth_mem a0 a1); omega)))) ?_
         refine Wd (Qa ?_)
         refine Ak 12 [13] rfl Pa ?_
         refine At 14 [] rfl rfl rfl (fun hg => Ba 2) ?_
         refine At 15 [] rfl rfl rfl (fun hg => Ff) ?_
         refine At 16 [] rfl rfl rfl (fun hg => Ba 0) ?_
         refine At 17 [] rfl rfl rfl (fun hg => Cb rfl (ec_ (eg_ hg rfl) (ec_ (eg_ hg rfl) en_)) ent74 (fun u hu => holds_c tb r z u (hT.stt hu) (nth r.acs.l m.n).wh (hak.wh.st hu) (by rw [hlt]; exact ha.wh))) ?_
         refine Ak 18 [] rfl Pa ?_
         refine Ak 19 [] rfl (det_move (v := .bool true) (congrArg (fun b => some (Value.bool b)) hd)) ?_
         refine At 20 [] rfl rfl rfl (fun hg => Fm) ?_
         refine At 21 [] rfl rfl rfl (fun hg => Ff) ?_
         refine At 22 [] rfl rfl rfl (fun hg => Ba 0) ?_
         refine At 23 [] rfl rfl rfl (fun hg => Fm) ?_
         refine Ao 24 rfl ?_
         refine WS.callFg rfl rfl rfl ent97 (fun u hu => is_c (-1) u b2) (fun _ => rfl) ?_; intro b182 hb182
         refine Wd (Qa ?_)
         refine Ao 25 rfl ?_
         refine Wt 0 rfl rfl (fun hg => Cb (eg_ hg rfl) (ec_ (eg_ hg rfl) (ec_ rfl en_)) ent99 (fun u hu => all_c (nth r.acs.l m.n).br u (hak.br.st hu) _ [.pointer (some ⟨b2, 0, none⟩), .pointer (some ⟨b182, 0, none⟩)] (fun x => decide (nth z.prs.l x = -1)) ent98 (fun u2 h2 i a0 a1 => isF_c tb r z u2 ((hT.stt hu).ext h2) b2 _ ((st_blk hu (j := 4) rfl).ext h2) b182 _ _ ((st_blk hu (j := 0) rfl).ext h2) _ (by have := ha.br _ (nth_mem a0 a1); omega)))) ?_
         refine Wd (Qa ?_)
         refine Ak 26 [27] rfl Pa ?_
         refine At 28 [] rfl rfl rfl (fun hg => Ba 2) ?_
         refine At 29 [] rfl rfl rfl (fun hg => Ff) ?_
         refine At 30 [] rfl rfl rfl (fun hg => Ba 1) ?_
         refine At 31 [] rfl rfl rfl (fun hg => Cb rfl (ec_ (eg_ hg rfl) (ec_ (eg_ hg rfl) en_)) ent101 (fun u hu => ihand_c tb r z u (hT.stt hu) m.p (by omega) (by omega) (by omega))) ?_
         refine At 32 [] rfl rfl rfl (fun hg => Ff) ?_
         refine At 33 [] rfl rfl rfl (fun hg => Ba 0) ?_
         refine At 34 [] rfl rfl rfl (fun hg => Na (eg_ hg rfl)) ?_
         refine At 35 [] rfl rfl rfl (fun hg => Zb) ?_
         refine At 36 [] rfl rfl rfl (fun hg => Ff) ?_
         refine At 37 [] rfl rfl rfl (fun hg => Ba 0) ?_
         refine At 38 [] rfl rfl rfl (fun hg => Na (eg_ hg rfl)) ?_
         refine At 39 [] rfl rfl rfl (fun hg => Za) ?_
         refine At 40 [] rfl rfl rfl (fun hg => Fk) ?_
         refine Ak 41 [42] rfl Pa ?_
         refine Ae ?_
         refine Qc (Cr (Qs (Qr ?_)))
         exact out1 rfl rfl (retBe (by
            unfold legalB; rw [if_pos hp, if_neg hc2, if_neg hc4, if_neg hc5, if_pos hc6]; unfold doB; rw [show (decide (0 ≤ m.n) && decide (m.n ≤ (r.acs.l.length : Int) - 1)) = true by (simp only [Bool.and_eq_true, decide_eq_true_eq]; omega)]
            simp only [Bool.and_eq_true] at hd
            rw [show usesB z.x (nth r.acs.l m.n) m = true from (all_nth (p := fun x => decide (nth z.prs.l x = -2 - m.p))).symm.trans hd.1, show bringB z.x (nth r.acs.l m.n) = _ from (all_nth (p := fun x => decide (nth z.prs.l x = -1))).symm]
            unfold roomB
            rw [show decide ((nth r.acs.l m.n).pl = nth z.x.2.2 m.p) = true from hb, show holdB z.x.1 (nth r.acs.l m.n).wh.l = true from hd.2]
            simp only [Bool.true_and]
            rfl))
        ·
         refine CS.drawnAll (k := 43) mixed rfl rfl ?_
         refine Ar [0] ?_
         refine Ak 1 [2,3] rfl (Ba 0) ?_
         refine Ak 4 [] rfl (det_move (v := .bool true) (congrArg (fun b => some (Value.bool b)) hb)) ?_
         refine At 5 [] rfl rfl rfl (fun hg => Fm) ?_
         refine At 6 [] rfl rfl rfl (fun hg => Ff) ?_
         refine At 7 [] rfl rfl rfl (fun hg => Ba 0) ?_
         refine At 8 [] rfl rfl rfl (fun hg => Fm) ?_
         refine At 9 [] rfl rfl rfl (fun hg => Fm) ?_
         refine Ao 10 rfl ?_
         refine WS.callFg rfl rfl rfl ent97 (fun u hu => is_c (-2 - m.p) u b2) (fun _ => rfl) ?_; intro b168 hb168
         refine Wd (Qa ?_)
         refine Ao 11 rfl ?_
         refine Wt 0 rfl rfl (fun hg => Cb (eg_ hg rfl) (ec_ (eg_ hg rfl) (ec_ rfl en_)) ent99 (fun u hu => all_c (nth r.acs.l m.n).us u (hak.us.st hu) _ [.pointer (some ⟨b2, 0, none⟩), .pointer (some ⟨b168, 0, none⟩)] (fun x => decide (nth z.prs.l x = -2 - m.p)) ent98 (fun u2 h2 i a0 a1 => isF_c tb r z u2 ((hT.stt hu).ext h2) b2 _ ((st_blk hu (j := 3) rfl).ext h2) b168 _ _ ((st_blk hu (j := 0) rfl).ext h2) _ (by have := ha.us _ (nth_mem a0 a1); omega)))) ?_
         refine Wd (Qa ?_)
         refine Ak 12 [13] rfl Pa ?_
         refine At 14 [] rfl rfl rfl (fun hg => Ba 2) ?_
         refine At 15 [] rfl rfl rfl (fun hg => Ff) ?_
         refine At 16 [] rfl rfl rfl (fun hg => Ba 0) ?_
         refine At 17 [] rfl rfl rfl (fun hg => Cb rfl (ec_ (eg_ hg rfl) (ec_ (eg_ hg rfl) en_)) ent74 (fun u hu => holds_c tb r z u (hT.stt hu) (nth r.acs.l m.n).wh (hak.wh.st hu) (by rw [hlt]; exact ha.wh))) ?_
         refine Ak 18 [19] rfl Pa ?_
         refine At 20 [] rfl rfl rfl (fun hg => by first | exact Fy hd hg | exact Fy_ (by rw [hd] at hg; simp at hg; done) | exact Fy_ (by simp [hd] at hg; done)) ?_
         refine At 21 [] rfl rfl rfl (fun hg => by first | exact Fy hd hg | exact Fy_ (by rw [hd] at hg; simp at hg; done) | exact Fy_ (by simp [hd] at hg; done)) ?_
         refine At 22 [] rfl rfl rfl (fun hg => by first | exact Fy hd hg | exact Fy_ (by rw [hd] at hg; simp at hg; done) | exact Fy_ (by simp [hd] at hg; done)) ?_
         refine At 23 [] rfl rfl rfl (fun hg => by first | exact Fy hd hg | exact Fy_ (by rw [hd] at hg; simp at hg; done) | exact Fy_ (by simp [hd] at hg; done)) ?_
         refine At 24 [] rfl rfl rfl (fun hg => by first | exact Fy hd hg | exact Fy_ (by rw [hd] at hg; simp at hg; done) | exact Fy_ (by simp [hd] at hg; done)) ?_
         refine At 25 [] rfl rfl rfl (fun hg => by first | exact Fz hd hg | exact Fz_ (by rw [hd] at hg; simp at hg; done) | exact Fz_ (by simp [hd] at hg; done)) ?_
         refine Ak 26 [27] rfl Pa ?_
         refine At 28 [] rfl rfl rfl (fun hg => by first | exact Fy hd hg | exact Fy_ (by rw [hd] at hg; simp at hg; done) | exact Fy_ (by simp [hd] at hg; done)) ?_
         refine At 29 [] rfl rfl rfl (fun hg => by first | exact Fy hd hg | exact Fy_ (by rw [hd] at hg; simp at hg; done) | exact Fy_ (by simp [hd] at hg; done)) ?_
         refine At 30 [] rfl rfl rfl (fun hg => by first | exact Fy hd hg | exact Fy_ (by rw [hd] at hg; simp at hg; done) | exact Fy_ (by simp [hd] at hg; done)) ?_
         refine At 31 [] rfl rfl rfl (fun hg => by first | exact Fy hd hg | exact Fy_ (by rw [hd] at hg; simp at hg; done) | exact Fy_ (by simp [hd] at hg; done)) ?_
         refine At 32 [] rfl rfl rfl (fun hg => by first | exact Fy hd hg | exact Fy_ (by rw [hd] at hg; simp at hg; done) | exact Fy_ (by simp [hd] at hg; done)) ?_
         refine At 33 [] rfl rfl rfl (fun hg => by first | exact Fy hd hg | exact Fy_ (by rw [hd] at hg; simp at hg; done) | exact Fy_ (by simp [hd] at hg; done)) ?_
         refine At 34 [] rfl rfl rfl (fun hg => by first | exact Fy hd hg | exact Fy_ (by rw [hd] at hg; simp at hg; done) | exact Fy_ (by simp [hd] at hg; done)) ?_
         refine At 35 [] rfl rfl rfl (fun hg => by first | exact Fy hd hg | exact Fy_ (by rw [hd] at hg; simp at hg; done) | exact Fy_ (by simp [hd] at hg; done)) ?_
         refine At 36 [] rfl rfl rfl (fun hg => by first | exact Fy hd hg | exact Fy_ (by rw [hd] at hg; simp at hg; done) | exact Fy_ (by simp [hd] at hg; done)) ?_
         refine At 37 [] rfl rfl rfl (fun hg => by first | exact Fy hd hg | exact Fy_ (by rw [hd] at hg; simp at hg; done) | exact Fy_ (by simp [hd] at hg; done)) ?_
         refine At 38 [] rfl rfl rfl (fun hg => by first | exact Fy hd hg | exact Fy_ (by rw [hd] at hg; simp at hg; done) | exact Fy_ (by simp [hd] at hg; done)) ?_
         refine At 39 [] rfl rfl rfl (fun hg => by first | exact Fy hd hg | exact Fy_ (by rw [hd] at hg; simp at hg; done) | exact Fy_ (by simp [hd] at hg; done)) ?_
         refine At 40 [] rfl rfl rfl (fun hg => by first | exact Fz hd hg | exact Fz_ (by rw [hd] at hg; simp at hg; done) | exact Fz_ (by simp [hd] at hg; done)) ?_
         refine Ak 41 [42] rfl Pa ?_
         refine Ae ?_
         refine Qc (Cr (Qs (Qr ?_)))
         exact out1 rfl rfl (retBe (by
            unfold legalB; rw [if_pos hp, if_neg hc2, if_neg hc4, if_neg hc5, if_pos hc6]; unfold doB roomB; rw [show usesB z.x (nth r.acs.l m.n) m = _ from (all_nth (p := fun x => decide (nth z.prs.l x = -2 - m.p))).symm]
            simp only [Bool.and_false, Bool.false_and]
            simp only [Bool.and_eq_false_iff] at hd
            rcases hd with h | h
            ·
             rw [h]; simp
            ·
             rw [show holdB z.x.1 (nth r.acs.l m.n).wh.l = false from h]; simp))
       ·
        refine Dr mixed 1 ?_
        refine Dk 3 (Ba 0) ?_
        refine Dt 0 rfl rfl (fun hg => by first | exact Fy hb hg | exact Fy_ (by rw [hb] at hg; simp at hg; done) | exact Fy_ (by simp [hb] at hg; done)) ?_
        refine Dt 0 rfl rfl (fun hg => by first | exact Fy hb hg | exact Fy_ (by rw [hb] at hg; simp at hg; done) | exact Fy_ (by simp [hb] at hg; done)) ?_
        refine Dt 0 rfl rfl (fun hg => by first | exact Fy hb hg | exact Fy_ (by rw [hb] at hg; simp at hg; done) | exact Fy_ (by simp [hb] at hg; done)) ?_
        refine Dt 0 rfl rfl (fun hg => by first | exact Fy hb hg | exact Fy_ (by rw [hb] at hg; simp at hg; done) | exact Fy_ (by simp [hb] at hg; done)) ?_
        refine Dt 0 rfl rfl (fun hg => by first | exact Fy hb hg | exact Fy_ (by rw [hb] at hg; simp at hg; done) | exact Fy_ (by simp [hb] at hg; done)) ?_
        refine Dt 0 rfl rfl (fun hg => by first | exact Fy hb hg | exact Fy_ (by rw [hb] at hg; simp at hg; done) | exact Fy_ (by simp [hb] at hg; done)) ?_
        refine Dt 0 rfl rfl (fun hg => by first | exact Fz hb hg | exact Fz_ (by rw [hb] at hg; simp at hg; done) | exact Fz_ (by simp [hb] at hg; done)) ?_
        refine Dk 1 Pa ?_
        refine Dt 0 rfl rfl (fun hg => by first | exact Fy hb hg | exact Fy_ (by rw [hb] at hg; simp at hg; done) | exact Fy_ (by simp [hb] at hg; done)) ?_
        refine Dt 0 rfl rfl (fun hg => by first | exact Fy hb hg | exact Fy_ (by rw [hb] at hg; simp at hg; done) | exact Fy_ (by simp [hb] at hg; done)) ?_
        refine Dt 0 rfl rfl (fun hg => by first | exact Fy hb hg | exact Fy_ (by rw [hb] at hg; simp at hg; done) | exact Fy_ (by simp [hb] at hg; done)) ?_
        refine Dt 0 rfl rfl (fun hg => by first | exact Fz hb hg | exact Fz_ (by rw [hb] at hg; simp at hg; done) | exact Fz_ (by simp [hb] at hg; done)) ?_
        refine Dk 1 Pa ?_
        refine Dt 0 rfl rfl (fun hg => by first | exact Fy hb hg | exact Fy_ (by rw [hb] at hg; simp at hg; done) | exact Fy_ (by simp [hb] at hg; done)) ?_
        refine Dt 0 rfl rfl (fun hg => by first | exact Fy hb hg | exact Fy_ (by rw [hb] at hg; simp at hg; done) | exact Fy_ (by simp [hb] at hg; done)) ?_
        refine Dt 0 rfl rfl (fun hg => by first | exact Fy hb hg | exact Fy_ (by rw [hb] at hg; simp at hg; done) | exact Fy_ (by simp [hb] at hg; done)) ?_
        refine Dt 0 rfl rfl (fun hg => by first | exact Fy hb hg | exact Fy_ (by rw [hb] at hg; simp at hg; done) | exact Fy_ (by simp [hb] at hg; done)) ?_
        refine Dt 0 rfl rfl (fun hg => by first | exact Fy hb hg | exact Fy_ (by rw [hb] at hg; simp at hg; done) | exact Fy_ (by simp [hb] at hg; done)) ?_
        refine Dt 0 rfl rfl (fun hg => by first | exact Fz hb hg | exact Fz_ (by rw [hb] at hg; simp at hg; done) | exact Fz_ (by simp [hb] at hg; done)) ?_
        refine Dk 1 Pa ?_
        refine Dt 0 rfl rfl (fun hg => by first | exact Fy hb hg | exact Fy_ (by rw [hb] at hg; simp at hg; done) | exact Fy_ (by simp [hb] at hg; done)) ?_
        refine Dt 0 rfl rfl (fun hg => by first | exact Fy hb hg | exact Fy_ (by rw [hb] at hg; simp at hg; done) | exact Fy_ (by simp [hb] at hg; done)) ?_
        refine Dt 0 rfl rfl (fun hg => by first | exact Fy hb hg | exact Fy_ (by rw [hb] at hg; simp at hg; done) | exact Fy_ (by simp [hb] at hg; done)) ?_
        refine Dt 0 rfl rfl (fun hg => by first | exact Fy hb hg | exact Fy_ (by rw [hb] at hg; simp at hg; done) | exact Fy_ (by simp [hb] at hg; done)) ?_
        refine Dt 0 rfl rfl (fun hg => by first | exact Fy hb hg | exact Fy_ (by rw [hb] at hg; simp at hg; done) | exact Fy_ (by simp [hb] at hg; done)) ?_
        refine Dt 0 rfl rfl (fun hg => by first | exact Fy hb hg | exact Fy_ (by rw [hb] at hg; simp at hg; done) | exact Fy_ (by simp [hb] at hg; done)) ?_
        refine Dt 0 rfl rfl (fun hg => by first | exact Fy hb hg | exact Fy_ (by rw [hb] at hg; simp at hg; done) | exact Fy_ (by simp [hb] at hg; done)) ?_
        refine Dt 0 rfl rfl (fun hg => by first | exact Fy hb hg | exact Fy_ (by rw [hb] at hg; simp at hg; done) | exact Fy_ (by simp [hb] at hg; done)) ?_
        refine Dt 0 rfl rfl (fun hg => by first | exact Fy hb hg | exact Fy_ (by rw [hb] at hg; simp at hg; done) | exact Fy_ (by simp [hb] at hg; done)) ?_
        refine Dt 0 rfl rfl (fun hg => by first | exact Fy hb hg | exact Fy_ (by rw [hb] at hg; simp at hg; done) | exact Fy_ (by simp [hb] at hg; done)) ?_
        refine Dt 0 rfl rfl (fun hg => by first | exact Fy hb hg | exact Fy_ (by rw [hb] at hg; simp at hg; done) | exact Fy_ (by simp [hb] at hg; done)) ?_
        refine Dt 0 rfl rfl (fun hg => by first | exact Fy hb hg | exact Fy_ (by rw [hb] at hg; simp at hg; done) | exact Fy_ (by simp [hb] at hg; done)) ?_
        refine Dt 0 rfl rfl (fun hg => by first | exact Fz hb hg | exact Fz_ (by rw [hb] at hg; simp at hg; done) | exact Fz_ (by simp [hb] at hg; done)) ?_
        refine Dk 1 Pa ?_
        exact Dd (Qc (Cr (Qs (Qr (out1 rfl rfl (retBe (by unfold legalB; rw [if_pos hp, if_neg hc2, if_neg hc4, if_neg hc5, if_pos hc6]; unfold doB roomB; rw [show decide ((nth r.acs.l m.n).pl = nth z.x.2.2 m.p) = false from hb]; simp)))))))
     ·
      refine Ck (Qb (Qc (Nz 1 ?_)))
      exact Wd (Qc (Cr (out1 rfl rfl (retBe (by unfold legalB; rw [if_pos hp, if_neg hc2, if_neg hc4, if_neg hc5, if_neg hc6])))))
end Go.Proofs.YtgbofmnbakfalaaDoor
