/- Merged texts of this proof (walks and plain laws), printed by a program of the prover. -/
import Derived.Test.YtgbofmnbakfalaaDoorKh
namespace Go.Proofs.YtgbofmnbakfalaaDoor
open Go.RowKit Go.Proofs
set_option maxRecDepth 100000
set_option linter.unusedVariables false
set_option linter.unusedSimpArgs false
theorem is_c (n : Int) (w : World) (b1 : Nat) :
  Calls Tryd.prog 97 #[.int .i64 n, .pointer (some ⟨b1, 0, none⟩)] w (fun e w' => ∃ b : Nat, True ∧ RetF w (.func (.func 98) #[] #[.pointer (some ⟨b1, 0, none⟩), .pointer (some ⟨b, 0, none⟩)]) (blk b [.int .i64 n] 3) e w') := by
 refine enter Tryd.func97 rfl rfl (Nat.le_of_ble_eq_true rfl) ?_
 refine N3 ?_
 refine WS.box rfl rfl (fun _ => rfl) ?_; intro b2 hb2
 refine WS.det rfl rfl rfl (det_assign rfl) rfl ?_
 refine N1 ?_
 refine WS.det rfl rfl rfl (det_makeFunc rfl) rfl ?_
 refine WS.det rfl rfl rfl (det_assign rfl) rfl ?_
 refine N4 ?_
 refine CS.ret ?_
 exact out1 rfl rfl (fun u hu => ⟨b2, trivial, retF (j := 0) rfl u hu⟩)
theorem isF_c (tb : Nat) (r : Room) (z : Stt) (w : World) (hT : TabOk w tb r z) (b1 : Nat) (e1 : TypeId) (h1 : BlkAt w b1 [.pointer (some ⟨tb, 0, none⟩)] e1) (b2 : Nat) (n : Int) (e2 : TypeId) (h2 : BlkAt w b2 [.int .i64 n] e2) (p : Int) (h3 : 0 ≤ p ∧ p < z.prs.l.length) :
  Calls Tryd.prog 98 #[.int .i64 p, .pointer (some ⟨b1, 0, none⟩), .pointer (some ⟨b2, 0, none⟩)] w (RetB w (.bool (decide (nth z.prs.l p = n)))) := by
 have hTb := hT.blk
 have hr := hT.room
 have zth := hT.st.ths.ints
 have zpr := hT.st.prs.ints
 have zpl := hT.st.pls.ints
 have mth := zth.le
 have mpr := zpr.le
 have mpl := zpl.le
 refine enter Tryd.func98 rfl rfl (Nat.le_of_ble_eq_true rfl) ?_
 refine N3 ?_
 refine WS.det rfl rfl rfl (det_assign rfl) rfl ?_
 refine N4 ?_
 refine CS.seq ?_
 refine CS.draw mixed (by kernel_rfl) (by kernel_rfl) ?_
 refine DS.det rfl rfl ((by first | exact det_loadb (j := 0) rfl rfl rfl tk85 | exact det_loadb (j := 1) rfl rfl rfl tk85 | exact det_loadb (j := 2) rfl rfl rfl tk85 | exact det_loadb (j := 3) rfl rfl rfl tk85 | exact det_loadw rfl (by assumption) rfl tk85)) rfl ?_
 refine DS.det rfl rfl (det_nilCheck rfl) rfl ?_
 refine DS.det rfl rfl ((by first | exact det_fieldAddr rfl fo115_1 | exact det_fieldAddrS rfl fo115_1)) rfl ?_
 refine DS.det rfl rfl ((by first | exact det_fieldAddr rfl fo37_1 | exact det_fieldAddrS rfl fo37_1)) rfl ?_
 refine DS.det rfl rfl ((by first | exact det_ldL rfl (by assumption) (by omega) tk35 | exact det_loadb (j := 0) rfl rfl rfl tk35 | exact det_loadb (j := 1) rfl rfl rfl tk35 | exact det_loadb (j := 2) rfl rfl rfl tk35 | exact det_loadb (j := 3) rfl rfl rfl tk35 | exact det_loadw rfl (by assumption) rfl tk35)) rfl ?_
 refine DS.det rfl rfl (det_move rfl) rfl ?_
 refine DS.det rfl rfl ((by first | exact det_idxI sl35 rfl rfl (by assumption) (by omega) (by omega) | exact det_idxO sl35 rfl rfl (by omega) (by omega))) rfl ?_
 refine DS.det rfl rfl ((by first | exact det_ldI rfl (by assumption) (by omega) tk3 | exact det_loadb (j := 0) rfl rfl rfl tk3 | exact det_loadb (j := 1) rfl rfl rfl tk3 | exact det_loadb (j := 2) rfl rfl rfl tk3 | exact det_loadb (j := 3) rfl rfl rfl tk3 | exact det_loadw rfl (by assumption) rfl tk3)) rfl ?_
 refine DS.det rfl rfl ((by first | exact det_ldI rfl (by assumption) (by omega) tk3 | exact det_loadb (j := 0) rfl rfl rfl tk3 | exact det_loadb (j := 1) rfl rfl rfl tk3 | exact det_loadb (j := 2) rfl rfl rfl tk3 | exact det_loadb (j := 3) rfl rfl rfl tk3 | exact det_loadw rfl (by assumption) rfl tk3)) rfl ?_
 refine DS.det rfl rfl (det_eq rfl rfl) rfl ?_
 refine DS.det rfl rfl (det_assign rfl) rfl ?_
 refine DS.done ?_
 refine QS.then_code ?_
 refine CS.ret ?_
 exact out1 rfl rfl retB
theorem allG_c (g : Nat) (lb : List Value) (q : Bool) (hg : Ent Tryd.prog g) (x : Int) (w : World) (hx : ∀ u, Below w.heap.size w u → Calls Tryd.prog g ([.int .i64 x] ++ lb : List Value).toArray u (RetB u (.bool q))) (b : Nat) (e : TypeId) (hb : BlkAt w b [.func (.func g) #[] lb.toArray] e) :
  Calls Tryd.prog 100 #[.int .i64 x, .pointer (some ⟨b, 0, none⟩)] w (RetB w (.bool (!q))) := by
 refine enter Tryd.func100 rfl rfl (Nat.le_of_ble_eq_true rfl) ?_
 refine N3 ?_
 refine WS.det rfl rfl rfl (det_assign rfl) rfl ?_
 refine N1 ?_
 refine WS.det rfl rfl rfl ((by first | exact det_loadb (j := 0) rfl rfl rfl tk89 | exact det_loadb (j := 1) rfl rfl rfl tk89 | exact det_loadb (j := 2) rfl rfl rfl tk89 | exact det_loadb (j := 3) rfl rfl rfl tk89 | exact det_loadw rfl (by assumption) rfl tk89)) rfl ?_
 refine WS.det rfl rfl rfl (det_move rfl) rfl ?_
 refine WS.det rfl rfl rfl (det_callB rfl rfl hg (fun u hu => hx u hu.below)) rfl ?_
 refine WS.det rfl rfl rfl (det_not rfl) rfl ?_
 refine WS.det rfl rfl rfl (det_assign rfl) rfl ?_
 refine N4 ?_
 refine CS.ret ?_
 exact out1 rfl rfl retB
theorem all_c (s0 : Sl Int) (w : World) (hk : SlT cInt w s0) (g : Nat) (lb : List Value) (p : Int → Bool) (hg : Ent Tryd.prog g)
  (hp : ∀ u, Below w.heap.size w u → ∀ i : Int, 0 ≤ i → i < s0.l.length → Calls Tryd.prog g ([.int .i64 (nth s0.l i)] ++ lb : List Value).toArray u (RetB u (.bool (p (nth s0.l i))))) :
  Calls Tryd.prog 99 #[s0.v, .func (.func g) #[] lb.toArray] w (RetB w (.bool (s0.l.all p))) := by
 refine enter Tryd.func99 rfl rfl (Nat.le_of_ble_eq_true rfl) ?_
 refine N3 ?_
 refine WS.box rfl rfl (fun _ => rfl) ?_; intro b3 hb3
 refine WS.det rfl rfl rfl (det_assign rfl) rfl ?_
 refine N1 ?_
 refine WS.det rfl rfl rfl (det_move rfl) rfl ?_
 refine WS.det rfl rfl rfl (det_makeFunc rfl) rfl ?_
 refine WS.det rfl rfl rfl (det_callB rfl rfl ent90 (fun u hu => ContainsIn_c s0 u (hk.st hu) _ [.pointer (some ⟨b3, 0, none⟩)] (fun x => !p x) ent100 (fun u2 h2 i a0 a1 => allG_c g lb _ hg _ u2 (fun u3 h3 => hp u3 (below_trans hu.below (below_trans h2 h3)) i a0 a1) _ _ ((st_blk hu (j := 0) rfl).ext h2)))) rfl ?_
 refine WS.det rfl rfl rfl (det_not rfl) rfl ?_
 refine WS.det rfl rfl rfl (det_assign rfl) rfl ?_
 refine N4 ?_
 refine CS.ret ?_
 exact out1 rfl rfl (retBe (by rw [List.all_eq_not_any_not]))
end Go.Proofs.YtgbofmnbakfalaaDoor
namespace Go.Proofs.YtgbofmnbakfalaaDoor
open Go.RowKit Go.Proofs
set_option maxRecDepth 100000
set_option linter.unusedVariables false
set_option linter.unusedSimpArgs false
set_option maxHeartbeats 8000000 in
theorem ilegal_c (tb : Nat) (r : Room) (z : Stt) (w : World) (hT : TabOk w tb r z) (hR : Ready r) (hI : StIn r z.x) (m : Move) :
  Calls Tryd.prog 68 #[.pointer (some ⟨tb, 0, none⟩), .agg #[.int .i64 m.p, .int .i64 m.k, .int .i64 m.n]] w (RetB w (.bool (legalB r z.x m))) := by
 have hTb := hT.blk
 have hr := hT.room
 have zth := hT.st.ths.ints
 have zpr := hT.st.prs.ints
 have zpl := hT.st.pls.ints
 have mth := zth.le
 have mpr := zpr.le
 have mpl := zpl.le
 have kpl := hr.pls
 have lpl := hr.pls.le
 have kth := hr.ths
 have lth := hr.ths.le
 have kpr := hr.prs
 have lpr := hr.prs.le
 have kwy := hr.wys
 have lwy := hr.wys.le
 have kac := hr.acs
 have lac := hr.acs.le
 have kau := hr.aus
 have lau := hr.aus.le
 have kgl := hr.gl
 have lgl := hr.gl.le
 have hlen := hR.lens
 have hply := hR.ply
 have hlt : z.ths.l.length = r.ths.l.length := hI.lt
 have hlp : z.prs.l.length = r.prs.l.length := hI.lp
 have hll : (z.pls.l.length : Int) = r.ply := hI.ll
 have hcl := cnt_le z.prs.l (-2 - m.p)
 refine enter Tryd.func68 rfl rfl (Nat.le_of_ble_eq_true rfl) ?_
 refine N3 ?_
 refine WS.box rfl rfl (fun _ => rfl) ?_; intro b2 hb2
 refine WS.box rfl rfl (fun _ => rfl) ?_; intro b3 hb3
 refine WS.det rfl rfl rfl (det_assign rfl) rfl ?_
 refine N4 ?_
 refine CS.seq ?_
 refine CS.seq ?_
 refine CS.draw mixed (by kernel_rfl) (by kernel_rfl) ?_
 refine DS.det rfl rfl ((by first | exact det_fieldAddr rfl fo52_0 | exact det_fieldAddrS rfl fo52_0)) rfl ?_
 refine DS.det rfl rfl ((by first | exact det_loadb (j := 0) rfl rfl rfl tk3 | exact det_loadw rfl (by assumption) rfl tk3)) rfl ?_
 refine DS.det rfl rfl ((by first | exact det_loadb (j := 1) rfl rfl rfl tk85 | exact det_loadw rfl (by assumption) rfl tk85)) rfl ?_
 refine DS.det rfl rfl (det_nilCheck rfl) rfl ?_
 refine DS.det rfl rfl ((by first | exact det_fieldAddr rfl fo115_1 | exact det_fieldAddrS rfl fo115_1)) rfl ?_
 refine DS.det rfl rfl ((by first | exact det_fieldAddr rfl fo37_2 | exact det_fieldAddrS rfl fo37_2)) rfl ?_
 refine DS.det rfl rfl ((by first | exact det_ldL rfl (by assumption) (by omega) tk35 | exact det_loadb (j := 0) rfl rfl rfl tk35 | exact det_loadb (j := 1) rfl rfl rfl tk35 | exact det_loadb (j := 2) rfl rfl rfl tk35 | exact det_loadb (j := 3) rfl rfl rfl tk35 | exact det_loadb (j := 4) rfl rfl rfl tk35 | exact det_loadb (j := 5) rfl rfl rfl tk35 | exact det_loadb (j := 6) rfl rfl rfl tk35 | exact det_loadb (j := 7) rfl rfl rfl tk35 | exact det_loadb (j := 8) rfl rfl rfl tk35 | exact det_loadw rfl (by assumption) rfl tk35)) rfl ?_
 refine DS.det rfl rfl ((by first | exact det_lenS sl35 rfl (by assumption) | exact det_lenS sl35 rfl (by first | exact SlL.sp (by assumption) | exact ClS.sp (by assumption)) | exact det_lenO sl35 rfl | exact det_lenV sl35 rfl ⟨_, _, rfl⟩)) rfl ?_
 refine DS.det rfl rfl (det_sub rfl rfl (by omega)) rfl ?_
 refine DS.det rfl rfl (det_callB rfl rfl ent48 (fun u hu => within_c _ _ _ u)) rfl ?_
 refine DS.det rfl rfl (det_not rfl) rfl ?_
 refine DS.done ?_
 refine QS.then_code ?_
 refine CS.cond rfl (fun hc1 => ?_) (fun hc1 => ?_) <;> (try simp only [bq] at hc1)
 ·
  refine N3 ?_
  refine WS.det rfl rfl rfl (det_assign rfl) rfl ?_
  refine N4 ?_
  refine CS.ret ?_
  refine QS.then_ret ?_
  exact out1 rfl rfl (retBe (by unfold legalB; rw [if_neg (by simp only [Bool.and_eq_true, decide_eq_true_eq]; omega)]))
 ·
  have hp : (decide (0 ≤ m.p) && decide (m.p ≤ r.ply - 1)) = true := by simp only [Bool.and_eq_true, decide_eq_true_eq]; omega
  have hat : 0 ≤ nth z.pls.l m.p ∧ nth z.pls.l m.p < r.pls.l.length := hI.at (i := m.p) (by omega) (show m.p < z.pls.l.length by omega)
  refine CS.skip ?_
  refine QS.then_code ?_
  refine CS.seq ?_
  refine CS.draw mixed (by kernel_rfl) (by kernel_rfl) ?_
  refine DS.det rfl rfl ((by first | exact det_loadb (j := 1) rfl rfl rfl tk85 | exact det_loadw rfl (by assumption) rfl tk85)) rfl ?_
  refine DS.det rfl rfl (det_nilCheck rfl) rfl ?_
  refine DS.det rfl rfl ((by first | exact det_fieldAddr rfl fo115_1 | exact det_fieldAddrS rfl fo115_1)) rfl ?_
  refine DS.det rfl rfl ((by first | exact det_fieldAddr rfl fo37_2 | exact det_fieldAddrS rfl fo37_2)) rfl ?_
  refine DS.det rfl rfl ((by first | exact det_ldL rfl (by assumption) (by omega) tk35 | exact det_loadb (j := 0) rfl rfl rfl tk35 | exact det_loadb (j := 1) rfl rfl rfl tk35 | exact det_loadb (j := 2) rfl rfl rfl tk35 | exact det_loadb (j := 3) rfl rfl rfl tk35 | exact det_loadb (j := 4) rfl rfl rfl tk35 | exact det_loadb (j := 5) rfl rfl rfl tk35 | exact det_loadb (j := 6) rfl rfl rfl tk35 | exact det_loadb (j := 7) rfl rfl rfl tk35 | exact det_loadb (j := 8) rfl rfl rfl tk35 | exact det_loadw rfl (by assumption) rfl tk35)) rfl ?_
  refine DS.det rfl rfl ((by first | exact det_fieldAddr rfl fo52_0 | exact det_fieldAddrS rfl fo52_0)) rfl ?_
  refine DS.det rfl rfl ((by first | exact det_loadb (j := 0) rfl rfl rfl tk3 | exact det_loadw rfl (by assumption) rfl tk3)) rfl ?_
  refine DS.det rfl rfl ((by first | exact det_idxI sl35 rfl rfl (by assumption) (by omega) (by omega) | exact det_idxO sl35 rfl rfl (by omega) (by omega))) rfl ?_
  refine DS.det rfl rfl ((by first | exact det_ldI rfl (by assumption) (by omega) tk3 | exact det_loadb (j := 0) rfl rfl rfl tk3 | exact det_loadb (j := 1) rfl rfl rfl tk3 | exact det_loadb (j := 2) rfl rfl rfl tk3 | exact det_loadb (j := 3) rfl rfl rfl tk3 | exact det_loadb (j := 4) rfl rfl rfl tk3 | exact det_loadb (j := 5) rfl rfl rfl tk3 | exact det_loadb (j := 6) rfl rfl rfl tk3 | exact det_loadb (j := 7) rfl rfl rfl tk3 | exact det_loadb (j := 8) rfl rfl rfl tk3 | exact det_loadw rfl (by assumption) rfl tk3)) rfl ?_
  refine DS.det rfl rfl (det_assign rfl) rfl ?_
  refine DS.done ?_
  refine QS.then_code ?_
  refine N3 ?_
  refine WS.det rfl rfl rfl ((by first | exact det_fieldAddr rfl fo52_0 | exact det_fieldAddrS rfl fo52_0)) rfl ?_
  refine WS.det rfl rfl rfl ((by first | exact det_loadb (j := 0) rfl rfl rfl tk3 | exact det_loadw rfl (by assumption) rfl tk3)) rfl ?_
  refine WS.det rfl rfl rfl (det_sub rfl rfl (by omega)) rfl ?_
  refine WS.det rfl rfl rfl (det_assign rfl) rfl ?_
  refine N1 ?_
  refine WS.det rfl rfl rfl (det_makeFunc rfl) rfl ?_
  refine WS.det rfl rfl rfl (det_assign rfl) rfl ?_
  refine N1 ?_
  refine WS.det rfl rfl rfl (det_assign rfl) rfl ?_
  refine N4 ?_
  refine CS.seq ?_
  refine N3 ?_
  refine WS.det rfl rfl rfl ((by first | exact det_fieldAddr rfl fo52_1 | exact det_fieldAddrS rfl fo52_1)) rfl ?_
  refine WS.det rfl rfl rfl ((by first | exact det_loadb (j := 0) rfl rfl rfl tk3 | exact det_loadw rfl (by assumption) rfl tk3)) rfl ?_
  refine N4 ?_
  refine CS.block ?_
  refine N3 ?_
  refine WS.det rfl rfl rfl (det_eq rfl rfl) rfl ?_
  refine WS.det rfl rfl rfl (det_assign rfl) rfl ?_
  refine N4 ?_
  refine CS.cond rfl (fun hc2 => ?_) (fun hc2 => ?_) <;> (try simp only [bq] at hc2)
  ·
   refine CS.seq ?_
   refine CS.seq ?_
   refine CS.draw mixed (by kernel_rfl) (by kernel_rfl) ?_
   refine DS.det rfl rfl ((by first | exact det_fieldAddr rfl fo52_2 | exact det_fieldAddrS rfl fo52_2)) rfl ?_
   refine DS.det rfl rfl ((by first | exact det_loadb (j := 0) rfl rfl rfl tk3 | exact det_loadw rfl (by assumption) rfl tk3)) rfl ?_
   refine DS.det rfl rfl ((by first | exact det_loadb (j := 1) rfl rfl rfl tk85 | exact det_loadw rfl (by assumption) rfl tk85)) rfl ?_
   refine DS.det rfl rfl (det_nilCheck rfl) rfl ?_
   refine DS.det rfl rfl ((by first | exact det_fieldAddr rfl fo115_0 | exact det_fieldAddrS rfl fo115_0)) rfl ?_
   refine DS.det rfl rfl ((by first | exact det_fieldAddr rfl fo31_3 | exact det_fieldAddrS rfl fo31_3)) rfl ?_
   refine DS.det rfl rfl ((by first | exact det_loadb (j := 0) rfl rfl rfl tk25 | exact det_loadb (j := 1) rfl rfl rfl tk25 | exact det_loadb (j := 2) rfl rfl rfl tk25 | exact det_loadb (j := 3) rfl rfl rfl tk25 | exact det_loadb (j := 4) rfl rfl rfl tk25 | exact det_loadb (j := 5) rfl rfl rfl tk25 | exact det_loadb (j := 6) rfl rfl rfl tk25 | exact det_loadb (j := 7) rfl rfl rfl tk25 | exact det_loadb (j := 8) rfl rfl rfl tk25 | exact det_loadw rfl (by assumption) rfl tk25)) rfl ?_
   refine DS.det rfl rfl (det_lenU sl25 rfl (by assumption)) rfl ?_
   refine DS.det rfl rfl (det_sub rfl rfl (by omega)) rfl ?_
   refine DS.det rfl rfl (det_callB rfl rfl ent48 (fun u hu => within_c _ _ _ u)) rfl ?_
   refine DS.det rfl rfl (det_not rfl) rfl ?_
   refine DS.done ?_
   refine QS.then_code ?_
   refine CS.cond rfl (fun hc3 => ?_) (fun hc3 => ?_) <;> (try simp only [bq] at hc3)
   ·
    refine N3 ?_
    refine WS.det rfl rfl rfl (det_assign rfl) rfl ?_
    refine N4 ?_
    refine CS.ret ?_
    refine QS.then_ret ?_
    refine QS.block_ret ?_
    refine QS.then_ret ?_
    exact out1 rfl rfl (retBe (by unfold legalB; rw [if_pos hp, if_pos hc2]; unfold goB; rw [show (decide (0 ≤ m.n) && decide (m.n ≤ (r.wys.l.length : Int) - 1)) = false by (simp only [Bool.and_eq_false_iff, decide_eq_false_iff_not]; omega)]; simp))
   ·
    have hwh : SlT cLit w (nth r.wys.l m.n).wh := hr.wys.at (by omega) (by omega)
    have hwc := (hR.wys _ (nth_mem (i := m.n) (xs := r.wys.l) (by omega) (by omega))).1
    refine CS.skip ?_
    refine QS.then_code ?_
    refine CS.seq ?_
    refine CS.drawnAll (k := 11) mixed rfl rfl ?_
    refine AS.take 0 rfl (by kernel_rfl) (by kernel_rfl) (by kernel_rfl) rfl rfl ((by first | exact det_loadb (j := 1) rfl rfl rfl tk85 | exact det_loadw rfl (by assumption) rfl tk85)) rfl rfl ?_
    refine AS.take 1 rfl (by kernel_rfl) (by kernel_rfl) (by kernel_rfl) rfl rfl (det_nilCheck rfl) rfl rfl ?_
    refine AS.take 2 rfl (by kernel_rfl) (by kernel_rfl) (by kernel_rfl) rfl rfl ((by first | exact det_fieldAddr rfl fo115_0 | exact det_fieldAddrS rfl fo115_0)) rfl rfl ?_
    refine AS.take 3 rfl (by kernel_rfl) (by kernel_rfl) (by kernel_rfl) rfl rfl ((by first | exact det_fieldAddr rfl fo31_3 | exact det_fieldAddrS rfl fo31_3)) rfl rfl ?_
    refine AS.take 4 rfl (by kernel_rfl) (by kernel_rfl) (by kernel_rfl) rfl rfl ((by first | exact det_loadb (j := 0) rfl rfl rfl tk25 | exact det_loadb (j := 1) rfl rfl rfl tk25 | exact det_loadb (j := 2) rfl rfl rfl tk25 | exact det_loadb (j := 3) rfl rfl rfl tk25 | exact det_loadb (j := 4) rfl rfl rfl tk25 | exact det_loadb (j := 5) rfl rfl rfl tk25 | exact det_loadb (j := 6) rfl rfl rfl tk25 | exact det_loadb (j := 7) rfl rfl rfl tk25 | exact det_loadb (j := 8) rfl rfl rfl tk25 | exact det_loadw rfl (by assumption) rfl tk25)) rfl rfl ?_
    refine AS.take 5 rfl (by kernel_rfl) (by kernel_rfl) (by kernel_rfl) rfl rfl ((by first | exact det_fieldAddr rfl fo52_2 | exact det_fieldAddrS rfl fo52_2)) rfl rfl ?_
    refine AS.take 6 rfl (by kernel_rfl) (by kernel_rfl) (by kernel_rfl) rfl rfl ((by first | exact det_loadb (j := 0) rfl rfl rfl tk3 | exact det_loadw rfl (by assumption) rfl tk3)) rfl rfl ?_
    refine AS.take 7 rfl (by kernel_rfl) (by kernel_rfl) (by kernel_rfl) rfl rfl (det_idxU sl25 rfl rfl (by assumption) rfl (by omega) (by omega)) rfl rfl ?_
    refine AS.take 8 rfl (by kernel_rfl) (by kernel_rfl) (by kernel_rfl) rfl rfl ((by first | exact det_ldU rfl (by assumption) rfl ⟨(by omega), (by omega)⟩ rfl tk74)) rfl rfl ?_
    refine AS.one (i := 9) (by kernel_rfl) rfl (by first | exact fun _ h => h | exact fun _ h => h.sub (by repeat first | exact List.Sublist.refl _ | apply List.Sublist.cons_cons | apply List.Sublist.cons)) rfl ?_
    refine WS.alloc zv74 (fun _ => rfl) ?_; intro b9 hb9
    refine WS.done ?_
    refine QS.then_AS ?_
    refine AS.one (i := 10) (by kernel_rfl) rfl (by first | exact fun _ h => h | exact fun _ h => h.sub (by repeat first | exact List.Sublist.refl _ | apply List.Sublist.cons_cons | apply List.Sublist.cons)) rfl ?_
    first | refine WS.storeW (j := 0) rfl rfl rfl rfl (by first | (simp [Value.oneCell']; done) | ((repeat (refine List.forall_mem_cons.2 ⟨by first | rfl | assumption, ?_⟩)); exact fun _ h => absurd h List.not_mem_nil) | exact Cel.one _ w _ (by first | assumption | exact trivial)) tk74 rfl rfl ?_
    refine WS.done ?_
    refine QS.then_AS ?_
    refine AS.done (by kernel_rfl) (by first | exact fun _ h => h | exact fun _ h => h.sub (by repeat first | exact List.Sublist.refl _ | apply List.Sublist.cons_cons | apply List.Sublist.cons)) ?_
    refine QS.then_code ?_
    refine N3 ?_
    refine WS.det rfl rfl rfl ((by first | exact det_fieldAddr rfl fo74_0 | exact det_fieldAddrS rfl fo74_0)) rfl ?_
    refine WS.det rfl rfl rfl ((by first | exact det_loadb (j := 0) rfl rfl rfl tk3 | exact det_loadw rfl (by assumption) rfl tk3)) rfl ?_
    refine WS.det rfl rfl rfl (det_move rfl) rfl ?_
    refine WS.det rfl rfl rfl (det_eq rfl rfl) rfl ?_
    refine WS.det rfl rfl rfl (det_move rfl) rfl ?_
    refine WS.guardF rfl rfl rfl rfl (fun hg => (by first | exact det_fieldAddr rfl fo74_1 | exact det_fieldAddrS rfl fo74_1)) rfl ?_
    refine WS.guardF rfl rfl rfl rfl (fun hg => (by first | exact det_loadb (j := 0) (ev_cond hg rfl) rfl rfl tk3 | exact det_loadw (ev_cond hg rfl) (by assumption) rfl tk3)) rfl ?_
    refine WS.guardF rfl rfl rfl rfl (fun hg => det_move rfl) rfl ?_
    refine WS.guardF rfl rfl rfl rfl (fun hg => det_eq (ev_cond hg rfl) (ev_cond hg rfl)) rfl ?_
    refine WS.det rfl rfl rfl (det_pick_or rfl rfl rfl) rfl ?_
    refine WS.det rfl rfl rfl (det_move rfl) rfl ?_
    refine WS.guardT rfl rfl rfl rfl (fun hg => (by first | exact det_loadb (j := 2) rfl rfl rfl tk85 | exact det_loadw rfl (by assumption) rfl tk85)) rfl ?_
    refine WS.guardT rfl rfl rfl rfl (fun hg => (by first | exact det_fieldAddr rfl fo74_2 | exact det_fieldAddrS rfl fo74_2)) rfl ?_
    refine WS.guardT rfl rfl rfl rfl (fun hg => (by first | exact det_loadb (j := 0) (ev_cond hg rfl) rfl rfl tk29 | exact det_loadw (ev_cond hg rfl) (by assumption) rfl tk29)) rfl ?_
    refine WS.guardT rfl rfl rfl rfl (fun hg => det_callB rfl (evs_cons (ev_cond hg rfl) (evs_cons (ev_cond hg rfl) evs_nil)) ent74 (fun u hu => holds_c tb r z u (hT.stt hu) (nth r.wys.l m.n).wh (hwh.st hu) (by rw [hlt]; exact hwc))) rfl ?_
    refine WS.det rfl rfl rfl (det_pick_and rfl rfl rfl) rfl ?_
    refine WS.det rfl rfl rfl (det_assign rfl) rfl ?_
    refine N4 ?_
    refine CS.ret ?_
    refine QS.block_ret ?_
    refine QS.then_ret ?_
    exact out1 rfl rfl (retBe (by unfold legalB; rw [if_pos hp, if_pos hc2]; unfold goB; rw [show (decide (0 ≤ m.n) && decide (m.n ≤ (r.wys.l.length : Int) - 1)) = true by (simp only [Bool.and_eq_true, decide_eq_true_eq]; omega)]; rfl))
  ·
   refine N3 ?_
   refine WS.det rfl rfl rfl (det_eq rfl rfl) rfl ?_
   refine WS.det rfl rfl rfl (det_assign rfl) rfl ?_
   refine N4 ?_
   refine CS.cond rfl (fun hc4 => ?_) (fun hc4 => ?_) <;> (try simp only [bq] at hc4)
   ·
    refine CS.seq ?_
    rcases Bool.eq_false_or_eq_true ((decide (0 ≤ m.n) && decide (m.n ≤ (z.prs.l.length : Int) - 1))) with hb | hb
    ·
     have hn2 : 0 ≤ m.n ∧ m.n < z.prs.l.length := by simp only [Bool.and_eq_true, decide_eq_true_eq] at hb; omega
     have hwh : SlT cLit w (nth r.prs.l m.n).wh := hr.prs.at hn2.1 (by omega)
     have hwc := (hR.prs _ (nth_mem (i := m.n) (xs := r.prs.l) hn2.1 (by omega))).1
     refine CS.drawnAll (k := 40) mixed rfl rfl ?_
     refine AS.take 0 rfl (by kernel_rfl) (by kernel_rfl) (by kernel_rfl) rfl rfl ((by first | exact det_fieldAddr rfl fo52_2 | exact det_fieldAddrS rfl fo52_2)) rfl rfl ?_
     refine AS.take 1 rfl (by kernel_rfl) (by kernel_rfl) (by kernel_rfl) rfl rfl ((by first | exact det_loadb (j := 0) rfl rfl rfl tk3 | exact det_loadw rfl (by assumption) rfl tk3)) rfl rfl ?_
     refine AS.take 2 rfl (by kernel_rfl) (by kernel_rfl) (by kernel_rfl) rfl rfl ((by first | exact det_loadb (j := 1) rfl rfl rfl tk85 | exact det_loadw rfl (by assumption) rfl tk85)) rfl rfl ?_
     refine AS.take 3 rfl (by kernel_rfl) (by kernel_rfl) (by kernel_rfl) rfl rfl (det_nilCheck rfl) rfl rfl ?_
     refine AS.take 4 rfl (by kernel_rfl) (by kernel_rfl) (by kernel_rfl) rfl rfl ((by first | exact det_fieldAddr rfl fo115_1 | exact det_fieldAddrS rfl fo115_1)) rfl rfl ?_
     refine AS.take 5 rfl (by kernel_rfl) (by kernel_rfl) (by kernel_rfl) rfl rfl ((by first | exact det_fieldAddr rfl fo37_1 | exact det_fieldAddrS rfl fo37_1)) rfl rfl ?_
     refine AS.take 6 rfl (by kernel_rfl) (by kernel_rfl) (by kernel_rfl) rfl rfl ((by first | exact det_ldL rfl (by assumption) (by omega) tk35 | exact det_loadb (j := 0) rfl rfl rfl tk35 | exact det_loadb (j := 1) rfl rfl rfl tk35 | exact det_loadb (j := 2) rfl rfl rfl tk35 | exact det_loadb (j := 3) rfl rfl rfl tk35 | exact det_loadb (j := 4) rfl rfl rfl tk35 | exact det_loadb (j := 5) rfl rfl rfl tk35 | exact det_loadb (j := 6) rfl rfl rfl tk35 | exact det_loadb (j := 7) rfl rfl rfl tk35 | exact det_loadb (j := 8) rfl rfl rfl tk35 | exact det_loadw rfl (by assumption) rfl tk35)) rfl rfl ?_
     refine AS.take 7 rfl (by kernel_rfl) (by kernel_rfl) (by kernel_rfl) rfl rfl ((by first | exact det_lenS sl35 rfl (by assumption) | exact det_lenS sl35 rfl (by first | exact SlL.sp (by assumption) | exact ClS.sp (by assumption)) | exact det_lenO sl35 rfl | exact det_lenV sl35 rfl ⟨_, _, rfl⟩)) rfl rfl ?_
     refine AS.take 8 rfl (by kernel_rfl) (by kernel_rfl) (by kernel_rfl) rfl rfl (det_sub rfl rfl (by omega)) rfl rfl ?_
     refine AS.take 9 rfl (by kernel_rfl) (by kernel_rfl) (by kernel_rfl) rfl rfl (det_callB rfl rfl ent48 (fun u hu => within_c _ _ _ u)) rfl rfl ?_
     refine AS.take 10 rfl (by kernel_rfl) (by kernel_rfl) (by kernel_rfl) rfl rfl (det_move (v := .bool true) (congrArg (fun b => some (Value.bool b)) hb)) rfl rfl ?_
     refine AS.takeT 11 rfl (by kernel_rfl) (by kernel_rfl) (by kernel_rfl) rfl rfl rfl (fun hg => det_move rfl) rfl rfl ?_
     refine AS.takeT 12 rfl (by kernel_rfl) (by kernel_rfl) (by kernel_rfl) rfl rfl rfl (fun hg => det_move rfl) rfl rfl ?_
     refine AS.takeT 14 rfl (by kernel_rfl) (by kernel_rfl) (by kernel_rfl) rfl rfl rfl (fun hg => (by first | exact det_fieldAddr rfl fo52_2 | exact det_fieldAddrS rfl fo52_2)) rfl rfl ?_
     refine AS.takeT 15 rfl (by kernel_rfl) (by kernel_rfl) (by kernel_rfl) rfl rfl rfl (fun hg => (by first | exact det_loadb (j := 0) (ev_cond hg rfl) rfl rfl tk3 | exact det_loadw (ev_cond hg rfl) (by assumption) rfl tk3)) rfl rfl ?_
     refine AS.one (i := 13) (by kernel_rfl) rfl (by first | exact fun _ h => h | exact fun _ h => h.sub (by repeat first | exact List.Sublist.refl _ | apply List.Sublist.cons_cons | apply List.Sublist.cons)) rfl ?_
     refine WS.callFg rfl rfl rfl ent97 (fun u hu => is_c (nth z.pls.l m.p) u b2) (fun _ => rfl) ?_; intro b90 hb90
     refine WS.done ?_
     refine QS.then_AS ?_
     refine AS.one (i := 16) (by kernel_rfl) rfl (by first | exact fun _ h => h | exact fun _ h => h.sub (by repeat first | exact List.Sublist.refl _ | apply List.Sublist.cons_cons | apply List.Sublist.cons)) rfl ?_
     refine WS.guardT rfl rfl rfl rfl (fun hg => det_callB rfl (evs_cons (ev_cond hg rfl) evs_nil) ent98 (fun u hu => isF_c tb r z u (hT.stt hu) b2 _ (st_blk hu (j := 2) rfl) b90 _ _ (st_blk hu (j := 0) rfl) m.n hn2)) rfl ?_
     refine WS.done ?_
     refine QS.then_AS ?_
     refine AS.take 17 rfl (by kernel_rfl) (by kernel_rfl) (by kernel_rfl) rfl rfl (det_pick_and rfl rfl rfl) rfl rfl ?_
     refine AS.take 18 rfl (by kernel_rfl) (by kernel_rfl) (by kernel_rfl) rfl rfl (det_move rfl) rfl rfl ?_
     refine AS.takeT 19 rfl (by kernel_rfl) (by kernel_rfl) (by kernel_rfl) rfl rfl rfl (fun hg => (by first | exact det_loadb (j := 1) rfl rfl rfl tk85 | exact det_loadw rfl (by assumption) rfl tk85)) rfl rfl ?_
     refine AS.takeT 20 rfl (by kernel_rfl) (by kernel_rfl) (by kernel_rfl) rfl rfl rfl (fun hg => (by first | exact det_loadb (j := 1) rfl rfl rfl tk85 | exact det_loadw rfl (by assumption) rfl tk85)) rfl rfl ?_
     refine AS.takeT 21 rfl (by kernel_rfl) (by kernel_rfl) (by kernel_rfl) rfl rfl rfl (fun hg => det_nilCheck (ev_cond hg rfl)) rfl rfl ?_
     refine AS.takeT 22 rfl (by kernel_rfl) (by kernel_rfl) (by kernel_rfl) rfl rfl rfl (fun hg => (by first | exact det_fieldAddr (ev_cond hg rfl) fo115_0 | exact det_fieldAddrS (ev_cond hg rfl) fo115_0)) rfl rfl ?_
     refine AS.takeT 23 rfl (by kernel_rfl) (by kernel_rfl) (by kernel_rfl) rfl rfl rfl (fun hg => (by first | exact det_fieldAddr (ev_cond hg rfl) fo31_2 | exact det_fieldAddrS (ev_cond hg rfl) fo31_2)) rfl rfl ?_
     refine AS.takeT 24 rfl (by kernel_rfl) (by kernel_rfl) (by kernel_rfl) rfl rfl rfl (fun hg => (by first | exact det_loadb (j := 0) (ev_cond hg rfl) rfl rfl tk24 | exact det_loadb (j := 1) (ev_cond hg rfl) rfl rfl tk24 | exact det_loadb (j := 2) (ev_cond hg rfl) rfl rfl tk24 | exact det_loadb (j := 3) (ev_cond hg rfl) rfl rfl tk24 | exact det_loadb (j := 4) (ev_cond hg rfl) rfl rfl tk24 | exact det_loadb (j := 5) (ev_cond hg rfl) rfl rfl tk24 | exact det_loadb (j := 6) (ev_cond hg rfl) rfl rfl tk24 | exact det_loadb (j := 7) (ev_cond hg rfl) rfl rfl tk24 | exact det_loadb (j := 8) (ev_cond hg rfl) rfl rfl tk24 | exact det_loadw (ev_cond hg rfl) (by assumption) rfl tk24)) rfl rfl ?_
     refine AS.takeT 25 rfl (by kernel_rfl) (by kernel_rfl) (by kernel_rfl) rfl rfl rfl (fun hg => (by first | exact det_fieldAddr rfl fo52_2 | exact det_fieldAddrS rfl fo52_2)) rfl rfl ?_
     refine AS.takeT 26 rfl (by kernel_rfl) (by kernel_rfl) (by kernel_rfl) rfl rfl rfl (fun hg => (by first | exact det_loadb (j := 0) (ev_cond hg rfl) rfl rfl tk3 | exact det_loadw (ev_cond hg rfl) (by assumption) rfl tk3)) rfl rfl ?_
     refine AS.takeT 27 rfl (by kernel_rfl) (by kernel_rfl) (by kernel_rfl) rfl rfl rfl (fun hg => det_idxU sl24 (ev_cond hg rfl) (ev_cond hg rfl) (by assumption) rfl (by (try simp only [bq] at hg); omega) (by (try simp only [bq] at hg); omega)) rfl rfl ?_
     refine AS.takeT 28 rfl (by kernel_rfl) (by kernel_rfl) (by kernel_rfl) rfl rfl rfl (fun hg => (by first | exact det_fieldAddr (ev_cond hg rfl) fo72_2 | exact det_fieldAddrS (ev_cond hg rfl) fo72_2)) rfl rfl ?_
     refine AS.takeT 29 rfl (by kernel_rfl) (by kernel_rfl) (by kernel_rfl) rfl rfl rfl (fun hg => (by first | exact det_ldUc 3 2 (ev_cond hg rfl) (by assumption) rfl ⟨(by (try simp only [bq] at hg); omega), (by (try simp only [bq] at hg); omega)⟩ (by decide) rfl tk29)) rfl rfl ?_
     refine AS.takeT 30 rfl (by kernel_rfl) (by kernel_rfl) (by kernel_rfl) rfl rfl rfl (fun hg => det_callB rfl (evs_cons (ev_cond hg rfl) (evs_cons (ev_cond hg rfl) evs_nil)) ent74 (fun u hu => holds_c tb r z u (hT.stt hu) (nth r.prs.l m.n).wh (hwh.st hu) (by rw [hlt]; exact hwc))) rfl rfl ?_
     refine AS.take 31 rfl (by kernel_rfl) (by kernel_rfl) (by kernel_rfl) rfl rfl (det_pick_and rfl rfl rfl) rfl rfl ?_
     refine AS.take 32 rfl (by kernel_rfl) (by kernel_rfl) (by kernel_rfl) rfl rfl (det_move rfl) rfl rfl ?_
     refine AS.takeT 33 rfl (by kernel_rfl) (by kernel_rfl) (by kernel_rfl) rfl rfl rfl (fun hg => (by first | exact det_loadb (j := 1) rfl rfl rfl tk85 | exact det_loadw rfl (by assumption) rfl tk85)) rfl rfl ?_
     refine AS.takeT 34 rfl (by kernel_rfl) (by kernel_rfl) (by kernel_rfl) rfl rfl rfl (fun hg => (by first | exact det_fieldAddr rfl fo52_0 | exact det_fieldAddrS rfl fo52_0)) rfl rfl ?_
     refine AS.takeT 35 rfl (by kernel_rfl) (by kernel_rfl) (by kernel_rfl) rfl rfl rfl (fun hg => (by first | exact det_loadb (j := 0) (ev_cond hg rfl) rfl rfl tk3 | exact det_loadw (ev_cond hg rfl) (by assumption) rfl tk3)) rfl rfl ?_
     refine AS.takeT 36 rfl (by kernel_rfl) (by kernel_rfl) (by kernel_rfl) rfl rfl rfl (fun hg => det_callB rfl (evs_cons (ev_cond hg rfl) (evs_cons (ev_cond hg rfl) evs_nil)) ent101 (fun u hu => ihand_c tb r z u (hT.stt hu) m.p (by omega) (by omega) (by omega))) rfl rfl ?_
     refine AS.takeT 37 rfl (by kernel_rfl) (by kernel_rfl) (by kernel_rfl) rfl rfl rfl (fun hg => det_lt (ev_cond hg rfl) rfl) rfl rfl ?_
     refine AS.take 38 rfl (by kernel_rfl) (by kernel_rfl) (by kernel_rfl) rfl rfl (det_pick_and rfl rfl rfl) rfl rfl ?_
     refine AS.take 39 rfl (by kernel_rfl) (by kernel_rfl) (by kernel_rfl) rfl rfl (det_assign rfl) rfl rfl ?_
     refine AS.done (by kernel_rfl) (by first | exact fun _ h => h | exact fun _ h => h.sub (by repeat first | exact List.Sublist.refl _ | apply List.Sublist.cons_cons | apply List.Sublist.cons)) ?_
     refine QS.then_code ?_
     refine CS.ret ?_
     refine QS.block_ret ?_
     refine QS.then_ret ?_
     exact out1 rfl rfl (retBe (by unfold legalB; rw [if_pos hp, if_neg hc2, if_pos hc4]; unfold takeB; rw [show (decide (0 ≤ m.n) && decide (m.n ≤ (r.prs.l.length : Int) - 1)) = true by (rw [← hlp]; exact hb)]; rfl))
    ·
     refine CS.draw mixed (by kernel_rfl) (by kernel_rfl) ?_
     refine DS.det rfl rfl ((by first | exact det_fieldAddr rfl fo52_2 | exact det_fieldAddrS rfl fo52_2)) rfl ?_
     refine DS.det rfl rfl ((by first | exact det_loadb (j := 0) rfl rfl rfl tk3 | exact det_loadw rfl (by assumption) rfl tk3)) rfl ?_
     refine DS.det rfl rfl ((by first | exact det_loadb (j := 1) rfl rfl rfl tk85 | exact det_loadw rfl (by assumption) rfl tk85)) rfl ?_
     refine DS.det rfl rfl (det_nilCheck rfl) rfl ?_
     refine DS.det rfl rfl ((by first | exact det_fieldAddr rfl fo115_1 | exact det_fieldAddrS rfl fo115_1)) rfl ?_
     refine DS.det rfl rfl ((by first | exact det_fieldAddr rfl fo37_1 | exact det_fieldAddrS rfl fo37_1)) rfl ?_
     refine DS.det rfl rfl ((by first | exact det_ldL rfl (by assumption) (by omega) tk35 | exact det_loadb (j := 0) rfl rfl rfl tk35 | exact det_loadb (j := 1) rfl rfl rfl tk35 | exact det_loadb (j := 2) rfl rfl rfl tk35 | exact det_loadb (j := 3) rfl rfl rfl tk35 | exact det_loadb (j := 4) rfl rfl rfl tk35 | exact det_loadb (j := 5) rfl rfl rfl tk35 | exact det_loadb (j := 6) rfl rfl rfl tk35 | exact det_loadb (j := 7) rfl rfl rfl tk35 | exact det_loadb (j := 8) rfl rfl rfl tk35 | exact det_loadw rfl (by assumption) rfl tk35)) rfl ?_
     refine DS.det rfl rfl ((by first | exact det_lenS sl35 rfl (by assumption) | exact det_lenS sl35 rfl (by first | exact SlL.sp (by assumption) | exact ClS.sp (by assumption)) | exact det_lenO sl35 rfl | exact det_lenV sl35 rfl ⟨_, _, rfl⟩)) rfl ?_
     refine DS.det rfl rfl (det_sub rfl rfl (by omega)) rfl ?_
     refine DS.det rfl rfl (det_callB rfl rfl ent48 (fun u hu => within_c _ _ _ u)) rfl ?_
     refine DS.det rfl rfl (det_move rfl) rfl ?_
     refine DS.guardT rfl rfl rfl (fun hg => (show Det _ _ _ _ undef from by first | exact Bool.noConfusion (hb.symm.trans hg) | (rw [hb] at hg; simp at hg; done) | (simp [hb] at hg; done))) rfl ?_
     refine DS.guardT rfl rfl rfl (fun hg => (show Det _ _ _ _ undef from by first | exact Bool.noConfusion (hb.symm.trans hg) | (rw [hb] at hg; simp at hg; done) | (simp [hb] at hg; done))) rfl ?_
     refine DS.guardT rfl rfl rfl (fun hg => (show Det _ _ _ _ undef from by first | exact Bool.noConfusion (hb.symm.trans hg) | (rw [hb] at hg; simp at hg; done) | (simp [hb] at hg; done))) rfl ?_
     refine DS.guardT rfl rfl rfl (fun hg => (show Det _ _ _ _ undef from by first | exact Bool.noConfusion (hb.symm.trans hg) | (rw [hb] at hg; simp at hg; done) | (simp [hb] at hg; done))) rfl ?_
     refine DS.guardT rfl rfl rfl (fun hg => (show Det _ _ _ _ undef from by first | exact Bool.noConfusion (hb.symm.trans hg) | (rw [hb] at hg; simp at hg; done) | (simp [hb] at hg; done))) rfl ?_
     refine DS.guardT rfl rfl rfl (fun hg => (show Det _ _ _ _ (.bool false) from by first | exact Bool.noConfusion (hb.symm.trans hg) | (rw [hb] at hg; simp at hg; done) | (simp [hb] at hg; done))) rfl ?_
     refine DS.det rfl rfl (det_pick_and rfl rfl rfl) rfl ?_
     refine DS.det rfl rfl (det_move rfl) rfl ?_
     refine DS.guardT rfl rfl rfl (fun hg => (show Det _ _ _ _ undef from by first | exact Bool.noConfusion (hb.symm.trans hg) | (rw [hb] at hg; simp at hg; done) | (simp [hb] at hg; done))) rfl ?_
     refine DS.guardT rfl rfl rfl (fun hg => (show Det _ _ _ _ undef from by first | exact Bool.noConfusion (hb.symm.trans hg) | (rw [hb] at hg; simp at hg; done) | (simp [hb] at hg; done))) rfl ?_
     refine DS.guardT rfl rfl rfl (fun hg => (show Det _ _ _ _ undef from by first | exact Bool.noConfusion (hb.symm.trans hg) | (rw [hb] at hg; simp at hg; done) | (simp [hb] at hg; done))) rfl ?_
     refine DS.guardT rfl rfl rfl (fun hg => (show Det _ _ _ _ undef from by first | exact Bool.noConfusion (hb.symm.trans hg) | (rw [hb] at hg; simp at hg; done) | (simp [hb] at hg; done))) rfl ?_
     refine DS.guardT rfl rfl rfl (fun hg => (show Det _ _ _ _ undef from by first | exact Bool.noConfusion (hb.symm.trans hg) | (rw [hb] at hg; simp at hg; done) | (simp [hb] at hg; done))) rfl ?_
     refine DS.guardT rfl rfl rfl (fun hg => (show Det _ _ _ _ undef from by first | exact Bool.noConfusion (hb.symm.trans hg) | (rw [hb] at hg; simp at hg; done) | (simp [hb] at hg; done))) rfl ?_
     refine DS.guardT rfl rfl rfl (fun hg => (show Det _ _ _ _ undef from by first | exact Bool.noConfusion (hb.symm.trans hg) | (rw [hb] at hg; simp at hg; done) | (simp [hb] at hg; done))) rfl ?_
     refine DS.guardT rfl rfl rfl (fun hg => (show Det _ _ _ _ undef from by first | exact Bool.noConfusion (hb.symm.trans hg) | (rw [hb] at hg; simp at hg; done) | (simp [hb] at hg; done))) rfl ?_
     refine DS.guardT rfl rfl rfl (fun hg => (show Det _ _ _ _ undef from by first | exact Bool.noConfusion (hb.symm.trans hg) | (rw [hb] at hg; simp at hg; done) | (simp [hb] at hg; done))) rfl ?_
     refine DS.guardT rfl rfl rfl (fun hg => (show Det _ _ _ _ undef from by first | exact Bool.noConfusion (hb.symm.trans hg) | (rw [hb] at hg; simp at hg; done) | (simp [hb] at hg; done))) rfl ?_
     refine DS.guardT rfl rfl rfl (fun hg => (show Det _ _ _ _ undef from by first | exact Bool.noConfusion (hb.symm.trans hg) | (rw [hb] at hg; simp at hg; done) | (simp [hb] at hg; done))) rfl ?_
     refine DS.guardT rfl rfl rfl (fun hg => (show Det _ _ _ _ (.bool false) from by first | exact Bool.noConfusion (hb.symm.trans hg) | (rw [hb] at hg; simp at hg; done) | (simp [hb] at hg; done))) rfl ?_
     refine DS.det rfl rfl (det_pick_and rfl rfl rfl) rfl ?_
     refine DS.det rfl rfl (det_move rfl) rfl ?_
     refine DS.guardT rfl rfl rfl (fun hg => (show Det _ _ _ _ undef from by first | exact Bool.noConfusion (hb.symm.trans hg) | (rw [hb] at hg; simp at hg; done) | (simp [hb] at hg; done))) rfl ?_
     refine DS.guardT rfl rfl rfl (fun hg => (show Det _ _ _ _ undef from by first | exact Bool.noConfusion (hb.symm.trans hg) | (rw [hb] at hg; simp at hg; done) | (simp [hb] at hg; done))) rfl ?_
     refine DS.guardT rfl rfl rfl (fun hg => (show Det _ _ _ _ undef from by first | exact Bool.noConfusion (hb.symm.trans hg) | (rw [hb] at hg; simp at hg; done) | (simp [hb] at hg; done))) rfl ?_
     refine DS.guardT rfl rfl rfl (fun hg => (show Det _ _ _ _ undef from by first | exact Bool.noConfusion (hb.symm.trans hg) | (rw [hb] at hg; simp at hg; done) | (simp [hb] at hg; done))) rfl ?_
     refine DS.guardT rfl rfl rfl (fun hg => (show Det _ _ _ _ (.bool false) from by first | exact Bool.noConfusion (hb.symm.trans hg) | (rw [hb] at hg; simp at hg; done) | (simp [hb] at hg; done))) rfl ?_
     refine DS.det rfl rfl (det_pick_and rfl rfl rfl) rfl ?_
     refine DS.det rfl rfl (det_assign rfl) rfl ?_
     refine DS.done ?_
     refine QS.then_code ?_
     refine CS.ret ?_
     refine QS.block_ret ?_
     refine QS.then_ret ?_
     exact out1 rfl rfl (retBe (by unfold legalB; rw [if_pos hp, if_neg hc2, if_pos hc4]; unfold takeB; rw [show (decide (0 ≤ m.n) && decide (m.n ≤ (r.prs.l.length : Int) - 1)) = false by (rw [← hlp]; exact hb), hb]; simp))
   ·
    refine N3 ?_
    refine WS.det rfl rfl rfl (det_eq rfl rfl) rfl ?_
    refine WS.det rfl rfl rfl (det_assign rfl) rfl ?_
    refine N4 ?_
    refine CS.cond rfl (fun hc5 => ?_) (fun hc5 => ?_) <;> (try simp only [bq] at hc5)
    ·
     refine CS.seq ?_
     rcases Bool.eq_false_or_eq_true ((decide (0 ≤ m.n) && decide (m.n ≤ (z.prs.l.length : Int) - 1))) with hb | hb
     ·
      have hn2 : 0 ≤ m.n ∧ m.n < z.prs.l.length := by simp only [Bool.and_eq_true, decide_eq_true_eq] at hb; omega
      refine CS.drawnAll (k := 19) mixed rfl rfl ?_
      refine AS.take 0 rfl (by kernel_rfl) (by kernel_rfl) (by kernel_rfl) rfl rfl ((by first | exact det_fieldAddr rfl fo52_2 | exact det_fieldAddrS rfl fo52_2)) rfl rfl ?_
      refine AS.take 1 rfl (by kernel_rfl) (by kernel_rfl) (by kernel_rfl) rfl rfl ((by first | exact det_loadb (j := 0) rfl rfl rfl tk3 | exact det_loadw rfl (by assumption) rfl tk3)) rfl rfl ?_
      refine AS.take 2 rfl (by kernel_rfl) (by kernel_rfl) (by kernel_rfl) rfl rfl ((by first | exact det_loadb (j := 1) rfl rfl rfl tk85 | exact det_loadw rfl (by assumption) rfl tk85)) rfl rfl ?_
      refine AS.take 3 rfl (by kernel_rfl) (by kernel_rfl) (by kernel_rfl) rfl rfl (det_nilCheck rfl) rfl rfl ?_
      refine AS.take 4 rfl (by kernel_rfl) (by kernel_rfl) (by kernel_rfl) rfl rfl ((by first | exact det_fieldAddr rfl fo115_1 | exact det_fieldAddrS rfl fo115_1)) rfl rfl ?_
      refine AS.take 5 rfl (by kernel_rfl) (by kernel_rfl) (by kernel_rfl) rfl rfl ((by first | exact det_fieldAddr rfl fo37_1 | exact det_fieldAddrS rfl fo37_1)) rfl rfl ?_
      refine AS.take 6 rfl (by kernel_rfl) (by kernel_rfl) (by kernel_rfl) rfl rfl ((by first | exact det_ldL rfl (by assumption) (by omega) tk35 | exact det_loadb (j := 0) rfl rfl rfl tk35 | exact det_loadb (j := 1) rfl rfl rfl tk35 | exact det_loadb (j := 2) rfl rfl rfl tk35 | exact det_loadb (j := 3) rfl rfl rfl tk35 | exact det_loadb (j := 4) rfl rfl rfl tk35 | exact det_loadb (j := 5) rfl rfl rfl tk35 | exact det_loadb (j := 6) rfl rfl rfl tk35 | exact det_loadb (j := 7) rfl rfl rfl tk35 | exact det_loadb (j := 8) rfl rfl rfl tk35 | exact det_loadw rfl (by assumption) rfl tk35)) rfl rfl ?_
      refine AS.take 7 rfl (by kernel_rfl) (by kernel_rfl) (by kernel_rfl) rfl rfl ((by first | exact det_lenS sl35 rfl (by assumption) | exact det_lenS sl35 rfl (by first | exact SlL.sp (by assumption) | exact ClS.sp (by assumption)) | exact det_lenO sl35 rfl | exact det_lenV sl35 rfl ⟨_, _, rfl⟩)) rfl rfl ?_
      refine AS.take 8 rfl (by kernel_rfl) (by kernel_rfl) (by kernel_rfl) rfl rfl (det_sub rfl rfl (by omega)) rfl rfl ?_
      refine AS.take 9 rfl (by kernel_rfl) (by kernel_rfl) (by kernel_rfl) rfl rfl (det_callB rfl rfl ent48 (fun u hu => within_c _ _ _ u)) rfl rfl ?_
      refine AS.take 10 rfl (by kernel_rfl) (by kernel_rfl) (by kernel_rfl) rfl rfl (det_move (v := .bool true) (congrArg (fun b => some (Value.bool b)) hb)) rfl rfl ?_
      refine AS.takeT 11 rfl (by kernel_rfl) (by kernel_rfl) (by kernel_rfl) rfl rfl rfl (fun hg => det_move rfl) rfl rfl ?_
      refine AS.takeT 12 rfl (by kernel_rfl) (by kernel_rfl) (by kernel_rfl) rfl rfl rfl (fun hg => det_move rfl) rfl rfl ?_
      refine AS.takeT 14 rfl (by kernel_rfl) (by kernel_rfl) (by kernel_rfl) rfl rfl rfl (fun hg => (by first | exact det_fieldAddr rfl fo52_2 | exact det_fieldAddrS rfl fo52_2)) rfl rfl ?_
      refine AS.takeT 15 rfl (by kernel_rfl) (by kernel_rfl) (by kernel_rfl) rfl rfl rfl (fun hg => (by first | exact det_loadb (j := 0) (ev_cond hg rfl) rfl rfl tk3 | exact det_loadw (ev_cond hg rfl) (by assumption) rfl tk3)) rfl rfl ?_
      refine AS.one (i := 13) (by kernel_rfl) rfl (by first | exact fun _ h => h | exact fun _ h => h.sub (by repeat first | exact List.Sublist.refl _ | apply List.Sublist.cons_cons | apply List.Sublist.cons)) rfl ?_
      refine WS.callFg rfl rfl rfl ent97 (fun u hu => is_c (-2 - m.p) u b2) (fun _ => rfl) ?_; intro b131 hb131
      refine WS.done ?_
      refine QS.then_AS ?_
      refine AS.one (i := 16) (by kernel_rfl) rfl (by first | exact fun _ h => h | exact fun _ h => h.sub (by repeat first | exact List.Sublist.refl _ | apply List.Sublist.cons_cons | apply List.Sublist.cons)) rfl ?_
      refine WS.guardT rfl rfl rfl rfl (fun hg => det_callB rfl (evs_cons (ev_cond hg rfl) evs_nil) ent98 (fun u hu => isF_c tb r z u (hT.stt hu) b2 _ (st_blk hu (j := 2) rfl) b131 _ _ (st_blk hu (j := 0) rfl) m.n hn2)) rfl ?_
      refine WS.done ?_
      refine QS.then_AS ?_
      refine AS.take 17 rfl (by kernel_rfl) (by kernel_rfl) (by kernel_rfl) rfl rfl (det_pick_and rfl rfl rfl) rfl rfl ?_
      refine AS.take 18 rfl (by kernel_rfl) (by kernel_rfl) (by kernel_rfl) rfl rfl (det_assign rfl) rfl rfl ?_
      refine AS.done (by kernel_rfl) (by first | exact fun _ h => h | exact fun _ h => h.sub (by repeat first | exact List.Sublist.refl _ | apply List.Sublist.cons_cons | apply List.Sublist.cons)) ?_
      refine QS.then_code ?_
      refine CS.ret ?_
      refine QS.block_ret ?_
      refine QS.then_ret ?_
      exact out1 rfl rfl (retBe (by unfold legalB; rw [if_pos hp, if_neg hc2, if_neg hc4, if_pos hc5]; unfold dropB; rw [show (decide (0 ≤ m.n) && decide (m.n ≤ (r.prs.l.length : Int) - 1)) = true by (rw [← hlp]; exact hb)]; rfl))
     ·
      refine CS.draw mixed (by kernel_rfl) (by kernel_rfl) ?_
      refine DS.det rfl rfl ((by first | exact det_fieldAddr rfl fo52_2 | exact det_fieldAddrS rfl fo52_2)) rfl ?_
      refine DS.det rfl rfl ((by first | exact det_loadb (j := 0) rfl rfl rfl tk3 | exact det_loadw rfl (by assumption) rfl tk3)) rfl ?_
      refine DS.det rfl rfl ((by first | exact det_loadb (j := 1) rfl rfl rfl tk85 | exact det_loadw rfl (by assumption) rfl tk85)) rfl ?_
      refine DS.det rfl rfl (det_nilCheck rfl) rfl ?_
      refine DS.det rfl rfl ((by first | exact det_fieldAddr rfl fo115_1 | exact det_fieldAddrS rfl fo115_1)) rfl ?_
      refine DS.det rfl rfl ((by first | exact det_fieldAddr rfl fo37_1 | exact det_fieldAddrS rfl fo37_1)) rfl ?_
      refine DS.det rfl rfl ((by first | exact det_ldL rfl (by assumption) (by omega) tk35 | exact det_loadb (j := 0) rfl rfl rfl tk35 | exact det_loadb (j := 1) rfl rfl rfl tk35 | exact det_loadb (j := 2) rfl rfl rfl tk35 | exact det_loadb (j := 3) rfl rfl rfl tk35 | exact det_loadb (j := 4) rfl rfl rfl tk35 | exact det_loadb (j := 5) rfl rfl rfl tk35 | exact det_loadb (j := 6) rfl rfl rfl tk35 | exact det_loadb (j := 7) rfl rfl rfl tk35 | exact det_loadb (j := 8) rfl rfl rfl tk35 | exact det_loadw rfl (by assumption) rfl tk35)) rfl ?_
      refine DS.det rfl rfl ((by first | exact det_lenS sl35 rfl (by assumption) | exact det_lenS sl35 rfl (by first | exact SlL.sp (by assumption) | exact ClS.sp (by assumption)) | exact det_lenO sl35 rfl | exact det_lenV sl35 rfl ⟨_, _, rfl⟩)) rfl ?_
      refine DS.det rfl rfl (det_sub rfl rfl (by omega)) rfl ?_
      refine DS.det rfl rfl (det_callB rfl rfl ent48 (fun u hu => within_c _ _ _ u)) rfl ?_
      refine DS.det rfl rfl (det_move rfl) rfl ?_
      refine DS.guardT rfl rfl rfl (fun hg => (show Det _ _ _ _ undef from by first | exact Bool.noConfusion (hb.symm.trans hg) | (rw [hb] at hg; simp at hg; done) | (simp [hb] at hg; done))) rfl ?_
      refine DS.guardT rfl rfl rfl (fun hg => (show Det _ _ _ _ undef from by first | exact Bool.noConfusion (hb.symm.trans hg) | (rw [hb] at hg; simp at hg; done) | (simp [hb] at hg; done))) rfl ?_
      refine DS.guardT rfl rfl rfl (fun hg => (show Det _ _ _ _ undef from by first | exact Bool.noConfusion (hb.symm.trans hg) | (rw [hb] at hg; simp at hg; done) | (simp [hb] at hg; done))) rfl ?_
      refine DS.guardT rfl rfl rfl (fun hg => (show Det _ _ _ _ undef from by first | exact Bool.noConfusion (hb.symm.trans hg) | (rw [hb] at hg; simp at hg; done) | (simp [hb] at hg; done))) rfl ?_
      refine DS.guardT rfl rfl rfl (fun hg => (show Det _ _ _ _ undef from by first | exact Bool.noConfusion (hb.symm.trans hg) | (rw [hb] at hg; simp at hg; done) | (simp [hb] at hg; done))) rfl ?_
      refine DS.guardT rfl rfl rfl (fun hg => (show Det _ _ _ _ (.bool false) from by first | exact Bool.noConfusion (hb.symm.trans hg) | (rw [hb] at hg; simp at hg; done) | (simp [hb] at hg; done))) rfl ?_
      refine DS.det rfl rfl (det_pick_and rfl rfl rfl) rfl ?_
      refine DS.det rfl rfl (det_assign rfl) rfl ?_
      refine DS.done ?_
      refine QS.then_code ?_
      refine CS.ret ?_
      refine QS.block_ret ?_
      refine QS.then_ret ?_
      exact out1 rfl rfl (retBe (by unfold legalB; rw [if_pos hp, if_neg hc2, if_neg hc4, if_pos hc5]; unfold dropB; rw [show (decide (0 ≤ m.n) && decide (m.n ≤ (r.prs.l.length : Int) - 1)) = false by (rw [← hlp]; exact hb), hb]; simp))
    ·
     refine N3 ?_
     refine WS.det rfl rfl rfl (det_eq rfl rfl) rfl ?_
     refine WS.det rfl rfl rfl (det_assign rfl) rfl ?_
     refine N4 ?_
     refine CS.cond rfl (fun hc6 => ?_) (fun hc6 => ?_) <;> (try simp only [bq] at hc6)
     ·
      refine CS.seq ?_
      refine CS.seq ?_
      refine CS.draw mixed (by kernel_rfl) (by kernel_rfl) ?_
      refine DS.det rfl rfl ((by first | exact det_fieldAddr rfl fo52_2 | exact det_fieldAddrS rfl fo52_2)) rfl ?_
      refine DS.det rfl rfl ((by first | exact det_loadb (j := 0) rfl rfl rfl tk3 | exact det_loadw rfl (by assumption) rfl tk3)) rfl ?_
      refine DS.det rfl rfl ((by first | exact det_loadb (j := 1) rfl rfl rfl tk85 | exact det_loadw rfl (by assumption) rfl tk85)) rfl ?_
      refine DS.det rfl rfl (det_nilCheck rfl) rfl ?_
      refine DS.det rfl rfl ((by first | exact det_fieldAddr rfl fo115_0 | exact det_fieldAddrS rfl fo115_0)) rfl ?_
      refine DS.det rfl rfl ((by first | exact det_fieldAddr rfl fo31_4 | exact det_fieldAddrS rfl fo31_4)) rfl ?_
      refine DS.det rfl rfl ((by first | exact det_loadb (j := 0) rfl rfl rfl tk26 | exact det_loadb (j := 1) rfl rfl rfl tk26 | exact det_loadb (j := 2) rfl rfl rfl tk26 | exact det_loadb (j := 3) rfl rfl rfl tk26 | exact det_loadb (j := 4) rfl rfl rfl tk26 | exact det_loadb (j := 5) rfl rfl rfl tk26 | exact det_loadb (j := 6) rfl rfl rfl tk26 | exact det_loadb (j := 7) rfl rfl rfl tk26 | exact det_loadb (j := 8) rfl rfl rfl tk26 | exact det_loadw rfl (by assumption) rfl tk26)) rfl ?_
      refine DS.det rfl rfl (det_lenU sl26 rfl (by assumption)) rfl ?_
      refine DS.det rfl rfl (det_sub rfl rfl (by omega)) rfl ?_
      refine DS.det rfl rfl (det_callB rfl rfl ent48 (fun u hu => within_c _ _ _ u)) rfl ?_
      refine DS.det rfl rfl (det_not rfl) rfl ?_
      refine DS.done ?_
      refine QS.then_code ?_
      refine CS.cond rfl (fun hc7 => ?_) (fun hc7 => ?_) <;> (try simp only [bq] at hc7)
      ·
       refine N3 ?_
       refine WS.det rfl rfl rfl (det_assign rfl) rfl ?_
       refine N4 ?_
       refine CS.ret ?_
       refine QS.then_ret ?_
       refine QS.block_ret ?_
       refine QS.then_ret ?_
       exact out1 rfl rfl (retBe (by unfold legalB; rw [if_pos hp, if_neg hc2, if_neg hc4, if_neg hc5, if_pos hc6]; unfold doB; rw [show (decide (0 ≤ m.n) && decide (m.n ≤ (r.acs.l.length : Int) - 1)) = false by (simp only [Bool.and_eq_false_iff, decide_eq_false_iff_not]; omega)]; simp))
      ·
       have hn2 : 0 ≤ m.n ∧ m.n < r.acs.l.length := by omega
       have ha := hR.acs _ (nth_mem hn2.1 hn2.2)
       have hak : ActOk w (nth r.acs.l m.n) := hr.acs.at hn2.1 hn2.2
       have hus := hak.us.ints
       have hsp := hak.sp.ints
       have hbr := hak.br.ints
       have lus := ha.lus
       have lbr := ha.lbr
       have lsp := ha.lsp
       refine CS.skip ?_
       refine QS.then_code ?_
       refine CS.seq ?_
       refine CS.drawnAll (k := 11) mixed rfl rfl ?_
       refine AS.take 0 rfl (by kernel_rfl) (by kernel_rfl) (by kernel_rfl) rfl rfl ((by first | exact det_loadb (j := 1) rfl rfl rfl tk85 | exact det_loadw rfl (by assumption) rfl tk85)) rfl rfl ?_
       refine AS.take 1 rfl (by kernel_rfl) (by kernel_rfl) (by kernel_rfl) rfl rfl (det_nilCheck rfl) rfl rfl ?_
       refine AS.take 2 rfl (by kernel_rfl) (by kernel_rfl) (by kernel_rfl) rfl rfl ((by first | exact det_fieldAddr rfl fo115_0 | exact det_fieldAddrS rfl fo115_0)) rfl rfl ?_
       refine AS.take 3 rfl (by kernel_rfl) (by kernel_rfl) (by kernel_rfl) rfl rfl ((by first | exact det_fieldAddr rfl fo31_4 | exact det_fieldAddrS rfl fo31_4)) rfl rfl ?_
       refine AS.take 4 rfl (by kernel_rfl) (by kernel_rfl) (by kernel_rfl) rfl rfl ((by first | exact det_loadb (j := 0) rfl rfl rfl tk26 | exact det_loadb (j := 1) rfl rfl rfl tk26 | exact det_loadb (j := 2) rfl rfl rfl tk26 | exact det_loadb (j := 3) rfl rfl rfl tk26 | exact det_loadb (j := 4) rfl rfl rfl tk26 | exact det_loadb (j := 5) rfl rfl rfl tk26 | exact det_loadb (j := 6) rfl rfl rfl tk26 | exact det_loadb (j := 7) rfl rfl rfl tk26 | exact det_loadb (j := 8) rfl rfl rfl tk26 | exact det_loadw rfl (by assumption) rfl tk26)) rfl rfl ?_
       refine AS.take 5 rfl (by kernel_rfl) (by kernel_rfl) (by kernel_rfl) rfl rfl ((by first | exact det_fieldAddr rfl fo52_2 | exact det_fieldAddrS rfl fo52_2)) rfl rfl ?_
       refine AS.take 6 rfl (by kernel_rfl) (by kernel_rfl) (by kernel_rfl) rfl rfl ((by first | exact det_loadb (j := 0) rfl rfl rfl tk3 | exact det_loadw rfl (by assumption) rfl tk3)) rfl rfl ?_
       refine AS.take 7 rfl (by kernel_rfl) (by kernel_rfl) (by kernel_rfl) rfl rfl (det_idxU sl26 rfl rfl (by assumption) rfl (by omega) (by omega)) rfl rfl ?_
       refine AS.take 8 rfl (by kernel_rfl) (by kernel_rfl) (by kernel_rfl) rfl rfl ((by first | exact det_ldU rfl (by assumption) rfl ⟨(by omega), (by omega)⟩ rfl tk77)) rfl rfl ?_
       refine AS.one (i := 9) (by kernel_rfl) rfl (by first | exact fun _ h => h | exact fun _ h => h.sub (by repeat first | exact List.Sublist.refl _ | apply List.Sublist.cons_cons | apply List.Sublist.cons)) rfl ?_
       refine WS.alloc zv77 (fun _ => rfl) ?_; intro b10 hb10
       refine WS.done ?_
       refine QS.then_AS ?_
       refine AS.one (i := 10) (by kernel_rfl) rfl (by first | exact fun _ h => h | exact fun _ h => h.sub (by repeat first | exact List.Sublist.refl _ | apply List.Sublist.cons_cons | apply List.Sublist.cons)) rfl ?_
       first | refine WS.storeW (j := 0) rfl rfl rfl rfl (by first | (simp [Value.oneCell']; done) | ((repeat (refine List.forall_mem_cons.2 ⟨by first | rfl | assumption, ?_⟩)); exact fun _ h => absurd h List.not_mem_nil) | exact Cel.one _ w _ (by first | assumption | exact trivial)) tk77 rfl rfl ?_
       refine WS.done ?_
       refine QS.then_AS ?_
       refine AS.done (by kernel_rfl) (by first | exact fun _ h => h | exact fun _ h => h.sub (by repeat first | exact List.Sublist.refl _ | apply List.Sublist.cons_cons | apply List.Sublist.cons)) ?_
       refine QS.then_code ?_
       refine CS.seq ?_
       rcases Bool.eq_false_or_eq_true (decide ((nth r.acs.l m.n).pl = nth z.pls.l m.p)) with hb | hb
       ·
        rcases Bool.eq_false_or_eq_true (((nth r.acs.l m.n).us.l.all fun x => decide (nth z.prs.l x = -2 - m.p)) && holdB z.ths.l (nth r.acs.l m.n).wh.l) with hd | hd
        ·
         refine CS.drawnAll (k := 43) mixed rfl rfl ?_
         refine AS.take 0 rfl (by kernel_rfl) (by kernel_rfl) (by kernel_rfl) rfl rfl ((by first | exact det_fieldAddr rfl fo77_1 | exact det_fieldAddrS rfl fo77_1)) rfl rfl ?_
         refine AS.take 1 rfl (by kernel_rfl) (by kernel_rfl) (by kernel_rfl) rfl rfl ((by first | exact det_loadb (j := 0) rfl rfl rfl tk3 | exact det_loadw rfl (by assumption) rfl tk3)) rfl rfl ?_
         refine AS.take 2 rfl (by kernel_rfl) (by kernel_rfl) (by kernel_rfl) rfl rfl (det_move rfl) rfl rfl ?_
         refine AS.take 3 rfl (by kernel_rfl) (by kernel_rfl) (by kernel_rfl) rfl rfl (det_eq rfl rfl) rfl rfl ?_
         refine AS.take 4 rfl (by kernel_rfl) (by kernel_rfl) (by kernel_rfl) rfl rfl (det_move (v := .bool true) (congrArg (fun b => some (Value.bool b)) hb)) rfl rfl ?_
         refine AS.takeT 5 rfl (by kernel_rfl) (by kernel_rfl) (by kernel_rfl) rfl rfl rfl (fun hg => det_move rfl) rfl rfl ?_
         refine AS.takeT 6 rfl (by kernel_rfl) (by kernel_rfl) (by kernel_rfl) rfl rfl rfl (fun hg => (by first | exact det_fieldAddr rfl fo77_3 | exact det_fieldAddrS rfl fo77_3)) rfl rfl ?_
         refine AS.takeT 7 rfl (by kernel_rfl) (by kernel_rfl) (by kernel_rfl) rfl rfl rfl (fun hg => (by first | exact det_loadb (j := 0) (ev_cond hg rfl) rfl rfl tk35 | exact det_loadw (ev_cond hg rfl) (by assumption) rfl tk35)) rfl rfl ?_
         refine AS.takeT 8 rfl (by kernel_rfl) (by kernel_rfl) (by kernel_rfl) rfl rfl rfl (fun hg => det_move rfl) rfl rfl ?_
         refine AS.takeT 9 rfl (by kernel_rfl) (by kernel_rfl) (by kernel_rfl) rfl rfl rfl (fun hg => det_move rfl) rfl rfl ?_
         refine AS.one (i := 10) (by kernel_rfl) rfl (by first | exact fun _ h => h | exact fun _ h => h.sub (by repeat first | exact List.Sublist.refl _ | apply List.Sublist.cons_cons | apply List.Sublist.cons)) rfl ?_
         refine WS.callFg rfl rfl rfl ent97 (fun u hu => is_c (-2 - m.p) u b2) (fun _ => rfl) ?_; intro b168 hb168
         refine WS.done ?_
         refine QS.then_AS ?_
         refine AS.one (i := 11) (by kernel_rfl) rfl (by first | exact fun _ h => h | exact fun _ h => h.sub (by repeat first | exact List.Sublist.refl _ | apply List.Sublist.cons_cons | apply List.Sublist.cons)) rfl ?_
         refine WS.guardT rfl rfl rfl rfl (fun hg => det_callB (ev_cond hg rfl) (evs_cons (ev_cond hg rfl) (evs_cons rfl evs_nil)) ent99 (fun u hu => all_c (nth r.acs.l m.n).us u (hak.us.st hu) _ [.pointer (some ⟨b2, 0, none⟩), .pointer (some ⟨b168, 0, none⟩)] (fun x => decide (nth z.prs.l x = -2 - m.p)) ent98 (fun u2 h2 i a0 a1 => isF_c tb r z u2 ((hT.stt hu).ext h2) b2 _ ((st_blk hu (j := 3) rfl).ext h2) b168 _ _ ((st_blk hu (j := 0) rfl).ext h2) _ (by have := ha.us _ (nth_mem a0 a1); omega)))) rfl ?_
         refine WS.done ?_
         refine QS.then_AS ?_
         refine AS.take 12 rfl (by kernel_rfl) (by kernel_rfl) (by kernel_rfl) rfl rfl (det_pick_and rfl rfl rfl) rfl rfl ?_
         refine AS.take 13 rfl (by kernel_rfl) (by kernel_rfl) (by kernel_rfl) rfl rfl (det_move rfl) rfl rfl ?_
         refine AS.takeT 14 rfl (by kernel_rfl) (by kernel_rfl) (by kernel_rfl) rfl rfl rfl (fun hg => (by first | exact det_loadb (j := 2) rfl rfl rfl tk85 | exact det_loadw rfl (by assumption) rfl tk85)) rfl rfl ?_
         refine AS.takeT 15 rfl (by kernel_rfl) (by kernel_rfl) (by kernel_rfl) rfl rfl rfl (fun hg => (by first | exact det_fieldAddr rfl fo77_4 | exact det_fieldAddrS rfl fo77_4)) rfl rfl ?_
         refine AS.takeT 16 rfl (by kernel_rfl) (by kernel_rfl) (by kernel_rfl) rfl rfl rfl (fun hg => (by first | exact det_loadb (j := 0) (ev_cond hg rfl) rfl rfl tk29 | exact det_loadw (ev_cond hg rfl) (by assumption) rfl tk29)) rfl rfl ?_
         refine AS.takeT 17 rfl (by kernel_rfl) (by kernel_rfl) (by kernel_rfl) rfl rfl rfl (fun hg => det_callB rfl (evs_cons (ev_cond hg rfl) (evs_cons (ev_cond hg rfl) evs_nil)) ent74 (fun u hu => holds_c tb r z u (hT.stt hu) (nth r.acs.l m.n).wh (hak.wh.st hu) (by rw [hlt]; exact ha.wh))) rfl rfl ?_
         refine AS.take 18 rfl (by kernel_rfl) (by kernel_rfl) (by kernel_rfl) rfl rfl (det_pick_and rfl rfl rfl) rfl rfl ?_
         refine AS.take 19 rfl (by kernel_rfl) (by kernel_rfl) (by kernel_rfl) rfl rfl (det_move (v := .bool true) (congrArg (fun b => some (Value.bool b)) hd)) rfl rfl ?_
         refine AS.takeT 20 rfl (by kernel_rfl) (by kernel_rfl) (by kernel_rfl) rfl rfl rfl (fun hg => det_move rfl) rfl rfl ?_
         refine AS.takeT 21 rfl (by kernel_rfl) (by kernel_rfl) (by kernel_rfl) rfl rfl rfl (fun hg => (by first | exact det_fieldAddr rfl fo77_7 | exact det_fieldAddrS rfl fo77_7)) rfl rfl ?_
         refine AS.takeT 22 rfl (by kernel_rfl) (by kernel_rfl) (by kernel_rfl) rfl rfl rfl (fun hg => (by first | exact det_loadb (j := 0) (ev_cond hg rfl) rfl rfl tk35 | exact det_loadw (ev_cond hg rfl) (by assumption) rfl tk35)) rfl rfl ?_
         refine AS.takeT 23 rfl (by kernel_rfl) (by kernel_rfl) (by kernel_rfl) rfl rfl rfl (fun hg => det_move rfl) rfl rfl ?_
         refine AS.one (i := 24) (by kernel_rfl) rfl (by first | exact fun _ h => h | exact fun _ h => h.sub (by repeat first | exact List.Sublist.refl _ | apply List.Sublist.cons_cons | apply List.Sublist.cons)) rfl ?_
         refine WS.callFg rfl rfl rfl ent97 (fun u hu => is_c (-1) u b2) (fun _ => rfl) ?_; intro b182 hb182
         refine WS.done ?_
         refine QS.then_AS ?_
         refine AS.one (i := 25) (by kernel_rfl) rfl (by first | exact fun _ h => h | exact fun _ h => h.sub (by repeat first | exact List.Sublist.refl _ | apply List.Sublist.cons_cons | apply List.Sublist.cons)) rfl ?_
         refine WS.guardT rfl rfl rfl rfl (fun hg => det_callB (ev_cond hg rfl) (evs_cons (ev_cond hg rfl) (evs_cons rfl evs_nil)) ent99 (fun u hu => all_c (nth r.acs.l m.n).br u (hak.br.st hu) _ [.pointer (some ⟨b2, 0, none⟩), .pointer (some ⟨b182, 0, none⟩)] (fun x => decide (nth z.prs.l x = -1)) ent98 (fun u2 h2 i a0 a1 => isF_c tb r z u2 ((hT.stt hu).ext h2) b2 _ ((st_blk hu (j := 4) rfl).ext h2) b182 _ _ ((st_blk hu (j := 0) rfl).ext h2) _ (by have := ha.br _ (nth_mem a0 a1); omega)))) rfl ?_
         refine WS.done ?_
         refine QS.then_AS ?_
         refine AS.take 26 rfl (by kernel_rfl) (by kernel_rfl) (by kernel_rfl) rfl rfl (det_pick_and rfl rfl rfl) rfl rfl ?_
         refine AS.take 27 rfl (by kernel_rfl) (by kernel_rfl) (by kernel_rfl) rfl rfl (det_move rfl) rfl rfl ?_
         refine AS.takeT 28 rfl (by kernel_rfl) (by kernel_rfl) (by kernel_rfl) rfl rfl rfl (fun hg => (by first | exact det_loadb (j := 2) rfl rfl rfl tk85 | exact det_loadw rfl (by assumption) rfl tk85)) rfl rfl ?_
         refine AS.takeT 29 rfl (by kernel_rfl) (by kernel_rfl) (by kernel_rfl) rfl rfl rfl (fun hg => (by first | exact det_fieldAddr rfl fo52_0 | exact det_fieldAddrS rfl fo52_0)) rfl rfl ?_
         refine AS.takeT 30 rfl (by kernel_rfl) (by kernel_rfl) (by kernel_rfl) rfl rfl rfl (fun hg => (by first | exact det_loadb (j := 1) (ev_cond hg rfl) rfl rfl tk3 | exact det_loadw (ev_cond hg rfl) (by assumption) rfl tk3)) rfl rfl ?_
         refine AS.takeT 31 rfl (by kernel_rfl) (by kernel_rfl) (by kernel_rfl) rfl rfl rfl (fun hg => det_callB rfl (evs_cons (ev_cond hg rfl) (evs_cons (ev_cond hg rfl) evs_nil)) ent101 (fun u hu => ihand_c tb r z u (hT.stt hu) m.p (by omega) (by omega) (by omega))) rfl rfl ?_
         refine AS.takeT 32 rfl (by kernel_rfl) (by kernel_rfl) (by kernel_rfl) rfl rfl rfl (fun hg => (by first | exact det_fieldAddr rfl fo77_6 | exact det_fieldAddrS rfl fo77_6)) rfl rfl ?_
         refine AS.takeT 33 rfl (by kernel_rfl) (by kernel_rfl) (by kernel_rfl) rfl rfl rfl (fun hg => (by first | exact det_loadb (j := 0) (ev_cond hg rfl) rfl rfl tk35 | exact det_loadw (ev_cond hg rfl) (by assumption) rfl tk35)) rfl rfl ?_
         refine AS.takeT 34 rfl (by kernel_rfl) (by kernel_rfl) (by kernel_rfl) rfl rfl rfl (fun hg => (by first | exact det_lenS sl35 (ev_cond hg rfl) (by assumption) | exact det_lenS sl35 (ev_cond hg rfl) (by first | exact SlL.sp (by assumption) | exact ClS.sp (by assumption)) | exact det_lenO sl35 (ev_cond hg rfl) | exact det_lenV sl35 (ev_cond hg rfl) ⟨_, _, rfl⟩)) rfl rfl ?_
         refine AS.takeT 35 rfl (by kernel_rfl) (by kernel_rfl) (by kernel_rfl) rfl rfl rfl (fun hg => det_sub (ev_cond hg rfl) (ev_cond hg rfl) (by (try simp only [bq] at hg); omega)) rfl rfl ?_
         refine AS.takeT 36 rfl (by kernel_rfl) (by kernel_rfl) (by kernel_rfl) rfl rfl rfl (fun hg => (by first | exact det_fieldAddr rfl fo77_7 | exact det_fieldAddrS rfl fo77_7)) rfl rfl ?_
         refine AS.takeT 37 rfl (by kernel_rfl) (by kernel_rfl) (by kernel_rfl) rfl rfl rfl (fun hg => (by first | exact det_loadb (j := 0) (ev_cond hg rfl) rfl rfl tk35 | exact det_loadw (ev_cond hg rfl) (by assumption) rfl tk35)) rfl rfl ?_
         refine AS.takeT 38 rfl (by kernel_rfl) (by kernel_rfl) (by kernel_rfl) rfl rfl rfl (fun hg => (by first | exact det_lenS sl35 (ev_cond hg rfl) (by assumption) | exact det_lenS sl35 (ev_cond hg rfl) (by first | exact SlL.sp (by assumption) | exact ClS.sp (by assumption)) | exact det_lenO sl35 (ev_cond hg rfl) | exact det_lenV sl35 (ev_cond hg rfl) ⟨_, _, rfl⟩)) rfl rfl ?_
         refine AS.takeT 39 rfl (by kernel_rfl) (by kernel_rfl) (by kernel_rfl) rfl rfl rfl (fun hg => det_add (ev_cond hg rfl) (ev_cond hg rfl) (by (try simp only [bq] at hg); omega)) rfl rfl ?_
         refine AS.takeT 40 rfl (by kernel_rfl) (by kernel_rfl) (by kernel_rfl) rfl rfl rfl (fun hg => det_le (ev_cond hg rfl) rfl) rfl rfl ?_
         refine AS.take 41 rfl (by kernel_rfl) (by kernel_rfl) (by kernel_rfl) rfl rfl (det_pick_and rfl rfl rfl) rfl rfl ?_
         refine AS.take 42 rfl (by kernel_rfl) (by kernel_rfl) (by kernel_rfl) rfl rfl (det_assign rfl) rfl rfl ?_
         refine AS.done (by kernel_rfl) (by first | exact fun _ h => h | exact fun _ h => h.sub (by repeat first | exact List.Sublist.refl _ | apply List.Sublist.cons_cons | apply List.Sublist.cons)) ?_
         refine QS.then_code ?_
         refine CS.ret ?_
         refine QS.block_ret ?_
         refine QS.then_ret ?_
         exact out1 rfl rfl (retBe (by
            unfold legalB; rw [if_pos hp, if_neg hc2, if_neg hc4, if_neg hc5, if_pos hc6]; unfold doB; rw [show (decide (0 ≤ m.n) && decide (m.n ≤ (r.acs.l.length : Int) - 1)) = true by (simp only [Bool.and_eq_true, decide_eq_true_eq]; omega)]
            simp only [Bool.and_eq_true] at hd
            rw [show usesB z.x (nth r.acs.l m.n) m = true from (all_nth (p := fun x => decide (nth z.prs.l x = -2 - m.p))).symm.trans hd.1, show bringB z.x (nth r.acs.l m.n) = _ from (all_nth (p := fun x => decide (nth z.prs.l x = -1))).symm]
            unfold roomB
            rw [show decide ((nth r.acs.l m.n).pl = nth z.x.2.2 m.p) = true from hb, show holdB z.x.1 (nth r.acs.l m.n).wh.l = true from hd.2]
            simp only [Bool.true_and]
            rfl))
        ·
         refine CS.drawnAll (k := 43) mixed rfl rfl ?_
         refine AS.take 0 rfl (by kernel_rfl) (by kernel_rfl) (by kernel_rfl) rfl rfl ((by first | exact det_fieldAddr rfl fo77_1 | exact det_fieldAddrS rfl fo77_1)) rfl rfl ?_
         refine AS.take 1 rfl (by kernel_rfl) (by kernel_rfl) (by kernel_rfl) rfl rfl ((by first | exact det_loadb (j := 0) rfl rfl rfl tk3 | exact det_loadw rfl (by assumption) rfl tk3)) rfl rfl ?_
         refine AS.take 2 rfl (by kernel_rfl) (by kernel_rfl) (by kernel_rfl) rfl rfl (det_move rfl) rfl rfl ?_
         refine AS.take 3 rfl (by kernel_rfl) (by kernel_rfl) (by kernel_rfl) rfl rfl (det_eq rfl rfl) rfl rfl ?_
         refine AS.take 4 rfl (by kernel_rfl) (by kernel_rfl) (by kernel_rfl) rfl rfl (det_move (v := .bool true) (congrArg (fun b => some (Value.bool b)) hb)) rfl rfl ?_
         refine AS.takeT 5 rfl (by kernel_rfl) (by kernel_rfl) (by kernel_rfl) rfl rfl rfl (fun hg => det_move rfl) rfl rfl ?_
         refine AS.takeT 6 rfl (by kernel_rfl) (by kernel_rfl) (by kernel_rfl) rfl rfl rfl (fun hg => (by first | exact det_fieldAddr rfl fo77_3 | exact det_fieldAddrS rfl fo77_3)) rfl rfl ?_
         refine AS.takeT 7 rfl (by kernel_rfl) (by kernel_rfl) (by kernel_rfl) rfl rfl rfl (fun hg => (by first | exact det_loadb (j := 0) (ev_cond hg rfl) rfl rfl tk35 | exact det_loadw (ev_cond hg rfl) (by assumption) rfl tk35)) rfl rfl ?_
         refine AS.takeT 8 rfl (by kernel_rfl) (by kernel_rfl) (by kernel_rfl) rfl rfl rfl (fun hg => det_move rfl) rfl rfl ?_
         refine AS.takeT 9 rfl (by kernel_rfl) (by kernel_rfl) (by kernel_rfl) rfl rfl rfl (fun hg => det_move rfl) rfl rfl ?_
         refine AS.one (i := 10) (by kernel_rfl) rfl (by first | exact fun _ h => h | exact fun _ h => h.sub (by repeat first | exact List.Sublist.refl _ | apply List.Sublist.cons_cons | apply List.Sublist.cons)) rfl ?_
         refine WS.callFg rfl rfl rfl ent97 (fun u hu => is_c (-2 - m.p) u b2) (fun _ => rfl) ?_; intro b168 hb168
         refine WS.done ?_
         refine QS.then_AS ?_
         refine AS.one (i := 11) (by kernel_rfl) rfl (by first | exact fun _ h => h | exact fun _ h => h.sub (by repeat first | exact List.Sublist.refl _ | apply List.Sublist.cons_cons | apply List.Sublist.cons)) rfl ?_
         refine WS.guardT rfl rfl rfl rfl (fun hg => det_callB (ev_cond hg rfl) (evs_cons (ev_cond hg rfl) (evs_cons rfl evs_nil)) ent99 (fun u hu => all_c (nth r.acs.l m.n).us u (hak.us.st hu) _ [.pointer (some ⟨b2, 0, none⟩), .pointer (some ⟨b168, 0, none⟩)] (fun x => decide (nth z.prs.l x = -2 - m.p)) ent98 (fun u2 h2 i a0 a1 => isF_c tb r z u2 ((hT.stt hu).ext h2) b2 _ ((st_blk hu (j := 3) rfl).ext h2) b168 _ _ ((st_blk hu (j := 0) rfl).ext h2) _ (by have := ha.us _ (nth_mem a0 a1); omega)))) rfl ?_
         refine WS.done ?_
         refine QS.then_AS ?_
         refine AS.take 12 rfl (by kernel_rfl) (by kernel_rfl) (by kernel_rfl) rfl rfl (det_pick_and rfl rfl rfl) rfl rfl ?_
         refine AS.take 13 rfl (by kernel_rfl) (by kernel_rfl) (by kernel_rfl) rfl rfl (det_move rfl) rfl rfl ?_
         refine AS.takeT 14 rfl (by kernel_rfl) (by kernel_rfl) (by kernel_rfl) rfl rfl rfl (fun hg => (by first | exact det_loadb (j := 2) rfl rfl rfl tk85 | exact det_loadw rfl (by assumption) rfl tk85)) rfl rfl ?_
         refine AS.takeT 15 rfl (by kernel_rfl) (by kernel_rfl) (by kernel_rfl) rfl rfl rfl (fun hg => (by first | exact det_fieldAddr rfl fo77_4 | exact det_fieldAddrS rfl fo77_4)) rfl rfl ?_
         refine AS.takeT 16 rfl (by kernel_rfl) (by kernel_rfl) (by kernel_rfl) rfl rfl rfl (fun hg => (by first | exact det_loadb (j := 0) (ev_cond hg rfl) rfl rfl tk29 | exact det_loadw (ev_cond hg rfl) (by assumption) rfl tk29)) rfl rfl ?_
         refine AS.takeT 17 rfl (by kernel_rfl) (by kernel_rfl) (by kernel_rfl) rfl rfl rfl (fun hg => det_callB rfl (evs_cons (ev_cond hg rfl) (evs_cons (ev_cond hg rfl) evs_nil)) ent74 (fun u hu => holds_c tb r z u (hT.stt hu) (nth r.acs.l m.n).wh (hak.wh.st hu) (by rw [hlt]; exact ha.wh))) rfl rfl ?_
         refine AS.take 18 rfl (by kernel_rfl) (by kernel_rfl) (by kernel_rfl) rfl rfl (det_pick_and rfl rfl rfl) rfl rfl ?_
         refine AS.take 19 rfl (by kernel_rfl) (by kernel_rfl) (by kernel_rfl) rfl rfl (det_move rfl) rfl rfl ?_
         refine AS.takeT 20 rfl (by kernel_rfl) (by kernel_rfl) (by kernel_rfl) rfl rfl rfl (fun hg => (show Det _ _ _ _ undef from by first | exact Bool.noConfusion (hd.symm.trans hg) | (rw [hd] at hg; simp at hg; done) | (simp [hd] at hg; done))) rfl rfl ?_
         refine AS.takeT 21 rfl (by kernel_rfl) (by kernel_rfl) (by kernel_rfl) rfl rfl rfl (fun hg => (show Det _ _ _ _ undef from by first | exact Bool.noConfusion (hd.symm.trans hg) | (rw [hd] at hg; simp at hg; done) | (simp [hd] at hg; done))) rfl rfl ?_
         refine AS.takeT 22 rfl (by kernel_rfl) (by kernel_rfl) (by kernel_rfl) rfl rfl rfl (fun hg => (show Det _ _ _ _ undef from by first | exact Bool.noConfusion (hd.symm.trans hg) | (rw [hd] at hg; simp at hg; done) | (simp [hd] at hg; done))) rfl rfl ?_
         refine AS.takeT 23 rfl (by kernel_rfl) (by kernel_rfl) (by kernel_rfl) rfl rfl rfl (fun hg => (show Det _ _ _ _ undef from by first | exact Bool.noConfusion (hd.symm.trans hg) | (rw [hd] at hg; simp at hg; done) | (simp [hd] at hg; done))) rfl rfl ?_
         refine AS.takeT 24 rfl (by kernel_rfl) (by kernel_rfl) (by kernel_rfl) rfl rfl rfl (fun hg => (show Det _ _ _ _ undef from by first | exact Bool.noConfusion (hd.symm.trans hg) | (rw [hd] at hg; simp at hg; done) | (simp [hd] at hg; done))) rfl rfl ?_
         refine AS.takeT 25 rfl (by kernel_rfl) (by kernel_rfl) (by kernel_rfl) rfl rfl rfl (fun hg => (show Det _ _ _ _ (.bool false) from by first | exact Bool.noConfusion (hd.symm.trans hg) | (rw [hd] at hg; simp at hg; done) | (simp [hd] at hg; done))) rfl rfl ?_
         refine AS.take 26 rfl (by kernel_rfl) (by kernel_rfl) (by kernel_rfl) rfl rfl (det_pick_and rfl rfl rfl) rfl rfl ?_
         refine AS.take 27 rfl (by kernel_rfl) (by kernel_rfl) (by kernel_rfl) rfl rfl (det_move rfl) rfl rfl ?_
         refine AS.takeT 28 rfl (by kernel_rfl) (by kernel_rfl) (by kernel_rfl) rfl rfl rfl (fun hg => (show Det _ _ _ _ undef from by first | exact Bool.noConfusion (hd.symm.trans hg) | (rw [hd] at hg; simp at hg; done) | (simp [hd] at hg; done))) rfl rfl ?_
         refine AS.takeT 29 rfl (by kernel_rfl) (by kernel_rfl) (by kernel_rfl) rfl rfl rfl (fun hg => (show Det _ _ _ _ undef from by first | exact Bool.noConfusion (hd.symm.trans hg) | (rw [hd] at hg; simp at hg; done) | (simp [hd] at hg; done))) rfl rfl ?_
         refine AS.takeT 30 rfl (by kernel_rfl) (by kernel_rfl) (by kernel_rfl) rfl rfl rfl (fun hg => (show Det _ _ _ _ undef from by first | exact Bool.noConfusion (hd.symm.trans hg) | (rw [hd] at hg; simp at hg; done) | (simp [hd] at hg; done))) rfl rfl ?_
         refine AS.takeT 31 rfl (by kernel_rfl) (by kernel_rfl) (by kernel_rfl) rfl rfl rfl (fun hg => (show Det _ _ _ _ undef from by first | exact Bool.noConfusion (hd.symm.trans hg) | (rw [hd] at hg; simp at hg; done) | (simp [hd] at hg; done))) rfl rfl ?_
         refine AS.takeT 32 rfl (by kernel_rfl) (by kernel_rfl) (by kernel_rfl) rfl rfl rfl (fun hg => (show Det _ _ _ _ undef from by first | exact Bool.noConfusion (hd.symm.trans hg) | (rw [hd] at hg; simp at hg; done) | (simp [hd] at hg; done))) rfl rfl ?_
         refine AS.takeT 33 rfl (by kernel_rfl) (by kernel_rfl) (by kernel_rfl) rfl rfl rfl (fun hg => (show Det _ _ _ _ undef from by first | exact Bool.noConfusion (hd.symm.trans hg) | (rw [hd] at hg; simp at hg; done) | (simp [hd] at hg; done))) rfl rfl ?_
         refine AS.takeT 34 rfl (by kernel_rfl) (by kernel_rfl) (by kernel_rfl) rfl rfl rfl (fun hg => (show Det _ _ _ _ undef from by first | exact Bool.noConfusion (hd.symm.trans hg) | (rw [hd] at hg; simp at hg; done) | (simp [hd] at hg; done))) rfl rfl ?_
         refine AS.takeT 35 rfl (by kernel_rfl) (by kernel_rfl) (by kernel_rfl) rfl rfl rfl (fun hg => (show Det _ _ _ _ undef from by first | exact Bool.noConfusion (hd.symm.trans hg) | (rw [hd] at hg; simp at hg; done) | (simp [hd] at hg; done))) rfl rfl ?_
         refine AS.takeT 36 rfl (by kernel_rfl) (by kernel_rfl) (by kernel_rfl) rfl rfl rfl (fun hg => (show Det _ _ _ _ undef from by first | exact Bool.noConfusion (hd.symm.trans hg) | (rw [hd] at hg; simp at hg; done) | (simp [hd] at hg; done))) rfl rfl ?_
         refine AS.takeT 37 rfl (by kernel_rfl) (by kernel_rfl) (by kernel_rfl) rfl rfl rfl (fun hg => (show Det _ _ _ _ undef from by first | exact Bool.noConfusion (hd.symm.trans hg) | (rw [hd] at hg; simp at hg; done) | (simp [hd] at hg; done))) rfl rfl ?_
         refine AS.takeT 38 rfl (by kernel_rfl) (by kernel_rfl) (by kernel_rfl) rfl rfl rfl (fun hg => (show Det _ _ _ _ undef from by first | exact Bool.noConfusion (hd.symm.trans hg) | (rw [hd] at hg; simp at hg; done) | (simp [hd] at hg; done))) rfl rfl ?_
         refine AS.takeT 39 rfl (by kernel_rfl) (by kernel_rfl) (by kernel_rfl) rfl rfl rfl (fun hg => (show Det _ _ _ _ undef from by first | exact Bool.noConfusion (hd.symm.trans hg) | (rw [hd] at hg; simp at hg; done) | (simp [hd] at hg; done))) rfl rfl ?_
         refine AS.takeT 40 rfl (by kernel_rfl) (by kernel_rfl) (by kernel_rfl) rfl rfl rfl (fun hg => (show Det _ _ _ _ (.bool false) from by first | exact Bool.noConfusion (hd.symm.trans hg) | (rw [hd] at hg; simp at hg; done) | (simp [hd] at hg; done))) rfl rfl ?_
         refine AS.take 41 rfl (by kernel_rfl) (by kernel_rfl) (by kernel_rfl) rfl rfl (det_pick_and rfl rfl rfl) rfl rfl ?_
         refine AS.take 42 rfl (by kernel_rfl) (by kernel_rfl) (by kernel_rfl) rfl rfl (det_assign rfl) rfl rfl ?_
         refine AS.done (by kernel_rfl) (by first | exact fun _ h => h | exact fun _ h => h.sub (by repeat first | exact List.Sublist.refl _ | apply List.Sublist.cons_cons | apply List.Sublist.cons)) ?_
         refine QS.then_code ?_
         refine CS.ret ?_
         refine QS.block_ret ?_
         refine QS.then_ret ?_
         exact out1 rfl rfl (retBe (by
            unfold legalB; rw [if_pos hp, if_neg hc2, if_neg hc4, if_neg hc5, if_pos hc6]; unfold doB roomB; rw [show usesB z.x (nth r.acs.l m.n) m = _ from (all_nth (p := fun x => decide (nth z.prs.l x = -2 - m.p))).symm]
            simp only [Bool.and_false, Bool.false_and]
            simp only [Bool.and_eq_false_iff] at hd
            rcases hd with h | h
            ·
             rw [h]; simp
            ·
             rw [show holdB z.x.1 (nth r.acs.l m.n).wh.l = false from h]; simp))
       ·
        refine CS.draw mixed (by kernel_rfl) (by kernel_rfl) ?_
        refine DS.det rfl rfl ((by first | exact det_fieldAddr rfl fo77_1 | exact det_fieldAddrS rfl fo77_1)) rfl ?_
        refine DS.det rfl rfl ((by first | exact det_loadb (j := 0) rfl rfl rfl tk3 | exact det_loadw rfl (by assumption) rfl tk3)) rfl ?_
        refine DS.det rfl rfl (det_move rfl) rfl ?_
        refine DS.det rfl rfl (det_eq rfl rfl) rfl ?_
        refine DS.det rfl rfl (det_move rfl) rfl ?_
        refine DS.guardT rfl rfl rfl (fun hg => (show Det _ _ _ _ undef from by first | exact Bool.noConfusion (hb.symm.trans hg) | (rw [hb] at hg; simp at hg; done) | (simp [hb] at hg; done))) rfl ?_
        refine DS.guardT rfl rfl rfl (fun hg => (show Det _ _ _ _ undef from by first | exact Bool.noConfusion (hb.symm.trans hg) | (rw [hb] at hg; simp at hg; done) | (simp [hb] at hg; done))) rfl ?_
        refine DS.guardT rfl rfl rfl (fun hg => (show Det _ _ _ _ undef from by first | exact Bool.noConfusion (hb.symm.trans hg) | (rw [hb] at hg; simp at hg; done) | (simp [hb] at hg; done))) rfl ?_
        refine DS.guardT rfl rfl rfl (fun hg => (show Det _ _ _ _ undef from by first | exact Bool.noConfusion (hb.symm.trans hg) | (rw [hb] at hg; simp at hg; done) | (simp [hb] at hg; done))) rfl ?_
        refine DS.guardT rfl rfl rfl (fun hg => (show Det _ _ _ _ undef from by first | exact Bool.noConfusion (hb.symm.trans hg) | (rw [hb] at hg; simp at hg; done) | (simp [hb] at hg; done))) rfl ?_
        refine DS.guardT rfl rfl rfl (fun hg => (show Det _ _ _ _ undef from by first | exact Bool.noConfusion (hb.symm.trans hg) | (rw [hb] at hg; simp at hg; done) | (simp [hb] at hg; done))) rfl ?_
        refine DS.guardT rfl rfl rfl (fun hg => (show Det _ _ _ _ (.bool false) from by first | exact Bool.noConfusion (hb.symm.trans hg) | (rw [hb] at hg; simp at hg; done) | (simp [hb] at hg; done))) rfl ?_
        refine DS.det rfl rfl (det_pick_and rfl rfl rfl) rfl ?_
        refine DS.det rfl rfl (det_move rfl) rfl ?_
        refine DS.guardT rfl rfl rfl (fun hg => (show Det _ _ _ _ undef from by first | exact Bool.noConfusion (hb.symm.trans hg) | (rw [hb] at hg; simp at hg; done) | (simp [hb] at hg; done))) rfl ?_
        refine DS.guardT rfl rfl rfl (fun hg => (show Det _ _ _ _ undef from by first | exact Bool.noConfusion (hb.symm.trans hg) | (rw [hb] at hg; simp at hg; done) | (simp [hb] at hg; done))) rfl ?_
        refine DS.guardT rfl rfl rfl (fun hg => (show Det _ _ _ _ undef from by first | exact Bool.noConfusion (hb.symm.trans hg) | (rw [hb] at hg; simp at hg; done) | (simp [hb] at hg; done))) rfl ?_
        refine DS.guardT rfl rfl rfl (fun hg => (show Det _ _ _ _ (.bool false) from by first | exact Bool.noConfusion (hb.symm.trans hg) | (rw [hb] at hg; simp at hg; done) | (simp [hb] at hg; done))) rfl ?_
        refine DS.det rfl rfl (det_pick_and rfl rfl rfl) rfl ?_
        refine DS.det rfl rfl (det_move rfl) rfl ?_
        refine DS.guardT rfl rfl rfl (fun hg => (show Det _ _ _ _ undef from by first | exact Bool.noConfusion (hb.symm.trans hg) | (rw [hb] at hg; simp at hg; done) | (simp [hb] at hg; done))) rfl ?_
        refine DS.guardT rfl rfl rfl (fun hg => (show Det _ _ _ _ undef from by first | exact Bool.noConfusion (hb.symm.trans hg) | (rw [hb] at hg; simp at hg; done) | (simp [hb] at hg; done))) rfl ?_
        refine DS.guardT rfl rfl rfl (fun hg => (show Det _ _ _ _ undef from by first | exact Bool.noConfusion (hb.symm.trans hg) | (rw [hb] at hg; simp at hg; done) | (simp [hb] at hg; done))) rfl ?_
        refine DS.guardT rfl rfl rfl (fun hg => (show Det _ _ _ _ undef from by first | exact Bool.noConfusion (hb.symm.trans hg) | (rw [hb] at hg; simp at hg; done) | (simp [hb] at hg; done))) rfl ?_
        refine DS.guardT rfl rfl rfl (fun hg => (show Det _ _ _ _ undef from by first | exact Bool.noConfusion (hb.symm.trans hg) | (rw [hb] at hg; simp at hg; done) | (simp [hb] at hg; done))) rfl ?_
        refine DS.guardT rfl rfl rfl (fun hg => (show Det _ _ _ _ (.bool false) from by first | exact Bool.noConfusion (hb.symm.trans hg) | (rw [hb] at hg; simp at hg; done) | (simp [hb] at hg; done))) rfl ?_
        refine DS.det rfl rfl (det_pick_and rfl rfl rfl) rfl ?_
        refine DS.det rfl rfl (det_move rfl) rfl ?_
        refine DS.guardT rfl rfl rfl (fun hg => (show Det _ _ _ _ undef from by first | exact Bool.noConfusion (hb.symm.trans hg) | (rw [hb] at hg; simp at hg; done) | (simp [hb] at hg; done))) rfl ?_
        refine DS.guardT rfl rfl rfl (fun hg => (show Det _ _ _ _ undef from by first | exact Bool.noConfusion (hb.symm.trans hg) | (rw [hb] at hg; simp at hg; done) | (simp [hb] at hg; done))) rfl ?_
        refine DS.guardT rfl rfl rfl (fun hg => (show Det _ _ _ _ undef from by first | exact Bool.noConfusion (hb.symm.trans hg) | (rw [hb] at hg; simp at hg; done) | (simp [hb] at hg; done))) rfl ?_
        refine DS.guardT rfl rfl rfl (fun hg => (show Det _ _ _ _ undef from by first | exact Bool.noConfusion (hb.symm.trans hg) | (rw [hb] at hg; simp at hg; done) | (simp [hb] at hg; done))) rfl ?_
        refine DS.guardT rfl rfl rfl (fun hg => (show Det _ _ _ _ undef from by first | exact Bool.noConfusion (hb.symm.trans hg) | (rw [hb] at hg; simp at hg; done) | (simp [hb] at hg; done))) rfl ?_
        refine DS.guardT rfl rfl rfl (fun hg => (show Det _ _ _ _ undef from by first | exact Bool.noConfusion (hb.symm.trans hg) | (rw [hb] at hg; simp at hg; done) | (simp [hb] at hg; done))) rfl ?_
        refine DS.guardT rfl rfl rfl (fun hg => (show Det _ _ _ _ undef from by first | exact Bool.noConfusion (hb.symm.trans hg) | (rw [hb] at hg; simp at hg; done) | (simp [hb] at hg; done))) rfl ?_
        refine DS.guardT rfl rfl rfl (fun hg => (show Det _ _ _ _ undef from by first | exact Bool.noConfusion (hb.symm.trans hg) | (rw [hb] at hg; simp at hg; done) | (simp [hb] at hg; done))) rfl ?_
        refine DS.guardT rfl rfl rfl (fun hg => (show Det _ _ _ _ undef from by first | exact Bool.noConfusion (hb.symm.trans hg) | (rw [hb] at hg; simp at hg; done) | (simp [hb] at hg; done))) rfl ?_
        refine DS.guardT rfl rfl rfl (fun hg => (show Det _ _ _ _ undef from by first | exact Bool.noConfusion (hb.symm.trans hg) | (rw [hb] at hg; simp at hg; done) | (simp [hb] at hg; done))) rfl ?_
        refine DS.guardT rfl rfl rfl (fun hg => (show Det _ _ _ _ undef from by first | exact Bool.noConfusion (hb.symm.trans hg) | (rw [hb] at hg; simp at hg; done) | (simp [hb] at hg; done))) rfl ?_
        refine DS.guardT rfl rfl rfl (fun hg => (show Det _ _ _ _ undef from by first | exact Bool.noConfusion (hb.symm.trans hg) | (rw [hb] at hg; simp at hg; done) | (simp [hb] at hg; done))) rfl ?_
        refine DS.guardT rfl rfl rfl (fun hg => (show Det _ _ _ _ (.bool false) from by first | exact Bool.noConfusion (hb.symm.trans hg) | (rw [hb] at hg; simp at hg; done) | (simp [hb] at hg; done))) rfl ?_
        refine DS.det rfl rfl (det_pick_and rfl rfl rfl) rfl ?_
        refine DS.det rfl rfl (det_assign rfl) rfl ?_
        refine DS.done ?_
        refine QS.then_code ?_
        refine CS.ret ?_
        refine QS.block_ret ?_
        refine QS.then_ret ?_
        exact out1 rfl rfl (retBe (by unfold legalB; rw [if_pos hp, if_neg hc2, if_neg hc4, if_neg hc5, if_pos hc6]; unfold doB roomB; rw [show decide ((nth r.acs.l m.n).pl = nth z.x.2.2 m.p) = false from hb]; simp))
     ·
      refine CS.skip ?_
      refine QS.block_normal ?_
      refine QS.then_code ?_
      refine N3 ?_
      refine WS.det rfl rfl rfl (det_assign rfl) rfl ?_
      refine N4 ?_
      refine CS.ret ?_
      exact out1 rfl rfl (retBe (by unfold legalB; rw [if_pos hp, if_neg hc2, if_neg hc4, if_neg hc5, if_neg hc6]))
end Go.Proofs.YtgbofmnbakfalaaDoor
