/- Merged texts of this proof (walks and plain laws), printed by a program of the prover. -/
import Derived.Test.YtgbofmnbakfalaaDoorKi
import Derived.Test.YtgbofmnbakfalaaDoorKb
import Derived.Test.YtgbofmnbakfalaaDoorKj
import Derived.Test.YtgbofmnbakfalaaDoorKc
import Derived.Test.YtgbofmnbakfalaaDoorKe
namespace Go.Proofs.YtgbofmnbakfalaaDoor
open Go.RowKit Go.Proofs
set_option maxRecDepth 100000
set_option linter.unusedVariables false
set_option linter.unusedSimpArgs false
def mvV (x : Move) : Value := .agg #[.int .i64 x.p, .int .i64 x.k, .int .i64 x.n]
set_option maxHeartbeats 1000000 in
theorem movesI_c (r : Room) (w : World) (hr : RoomOk w r) (hR : Ready r) (b : Nat) :
  Iter Tryd.prog w 96 [.pointer (some ⟨b, 0, none⟩)] [blk b [r.pls.v, r.ths.v, r.prs.v, r.wys.v, r.acs.v, r.aus.v, .int .i64 r.ply, r.gl.v] 31] (fun v x => fact (v = mvV x)) (allM r r.ply.toNat) := by
 intro lp C Cx hy u hu
 have kpl := hr.pls
 have lpl := hr.pls.le
 have kth := hr.ths
 have lth := hr.ths.le
 have kpr := hr.prs
 have lpr := hr.prs.le
 have kwy := hr.wys
 have lwy := hr.wys.le
 have kac := hr.acs
 have lac := hr.acs.le
 have kau := hr.aus
 have lau := hr.aus.le
 have kgl := hr.gl
 have lgl := hr.gl.le
 have hply := hR.ply
 have hlen := hR.lens
 have hc5 : (cntL r).length = 5 := rfl
 refine enterI hu Tryd.func96 rfl rfl (Nat.le_of_ble_eq_true rfl) ?_
 refine N3 ?_
 refine WS.det rfl rfl rfl ((by first | exact det_fieldAddr rfl fo31_6 | exact det_fieldAddrS rfl fo31_6)) rfl ?_
 refine WS.det rfl rfl rfl ((by first | exact det_loadb (j := 1) rfl rfl rfl tk3 | exact det_loadw rfl (by assumption) rfl tk3)) rfl ?_
 refine WS.det rfl rfl rfl (det_move rfl) rfl ?_
 refine N4 ?_
 refine CS.block ?_
 refine CS.loopM (σ := Int) [3, 4, 5, 6, 10, 11, 12, 13, 14, 15, 16, 17, 18, 19, 20, 21, 22, 23, 24, 25, 26, 27, 28, 29, 30, 31, 32, 33, 34, 35, 36, 37, 38, 39, 40, 41, 42, 43, 44] (fun s => [(9, .int .i64 s)]) (fun s => [C (upM r s 0 0), blk b [r.pls.v, r.ths.v, r.prs.v, r.wys.v, r.acs.v, r.aus.v, .int .i64 r.ply, r.gl.v] 31]) (fun s => 0 ≤ s ∧ s ≤ r.ply) (fun s => (r.ply - s).toNat) 0 (fun _ _ => rfl) rfl rfl ⟨by omega, by omega⟩ ?_
 intro p t hs
 obtain ⟨hp1, hp2⟩ := hs
 refine N3 ?_
 refine WS.det rfl rfl rfl (det_lt rfl rfl) rfl ?_
 refine N4 ?_
 refine CS.seq ?_
 refine CS.cond rfl (fun hc1 => ?_) (fun hc1 => ?_) <;> (try simp only [bq] at hc1)
 ·
  refine CS.skip ?_
  refine QS.then_code ?_
  refine CS.seq ?_
  refine CS.block ?_
  refine N3 ?_
  refine WS.det rfl rfl rfl (det_move rfl) rfl ?_
  refine WS.det rfl rfl rfl (det_assign rfl) rfl ?_
  refine N1 ?_
  refine WS.det rfl rfl rfl ((by first | exact det_fieldAddr rfl fo31_3 | exact det_fieldAddrS rfl fo31_3)) rfl ?_
  refine WS.det rfl rfl rfl ((by first | exact det_loadb (j := 1) rfl rfl rfl tk25 | exact det_loadw rfl (by assumption) rfl tk25)) rfl ?_
  refine WS.det rfl rfl rfl (det_lenU sl25 rfl (by assumption)) rfl ?_
  refine WS.det rfl rfl rfl ((by first | exact det_fieldAddr rfl fo31_2 | exact det_fieldAddrS rfl fo31_2)) rfl ?_
  refine WS.det rfl rfl rfl ((by first | exact det_loadb (j := 1) rfl rfl rfl tk24 | exact det_loadw rfl (by assumption) rfl tk24)) rfl ?_
  refine WS.det rfl rfl rfl (det_lenU sl24 rfl (by assumption)) rfl ?_
  refine WS.det rfl rfl rfl ((by first | exact det_fieldAddr rfl fo31_2 | exact det_fieldAddrS rfl fo31_2)) rfl ?_
  refine WS.det rfl rfl rfl ((by first | exact det_loadb (j := 1) rfl rfl rfl tk24 | exact det_loadw rfl (by assumption) rfl tk24)) rfl ?_
  refine WS.det rfl rfl rfl (det_lenU sl24 rfl (by assumption)) rfl ?_
  refine WS.det rfl rfl rfl ((by first | exact det_fieldAddr rfl fo31_4 | exact det_fieldAddrS rfl fo31_4)) rfl ?_
  refine WS.det rfl rfl rfl ((by first | exact det_loadb (j := 1) rfl rfl rfl tk26 | exact det_loadw rfl (by assumption) rfl tk26)) rfl ?_
  refine WS.det rfl rfl rfl (det_lenU sl26 rfl (by assumption)) rfl ?_
  refine WS.buildHole sl35 zv3 rfl rfl rfl rfl (fun _ => rfl) ?_; intro v24
  refine WS.det rfl rfl rfl (det_lenOI (xs := cntL r) (j := 0) sl35 rfl rfl) rfl ?_
  refine WS.det rfl rfl rfl (det_move rfl) rfl ?_
  refine N4 ?_
  refine CS.block ?_
  refine CS.sel [1, 0, 0] rfl ?_
  refine CS.loopM (σ := Int) [4, 5, 6, 27, 28, 29, 30, 31, 32, 33, 34, 35, 36, 37, 38, 39, 40, 41, 42, 43] (fun s => [(26, .int .i64 s)]) (fun s => [C (upM r p s 0), oints 3 v24 (cntL r), blk b [r.pls.v, r.ths.v, r.prs.v, r.wys.v, r.acs.v, r.aus.v, .int .i64 r.ply, r.gl.v] 31]) (fun s => 0 ≤ s ∧ s ≤ 5) (fun s => (5 - s).toNat) 0 (fun _ _ => rfl) rfl rfl ⟨by omega, by omega⟩ ?_
  intro k t hs
  obtain ⟨hk1, hk2⟩ := hs
  refine N3 ?_
  refine WS.det rfl rfl rfl (det_lt rfl rfl) rfl ?_
  refine N4 ?_
  refine CS.seq ?_
  refine CS.cond rfl (fun hc2 => ?_) (fun hc2 => ?_) <;> (try simp only [bq] at hc2)
  ·
   have hca := cntL_at r hk1 (by omega)
   have hcm : 0 ≤ nth (cntL r) k ∧ nth (cntL r) k ≤ 24 := by
      have hbig : (cntM r k.toNat : Int) ≤ 24 := by
       rcases (show k = 0 ∨ k = 1 ∨ k = 2 ∨ k = 3 ∨ k = 4 by omega) with h | h | h | h | h <;> subst h <;> simp [cntM] <;> omega
      omega
   refine CS.skip ?_
   refine QS.then_code ?_
   refine CS.seq ?_
   refine CS.block ?_
   refine N3 ?_
   refine WS.det rfl rfl rfl (det_move rfl) rfl ?_
   refine WS.det rfl rfl rfl (det_idxOI (j := 1) sl35 rfl rfl rfl (by omega) (by omega)) rfl ?_
   refine WS.det rfl rfl rfl (det_ldOI (j := 1) rfl rfl (by omega) tk3) rfl ?_
   refine WS.det rfl rfl rfl (det_assign rfl) rfl ?_
   refine WS.det rfl rfl rfl (det_assign rfl) rfl ?_
   refine N1 ?_
   refine WS.det rfl rfl rfl (det_move rfl) rfl ?_
   refine WS.det rfl rfl rfl (det_move rfl) rfl ?_
   refine N4 ?_
   refine CS.block ?_
   refine CS.loopM (σ := Int) [6, 33, 34, 35, 36, 37, 38, 39, 40, 41, 42] (fun s => [(32, .int .i64 s)]) (fun s => [C (upM r p k s), oints 3 v24 (cntL r), blk b [r.pls.v, r.ths.v, r.prs.v, r.wys.v, r.acs.v, r.aus.v, .int .i64 r.ply, r.gl.v] 31]) (fun s => 0 ≤ s ∧ s ≤ nth (cntL r) k) (fun s => (nth (cntL r) k - s).toNat) 0 (fun _ _ => rfl) rfl rfl ⟨by omega, by omega⟩ ?_
   intro n t hs
   obtain ⟨hn1, hn2⟩ := hs
   refine N3 ?_
   refine WS.det rfl rfl rfl (det_lt rfl rfl) rfl ?_
   refine N4 ?_
   refine CS.seq ?_
   refine CS.cond rfl (fun hc3 => ?_) (fun hc3 => ?_) <;> (try simp only [bq] at hc3)
   ·
    obtain ⟨post, hspl⟩ := upM_split (r := r) (p := p) (j := k) (n := n) ⟨hp1, by omega⟩ ⟨hk1, by omega⟩ ⟨hn1, by omega⟩
    refine CS.skip ?_
    refine QS.then_code ?_
    refine CS.seq ?_
    refine CS.block ?_
    refine N3 ?_
    refine WS.det rfl rfl rfl (det_move rfl) rfl ?_
    refine WS.det rfl rfl rfl (det_assign rfl) rfl ?_
    refine N1 ?_
    refine WS.det rfl rfl rfl (det_move rfl) rfl ?_
    refine WS.det rfl rfl rfl (det_move rfl) rfl ?_
    refine WS.det rfl rfl rfl (det_move rfl) rfl ?_
    refine WS.det rfl rfl rfl (det_move rfl) rfl ?_
    refine WS.det rfl rfl rfl ((det_build1 plc52 zv52 rfl rfl (by first | (simp [Value.oneCell']; done) | ((repeat (refine List.forall_mem_cons.2 ⟨by first | rfl | assumption, ?_⟩)); exact fun _ h => absurd h List.not_mem_nil)))) rfl ?_
    refine WS.yield (L' := fun b' => [cond b' (C (upM r p k n ++ [(⟨p, k, n⟩ : Move)])) (Cx (upM r p k n ++ [(⟨p, k, n⟩ : Move)])), oints 3 v24 (cntL r), blk b [r.pls.v, r.ths.v, r.prs.v, r.wys.v, r.acs.v, r.aus.v, .int .i64 r.ply, r.gl.v] 31]) rfl rfl rfl (fun u hu => (yield_lentS (B := fact (mvV ⟨p, k, n⟩ = mvV ⟨p, k, n⟩)) (fun F' u' hu' => hy _ _ _ hspl F' _ u' hu') (hu.factI rfl)).mono (fun e u' h => let ⟨b', he, hs⟩ := h; ⟨b', he, hs.tail⟩)) (fun _ => rfl) ?_; intro b'
    refine WS.det rfl rfl rfl (det_not rfl) rfl ?_
    refine N4 ?_
    refine CS.cond rfl (fun hc4 => ?_) (fun hc4 => ?_) <;> (try simp only [bq] at hc4)
    ·
     obtain rfl : b' = false := by simpa using hc4
     refine CS.ret ?_
     refine QS.block_ret ?_
     iterate 2 refine QS.then_ret ?_
     iterate 2 refine QS.block_ret ?_
     iterate 2 refine QS.then_ret ?_
     iterate 2 refine QS.block_ret ?_
     iterate 2 refine QS.then_ret ?_
     refine QS.block_ret ?_
     exact out0 (Or.inl rfl) rfl (fun u hu => ⟨⟨_, rfl⟩, .inr ⟨_, _, _, hspl, hu.sel [0, 1] rfl⟩⟩)
    ·
     obtain rfl : b' = true := by simpa using hc4
     refine CS.skip ?_
     refine QS.block_normal ?_
     refine QS.then_code ?_
     refine CS.region ?_
     refine WS.det rfl rfl rfl (det_add rfl rfl (by omega)) rfl ?_
     refine WS.det rfl rfl rfl (det_move rfl) rfl ?_
     refine WS.done ?_
     exact QS.head (n + 1) rfl (by rw [← upM_next hn1]; rfl) ⟨⟨by omega, by omega⟩, by omega⟩
   ·
    refine CS.leave ?_
    iterate 2 refine QS.then_exit ?_
    refine QS.block_exit ?_
    refine QS.block_normal ?_
    refine QS.then_code ?_
    refine CS.region ?_
    refine WS.det rfl rfl rfl (det_add rfl rfl (by omega)) rfl ?_
    refine WS.det rfl rfl rfl (det_move rfl) rfl ?_
    refine WS.done ?_
    exact QS.head (k + 1) rfl (by rw [← upM_k hk1, ← cntL_at r hk1 (by omega), show n = nth (cntL r) k by omega]) ⟨⟨by omega, by omega⟩, by omega⟩
  ·
   refine CS.leave ?_
   iterate 2 refine QS.then_exit ?_
   refine QS.block_exit ?_
   refine QS.block_normal ?_
   refine QS.then_code ?_
   refine CS.region ?_
   refine WS.det rfl rfl rfl (det_add rfl rfl (by omega)) rfl ?_
   refine WS.det rfl rfl rfl (det_move rfl) rfl ?_
   refine WS.done ?_
   refine QS.sel [0, 1] rfl ?_
   exact QS.head (p + 1) rfl (by simp only [← upM_p hp1, show k = 5 by omega]) ⟨⟨by omega, by omega⟩, by omega⟩
 ·
  refine CS.leave ?_
  iterate 2 refine QS.then_exit ?_
  refine QS.block_exit ?_
  exact out0 (Or.inr rfl) rfl (fun u hu => ⟨⟨_, rfl⟩, .inl (by rw [← upM_all r (p := p) (by omega)]; exact hu)⟩)
theorem moves_c (r : Room) (w : World) :
  Calls Tryd.prog 67 #[.agg #[r.pls.v, r.ths.v, r.prs.v, r.wys.v, r.acs.v, r.aus.v, .int .i64 r.ply, r.gl.v]] w (fun e w' => ∃ b : Nat, True ∧ RetF w (.func (.func 96) #[] #[.pointer (some ⟨b, 0, none⟩)]) (blk b [r.pls.v, r.ths.v, r.prs.v, r.wys.v, r.acs.v, r.aus.v, .int .i64 r.ply, r.gl.v] 31) e w') := by
 refine enter Tryd.func67 rfl rfl (Nat.le_of_ble_eq_true rfl) ?_
 refine N3 ?_
 refine WS.box rfl rfl (fun _ => rfl) ?_; intro b1 hb1
 refine WS.det rfl rfl rfl (det_assign rfl) rfl ?_
 refine N1 ?_
 refine WS.det rfl rfl rfl (det_makeFunc rfl) rfl ?_
 refine WS.det rfl rfl rfl (det_assign rfl) rfl ?_
 refine N4 ?_
 refine CS.ret ?_
 exact out1 rfl rfl (fun u hu => ⟨b1, trivial, retF (j := 0) rfl u hu⟩)
end Go.Proofs.YtgbofmnbakfalaaDoor
namespace Go.Proofs.YtgbofmnbakfalaaDoor
open Go.RowKit Go.Proofs
set_option maxRecDepth 100000
set_option linter.unusedVariables false
set_option linter.unusedSimpArgs false
set_option maxHeartbeats 1000000 in
theorem ILegal_c (r : Room) (w : World) (hr : RoomOk w r) (g : Sl ByteArray) (hG : GOk w g) (hn : Near r) (z : Stt) (hz : SttOk w z) :
  Calls Tryd.prog 22 #[.agg #[r.pls.v, r.ths.v, r.prs.v, r.wys.v, r.acs.v, r.aus.v, .int .i64 r.ply, r.gl.v], .agg #[z.ths.v, z.prs.v, z.pls.v]] w (RetM w (LegalV r z.x).2 fun v => .tuple #[v, .int .i64 (LegalV r z.x).1]) := by
 refine enterM St.nil Tryd.func22 rfl rfl (Nat.le_of_ble_eq_true rfl) ?_
 refine N3 ?_
 refine WS.box rfl rfl (fun _ => rfl) ?_; intro b2 hb2
 refine WS.box rfl rfl (fun _ => rfl) ?_; intro b3 hb3
 refine WS.alloc zv45 (fun _ => rfl) ?_; intro b4 hb4
 refine WS.det rfl rfl rfl (det_assign rfl) rfl ?_
 refine N4 ?_
 refine CS.seq ?_
 refine N3 ?_
 refine WS.det rfl rfl rfl ((by first | exact det_loadb0 (j := 2) rfl rfl tk31 | exact det_loadbN (j := 2) rfl rfl (by rfl) tk31 | exact det_loadwN rfl (by assumption) (by rfl) tk31 | exact det_loadbK (n := 8) (j := 2) rfl rfl rfl rfl tk31)) rfl ?_
 refine WS.det rfl rfl rfl ((by first | exact det_loadb0 (j := 1) rfl rfl tk37 | exact det_loadbN (j := 1) rfl rfl (by rfl) tk37 | exact det_loadwN rfl (by assumption) (by rfl) tk37 | exact det_loadbK (n := 3) (j := 1) rfl rfl rfl rfl tk37)) rfl ?_
 refine WS.det rfl rfl rfl (det_callB rfl rfl ent31 (fun u hu => ICheckState_c r u (hr.st hu) g (hG.st hu) hn z (hz.st hu))) rfl ?_
 refine WS.det rfl rfl rfl (det_assign rfl) rfl ?_
 refine N1 ?_
 refine WS.det rfl rfl rfl (det_move rfl) rfl ?_
 refine WS.det rfl rfl rfl (det_ne rfl rfl) rfl ?_
 refine N4 ?_
 refine CS.cond rfl (fun hc1 => ?_) (fun hc1 => ?_) <;> (try simp only [bq] at hc1)
 ·
  have hS : ¬ stL r z.x = 0 := hc1
  refine N3 ?_
  refine WS.det rfl rfl rfl (det_move rfl) rfl ?_
  first | refine WS.store (j := 0) rfl rfl (by first | decide | omega | (simp; done) | (simp; omega) | exact Nat.le_of_ble_eq_true rfl) rfl (by first | rfl | assumption) tk45 rfl rfl ?_ | refine WS.store (j := 0) rfl rfl (by first | decide | omega | (simp; done) | (simp; omega) | exact Nat.le_of_ble_eq_true rfl) rfl (by first | rfl | assumption) tk45 (lset_eq _ _ _) rfl ?_
  refine WS.det rfl rfl rfl (det_assign rfl) rfl ?_
  refine N4 ?_
  refine CS.ret ?_
  refine QS.then_ret ?_
  exact outE (Or.inl rfl) (resct rfl (cell_rv (j := 0) rfl rfl rfl tk45) rfl) (by
    have hv : LegalV r z.x = (stL r z.x, []) := if_neg hS
    rw [hv]
    exact fun u hu => retM0 (f := fun v => .tuple #[v, .int .i64 (stL r z.x)]) hu)
 ·
  have hc1 : stateE r z = 0 := hc1
  have hc1 : stL r z.x = 0 := hc1
  have hS : stL r z.x = 0 := by omega
  obtain ⟨hC, hI⟩ := stL_in.1 hS
  have hR := ready_of hC
  have hlen := hR.lens
  have hply := hR.ply
  have hlt : z.ths.l.length = r.ths.l.length := hI.lt
  have hlp : z.prs.l.length = r.prs.l.length := hI.lp
  have hll : (z.pls.l.length : Int) = r.ply := hI.ll
  refine CS.skip ?_
  refine QS.then_code ?_
  refine N3 ?_
  refine WS.det rfl rfl rfl ((by first | exact det_loadb0 (j := 2) rfl rfl tk31 | exact det_loadbN (j := 2) rfl rfl (by rfl) tk31 | exact det_loadwN rfl (by assumption) (by rfl) tk31 | exact det_loadbK (n := 8) (j := 2) rfl rfl rfl rfl tk31)) rfl ?_
  refine WS.det rfl rfl rfl ((by first | exact det_loadb0 (j := 1) rfl rfl tk37 | exact det_loadbN (j := 1) rfl rfl (by rfl) tk37 | exact det_loadwN rfl (by assumption) (by rfl) tk37 | exact det_loadbK (n := 3) (j := 1) rfl rfl rfl rfl tk37)) rfl ?_
  refine WS.callF rfl rfl ent45 (fun u hu => lay_c r u (hr.st hu) z (hz.st hu) (hI.small hR)) (fun _ => rfl) ?_; rintro ⟨tb, va, vb, vc⟩ ⟨hva, hvb, hvc⟩
  refine WS.unpack ?_
  refine WS.alloc zv85 (fun _ => rfl) ?_; intro b7 hb7
  first | refine WS.store (j := 0) rfl rfl (by first | decide | omega | (simp; done) | (simp; omega) | exact Nat.le_of_ble_eq_true rfl) rfl (by first | rfl | assumption) tk85 rfl rfl ?_ | refine WS.store (j := 0) rfl rfl (by first | decide | omega | (simp; done) | (simp; omega) | exact Nat.le_of_ble_eq_true rfl) rfl (by first | rfl | assumption) tk85 (lset_eq _ _ _) rfl ?_
  refine N4 ?_
  refine CS.seq ?_
  refine N3 ?_
  refine WS.det rfl rfl rfl ((by first | exact det_loadb0 (j := 7) rfl rfl tk31 | exact det_loadbN (j := 7) rfl rfl (by rfl) tk31 | exact det_loadwN rfl (by assumption) (by rfl) tk31 | exact det_loadbK (n := 8) (j := 7) rfl rfl rfl rfl tk31)) rfl ?_
  refine WS.callF rfl rfl ent67 (fun u hu => moves_c r u) (fun _ => rfl) ?_; intro bm _
  refine N4 ?_
  refine CS.block ?_
  refine CS.sel [6, 2, 2, 2, 2, 1, 0] rfl ?_
  refine CS.weak (L' := [exS fun q : Value => star [blk b4 [q] 45, oT cMove 52 q ([])], blk tb [r.pls.v, r.ths.v, r.prs.v, r.wys.v, r.acs.v, r.aus.v, .int .i64 r.ply, r.gl.v, va, vb, vc] 115, oints 3 va (z.ths.l), oints 3 vb (z.prs.l), oints 3 vc (z.pls.l), blk b7 [.pointer (some ⟨tb, 0, none⟩)] 85] ++ [blk bm [r.pls.v, r.ths.v, r.prs.v, r.wys.v, r.acs.v, r.aus.v, .int .i64 r.ply, r.gl.v] 31]) (fun u hu => St.exI (Value.slice none 0 0) (St.pack (L1 := [_, _]) ((hu.osl0 (e := 52) (size := 3)).sel [1, 0, 0, 0, 0, 0, 0, 0] rfl))) ?_
  refine CS.rangeB (V := mvV) (cMove.cells) (fun _ => rfl) (fun _ => rfl) (fun x => cMove.one w x trivial) zv52 rfl tk52 (by decide) (A := [blk bm [r.pls.v, r.ths.v, r.prs.v, r.wys.v, r.acs.v, r.aus.v, .int .i64 r.ply, r.gl.v] 31]) rfl ent96 (movesI_c r w hr hR bm) (fun pre => [exS fun q : Value => star [blk b4 [q] 45, oT cMove 52 q (pre.filter (legalB r z.x))], blk tb [r.pls.v, r.ths.v, r.prs.v, r.wys.v, r.acs.v, r.aus.v, .int .i64 r.ply, r.gl.v, va, vb, vc] 115, oints 3 va (z.ths.l), oints 3 vb (z.prs.l), oints 3 vc (z.pls.l), blk b7 [.pointer (some ⟨tb, 0, none⟩)] 85]) (fun kd pre => match kd with | _ => [fact False]) (fun _ => rfl) (Nat.le_of_ble_eq_true rfl) (fun _ _ => rfl) (fun _ => Nat.le_of_ble_eq_true rfl) ?_ ?_ ?_
  ·
   intro lr pre x post v b8 F hall
   have hal := allM_len hR r.ply.toNat
   rw [hall] at hal
   simp only [List.length_append, List.length_cons] at hal
   have hfl := List.length_filter_le (legalB r z.x) pre
   refine CS.factE (j := 1) rfl (fun hv => ?_)
   subst hv
   refine CS.sel [2, 0, 0, 0, 0, 0, 0, 0, 0] rfl ?_
   refine CS.ex ?_; intro q
   refine CS.unpack ?_
   refine CS.block ?_
   refine N3 ?_
   refine WS.det rfl rfl rfl ((by first | exact det_loadb (j := 8) rfl rfl rfl tk85 | exact det_loadw rfl (by assumption) rfl tk85)) rfl ?_
   refine WS.det rfl rfl rfl ((by first | exact det_loadb0 (j := 2) rfl rfl tk52 | exact det_loadbN (j := 2) rfl rfl (by rfl) tk52 | exact det_loadwN rfl (by assumption) (by rfl) tk52 | exact det_loadbK (n := 3) (j := 2) rfl rfl rfl rfl tk52)) rfl ?_
   refine WS.det rfl rfl rfl (det_callB rfl rfl ent68 (fun u hu => ilegal_c tb r ⟨⟨va, z.ths.l⟩, ⟨vb, z.prs.l⟩, ⟨vc, z.pls.l⟩⟩ u ⟨st_blk hu (j := 4) rfl, hr.st hu, (oints_SlI hu (j := 5) rfl).tree, (oints_SlI hu (j := 6) rfl).tree, (oints_SlI hu (j := 7) rfl).tree⟩ hR hI x)) rfl ?_
   refine N4 ?_
   refine CS.cond rfl (fun hc2 => ?_) (fun hc2 => ?_) <;> (try simp only [bq] at hc2)
   ·
    have hc2 : legalB r z.x x = true := hc2
    refine CS.region ?_
    refine WS.det rfl rfl rfl ((by first | exact det_loadb (j := 0) rfl rfl rfl tk45 | exact det_loadw rfl (by assumption) rfl tk45)) rfl ?_
    refine WS.det rfl rfl rfl ((by first | exact det_loadb0 (j := 2) rfl rfl tk52 | exact det_loadbN (j := 2) rfl rfl (by rfl) tk52 | exact det_loadwN rfl (by assumption) (by rfl) tk52 | exact det_loadbK (n := 3) (j := 2) rfl rfl rfl rfl tk52)) rfl ?_
    refine WS.buildT1 cMove (a := x) sl45 zv52 rfl (by decide) (fun _ => rfl) ?_; intro v26
    refine WS.appendT1 (j := 2) (jz := 0) sl45 zv52 rfl (by decide) rfl rfl rfl rfl (w := w) trivial (by omega) (by omega) (fun _ => rfl) (fun _ => rfl) ?_; intro v27 hv27
    first | refine WS.store (j := 1) rfl rfl (by first | decide | omega | (simp; done) | (simp; omega) | exact Nat.le_of_ble_eq_true rfl) rfl (by first | rfl | assumption) tk45 rfl rfl ?_ | refine WS.store (j := 1) rfl rfl (by first | decide | omega | (simp; done) | (simp; omega) | exact Nat.le_of_ble_eq_true rfl) rfl (by first | rfl | assumption) tk45 (lset_eq _ _ _) rfl ?_
    refine WS.done ?_
    refine QS.block_normal ?_
    refine QS.sel [1, 1, 2, 2, 2, 2, 2, 2, 2] rfl ?_
    exact fun u hu => by
     change St _ _ (_ :: (_ ++ [_])) u
     dsimp only
     rw [List.filter_append, show [x].filter (legalB r z.x) = [x] by simp [hc2]]
     exact St.perm (St.exI (f := fun q : Value => star [blk b4 [q] 45, oT cMove 52 q (pre.filter (legalB r z.x) ++ [x])]) v27 (St.pack (L1 := [_, _]) hu)) (List.Perm.swap _ _ _)
   ·
    have hc2 : legalB r z.x x = false := hc2
    refine CS.skip ?_
    refine QS.block_normal ?_
    refine QS.sel [0, 0, 1, 1, 1, 1, 1, 1, 1] rfl ?_
    exact fun u hu => by
     change St _ _ (_ :: (_ ++ [_])) u
     dsimp only
     rw [List.filter_append, show [x].filter (legalB r z.x) = [] by simp [hc2], List.append_nil]
     exact St.perm (St.exI (f := fun q : Value => star [blk b4 [q] 45, oT cMove 52 q (pre.filter (legalB r z.x))]) q (St.pack (L1 := [_, _]) hu)) (List.Perm.swap _ _ _)
  ·
   intro D
   refine QS.sel [1, 0] rfl ?_
   refine QS.ex ?_; intro q
   refine QS.unpack ?_
   refine QS.oc (j := 1) rfl (fun hq => ?_)
   refine QS.block_normal ?_
   refine QS.then_code ?_
   refine N3 ?_
   refine WS.det rfl rfl rfl ((by first | exact det_loadb (j := 0) rfl rfl rfl tk45 | exact det_loadw rfl (by assumption) rfl tk45)) rfl ?_
   first | refine WS.store (j := 0) rfl rfl (by first | decide | omega | (simp; done) | (simp; omega) | exact Nat.le_of_ble_eq_true rfl) rfl (by first | rfl | assumption) tk45 rfl rfl ?_ | refine WS.store (j := 0) rfl rfl (by first | decide | omega | (simp; done) | (simp; omega) | exact Nat.le_of_ble_eq_true rfl) rfl (by first | rfl | assumption) tk45 (lset_eq _ _ _) rfl ?_
   refine WS.det rfl rfl rfl (det_assign rfl) rfl ?_
   refine N4 ?_
   refine CS.ret ?_
   exact outM (j := 2) (Or.inl rfl) rfl (resct rfl (cell_rv (j := 0) rfl rfl rfl tk45) rfl) (by
     have hv : LegalV r z.x = (0, (allM r r.ply.toNat).filter (legalB r z.x)) := (if_pos hS).trans (by rw [allM_filter hR]; rfl)
     rw [hv]
     exact fun u hu => retM (f := fun v => .tuple #[v, .int .i64 0]) (j := 1) rfl hu)
  ·
   intro D kd pre x post hall
   cases kd with
   | _ => exact fun u hu => (hu.factE (j := 1) rfl).elim
set_option maxHeartbeats 2000000 in
theorem IRun_c (r : Room) (w : World) (hr : RoomOk w r) (g : Sl ByteArray) (hG : GOk w g) (hn : Near r) (z : Stt) (hz : SttOk w z) (ms : Sl Move) (hk : SlT cMove w ms) :
  Calls Tryd.prog 36 #[.agg #[r.pls.v, r.ths.v, r.prs.v, r.wys.v, r.acs.v, r.aus.v, .int .i64 r.ply, r.gl.v], .agg #[z.ths.v, z.prs.v, z.pls.v], ms.v] w (RetS w (RunV r z.x ms.l).2.2 fun v => .tuple #[v, .int .i64 (RunV r z.x ms.l).2.1, .int .i64 (RunV r z.x ms.l).1]) := by
 have lms := hk.le
 refine enter Tryd.func36 rfl rfl (Nat.le_of_ble_eq_true rfl) ?_
 refine N3 ?_
 refine WS.box rfl rfl (fun _ => rfl) ?_; intro b3 hb3
 refine WS.box rfl rfl (fun _ => rfl) ?_; intro b4 hb4
 refine WS.alloc zv37 (fun _ => rfl) ?_; intro b6 hb6
 refine WS.det rfl rfl rfl (det_assign rfl) rfl ?_
 refine WS.det rfl rfl rfl (det_assign rfl) rfl ?_
 refine N4 ?_
 refine CS.seq ?_
 refine N3 ?_
 refine WS.det rfl rfl rfl ((by first | exact det_loadb0 (j := 2) rfl rfl tk31 | exact det_loadbN (j := 2) rfl rfl (by rfl) tk31 | exact det_loadwN rfl (by assumption) (by rfl) tk31 | exact det_loadbK (n := 8) (j := 2) rfl rfl rfl rfl tk31)) rfl ?_
 refine WS.det rfl rfl rfl ((by first | exact det_loadb0 (j := 1) rfl rfl tk37 | exact det_loadbN (j := 1) rfl rfl (by rfl) tk37 | exact det_loadwN rfl (by assumption) (by rfl) tk37 | exact det_loadbK (n := 3) (j := 1) rfl rfl rfl rfl tk37)) rfl ?_
 refine WS.det rfl rfl rfl (det_callB rfl rfl ent31 (fun u hu => ICheckState_c r u (hr.st hu) g (hG.st hu) hn z (hz.st hu))) rfl ?_
 refine WS.det rfl rfl rfl (det_assign rfl) rfl ?_
 refine N1 ?_
 refine WS.det rfl rfl rfl (det_move rfl) rfl ?_
 refine WS.det rfl rfl rfl (det_ne rfl rfl) rfl ?_
 refine N4 ?_
 refine CS.cond rfl (fun hc1 => ?_) (fun hc1 => ?_) <;> (try simp only [bq] at hc1)
 ·
  have hS : ¬ stL r z.x = 0 := hc1
  refine N3 ?_
  refine WS.det rfl rfl rfl ((det_build1 plc37 zv37 rfl rfl (by first | (simp [Value.oneCell']; done) | ((repeat (refine List.forall_mem_cons.2 ⟨by first | rfl | assumption, ?_⟩)); exact fun _ h => absurd h List.not_mem_nil)))) rfl ?_
  refine WS.det rfl rfl rfl (det_move rfl) rfl ?_
  first | refine WS.storeW (j := 0) rfl rfl rfl rfl (by first | (simp [Value.oneCell']; done) | ((repeat (refine List.forall_mem_cons.2 ⟨by first | rfl | assumption, ?_⟩)); exact fun _ h => absurd h List.not_mem_nil) | exact Cel.one _ w _ (by first | assumption | exact trivial)) tk37 rfl rfl ?_
  refine WS.det rfl rfl rfl (det_assign rfl) rfl ?_
  refine WS.det rfl rfl rfl (det_assign rfl) rfl ?_
  refine N4 ?_
  refine CS.ret ?_
  refine QS.then_ret ?_
  exact outR (resctt rfl (cell_rvN (j := 0) rfl rfl tk37) rfl rfl) (by
    have hv : RunV r z.x ms.l = (stL r z.x, 0, no3) := if_neg hS
    rw [hv]
    exact fun u hu => retNo (f := fun v => .tuple #[v, .int .i64 (0), .int .i64 (stL r z.x)]) hu)
 ·
  have hc1 : stateE r z = 0 := hc1
  have hc1 : stL r z.x = 0 := hc1
  have hS : stL r z.x = 0 := by omega
  obtain ⟨hC, hI⟩ := stL_in.1 hS
  have hR := ready_of hC
  have hlen := hR.lens
  have hply := hR.ply
  have hlt : z.ths.l.length = r.ths.l.length := hI.lt
  have hlp : z.prs.l.length = r.prs.l.length := hI.lp
  have hll : (z.pls.l.length : Int) = r.ply := hI.ll
  refine CS.skip ?_
  refine QS.then_code ?_
  refine CS.seq ?_
  refine N3 ?_
  refine WS.det rfl rfl rfl (det_move rfl) rfl ?_
  refine WS.det rfl rfl rfl (det_lenU sl45 rfl (by assumption)) rfl ?_
  refine WS.det rfl rfl rfl (det_gt rfl rfl) rfl ?_
  refine N4 ?_
  refine CS.cond rfl (fun hc2 => ?_) (fun hc2 => ?_) <;> (try simp only [bq] at hc2)
  ·
   refine N3 ?_
   refine WS.det rfl rfl rfl ((det_build1 plc37 zv37 rfl rfl (by first | (simp [Value.oneCell']; done) | ((repeat (refine List.forall_mem_cons.2 ⟨by first | rfl | assumption, ?_⟩)); exact fun _ h => absurd h List.not_mem_nil)))) rfl ?_
   first | refine WS.storeW (j := 0) rfl rfl rfl rfl (by first | (simp [Value.oneCell']; done) | ((repeat (refine List.forall_mem_cons.2 ⟨by first | rfl | assumption, ?_⟩)); exact fun _ h => absurd h List.not_mem_nil) | exact Cel.one _ w _ (by first | assumption | exact trivial)) tk37 rfl rfl ?_
   refine WS.det rfl rfl rfl (det_assign rfl) rfl ?_
   refine WS.det rfl rfl rfl (det_assign rfl) rfl ?_
   refine N4 ?_
   refine CS.ret ?_
   refine QS.then_ret ?_
   exact outR (resctt rfl (cell_rvN (j := 0) rfl rfl tk37) rfl rfl) (by
     have hv : RunV r z.x ms.l = (2, 0, no3) := (if_pos hS).trans (if_pos hc2)
     rw [hv]
     exact fun u hu => retNo (f := fun v => .tuple #[v, .int .i64 (0), .int .i64 (2)]) hu)
  ·
   refine CS.skip ?_
   refine QS.then_code ?_
   refine N3 ?_
   refine WS.det rfl rfl rfl ((by first | exact det_loadb0 (j := 2) rfl rfl tk31 | exact det_loadbN (j := 2) rfl rfl (by rfl) tk31 | exact det_loadwN rfl (by assumption) (by rfl) tk31 | exact det_loadbK (n := 8) (j := 2) rfl rfl rfl rfl tk31)) rfl ?_
   refine WS.det rfl rfl rfl ((by first | exact det_loadb0 (j := 1) rfl rfl tk37 | exact det_loadbN (j := 1) rfl rfl (by rfl) tk37 | exact det_loadwN rfl (by assumption) (by rfl) tk37 | exact det_loadbK (n := 3) (j := 1) rfl rfl rfl rfl tk37)) rfl ?_
   refine WS.callF rfl rfl ent45 (fun u hu => lay_c r u (hr.st hu) z (hz.st hu) (hI.small hR)) (fun _ => rfl) ?_; rintro ⟨tb, va, vb, vc⟩ ⟨hva, hvb, hvc⟩
   refine WS.unpack ?_
   refine WS.det rfl rfl rfl (det_assign rfl) rfl ?_
   refine N4 ?_
   refine CS.seq ?_
   refine N3 ?_
   refine WS.det rfl rfl rfl (det_move rfl) rfl ?_
   refine WS.det rfl rfl rfl (det_lenU sl45 rfl (by assumption)) rfl ?_
   refine WS.det rfl rfl rfl (det_move rfl) rfl ?_
   refine N4 ?_
   refine CS.block ?_
   refine CS.loopM (σ := Int × P3) [7, 8, 11, 12, 30, 31, 32, 33, 34, 35, 36, 37, 38, 39, 40, 41, 42, 43, 44, 45, 46, 47, 48] (fun s => [(29, .int .i64 s.1)]) (fun s => [blk tb [r.pls.v, r.ths.v, r.prs.v, r.wys.v, r.acs.v, r.aus.v, .int .i64 r.ply, r.gl.v, va, vb, vc] 115, oints 3 va (s.2.1), oints 3 vb (s.2.2.1), oints 3 vc (s.2.2.2), blk b6 [.slice none 0 0, .slice none 0 0, .slice none 0 0] 37, blk b4 [z.ths.v, z.prs.v, z.pls.v] 37, blk b3 [r.pls.v, r.ths.v, r.prs.v, r.wys.v, r.acs.v, r.aus.v, .int .i64 r.ply, r.gl.v] 31]) (fun s => 0 ≤ s.1 ∧ s.1 ≤ ms.l.length ∧ StIn r s.2 ∧ RunV r z.x ms.l = runL r (ms.l.drop s.1.toNat) s.1 s.2) (fun s => (ms.l.length - s.1).toNat) (0, z.x) (fun _ _ => rfl) rfl rfl ⟨by simp, by simp, hI, (if_pos hS).trans (if_neg (by omega))⟩ ?_
   intro s t hs
   obtain ⟨hs1, hs2, hs3, hs4⟩ := hs
   refine N3 ?_
   refine WS.det rfl rfl rfl (det_lt rfl rfl) rfl ?_
   refine N4 ?_
   refine CS.seq ?_
   refine CS.cond rfl (fun hc3 => ?_) (fun hc3 => ?_) <;> (try simp only [bq] at hc3)
   ·
    refine CS.skip ?_
    refine QS.then_code ?_
    refine CS.seq ?_
    refine CS.block ?_
    refine N3 ?_
    refine WS.det rfl rfl rfl (det_move rfl) rfl ?_
    refine WS.det rfl rfl rfl (det_idxU sl45 rfl rfl (by assumption) rfl (by omega) (by omega)) rfl ?_
    refine WS.det rfl rfl rfl ((by first | exact det_ldU rfl (by assumption) rfl ⟨(by omega), (by omega)⟩ rfl tk52)) rfl ?_
    refine WS.alloc zv52 (fun _ => rfl) ?_; intro b12 hb12
    refine WS.det rfl rfl rfl (det_assign rfl) rfl ?_
    first | refine WS.storeW (j := 0) rfl rfl rfl rfl (by first | (simp [Value.oneCell']; done) | ((repeat (refine List.forall_mem_cons.2 ⟨by first | rfl | assumption, ?_⟩)); exact fun _ h => absurd h List.not_mem_nil) | exact Cel.one _ w _ (by first | assumption | exact trivial)) tk52 rfl rfl ?_
    refine N4 ?_
    refine CS.seq ?_
    refine N3 ?_
    refine WS.det rfl rfl rfl (det_move rfl) rfl ?_
    refine WS.det rfl rfl rfl ((by first | exact det_loadb0 (j := 0) rfl rfl tk52 | exact det_loadbN (j := 0) rfl rfl (by rfl) tk52 | exact det_loadwN rfl (by assumption) (by rfl) tk52 | exact det_loadbK (n := 3) (j := 0) rfl rfl rfl rfl tk52)) rfl ?_
    refine WS.det rfl rfl rfl (det_callB rfl rfl ent68 (fun u hu => ilegal_c tb r ⟨⟨va, s.2.1⟩, ⟨vb, s.2.2.1⟩, ⟨vc, s.2.2.2⟩⟩ u ⟨st_blk hu (j := 1) rfl, hr.st hu, (oints_SlI hu (j := 2) rfl).tree, (oints_SlI hu (j := 3) rfl).tree, (oints_SlI hu (j := 4) rfl).tree⟩ hR hs3 (nth ms.l s.1))) rfl ?_
    refine WS.det rfl rfl rfl (det_not rfl) rfl ?_
    refine N4 ?_
    refine CS.cond rfl (fun hc4 => ?_) (fun hc4 => ?_) <;> (try simp only [bq] at hc4)
    ·
     have hL : legalB r s.2 (nth ms.l s.1) = false := hc4
     have hE : StepV r s.2 (nth ms.l s.1) = (29, no3) := (if_pos (stL_in.2 ⟨hC, hs3⟩)).trans (if_neg (by rw [hL]; decide))
     refine N3 ?_
     refine WS.det rfl rfl rfl ((det_build1 plc37 zv37 rfl rfl (by first | (simp [Value.oneCell']; done) | ((repeat (refine List.forall_mem_cons.2 ⟨by first | rfl | assumption, ?_⟩)); exact fun _ h => absurd h List.not_mem_nil)))) rfl ?_
     refine WS.det rfl rfl rfl (det_move rfl) rfl ?_
     first | refine WS.storeW (j := 5) rfl rfl rfl rfl (by first | (simp [Value.oneCell']; done) | ((repeat (refine List.forall_mem_cons.2 ⟨by first | rfl | assumption, ?_⟩)); exact fun _ h => absurd h List.not_mem_nil) | exact Cel.one _ w _ (by first | assumption | exact trivial)) tk37 rfl rfl ?_
     refine WS.det rfl rfl rfl (det_assign rfl) rfl ?_
     refine WS.det rfl rfl rfl (det_assign rfl) rfl ?_
     refine N4 ?_
     refine CS.ret ?_
     refine QS.then_ret ?_
     refine QS.block_ret ?_
     iterate 2 refine QS.then_ret ?_
     refine QS.block_ret ?_
     refine QS.then_ret ?_
     exact outR (resctt rfl (cell_rvN (j := 5) rfl rfl tk37) rfl rfl) (by
       have hv : RunV r z.x ms.l = (29, s.1, no3) := by rw [hs4, drop_cons hs1 (by omega), runL, hE]; rfl
       rw [hv]
       exact fun u hu => retNo (f := fun v => .tuple #[v, .int .i64 (s.1), .int .i64 (29)]) hu)
    ·
     have hL : legalB r s.2 (nth ms.l s.1) = true := hc4
     refine CS.skip ?_
     refine QS.then_code ?_
     refine N3 ?_
     refine WS.det rfl rfl rfl (det_move rfl) rfl ?_
     refine WS.det rfl rfl rfl ((by first | exact det_loadb0 (j := 0) rfl rfl tk52 | exact det_loadbN (j := 0) rfl rfl (by rfl) tk52 | exact det_loadwN rfl (by assumption) (by rfl) tk52 | exact det_loadbK (n := 3) (j := 0) rfl rfl rfl rfl tk52)) rfl ?_
     refine WS.callS rfl rfl ent70 (fun u hu => imoveL_c [_] _ r hr hR tb va vb vc s.2 hs3 (nth ms.l s.1) hL hu) (fun _ => rfl) ?_; rintro _ _
     refine N1 ?_
     refine WS.det rfl rfl rfl (det_move rfl) rfl ?_
     refine WS.callS rfl rfl ent76 (fun u hu => isettleL_c [_] _ r hr tb va vb vc _ _ _ (by rw [moveX_len.1]; exact hs3.autos hR) hu) (fun _ => rfl) ?_; rintro o ⟨ho, hol⟩
     refine WS.det rfl rfl rfl (det_not rfl) rfl ?_
     refine N4 ?_
     refine CS.cond rfl (fun hc5 => ?_) (fun hc5 => ?_) <;> (try simp only [bq] at hc5)
     ·
      have hE : StepV r s.2 (nth ms.l s.1) = (27, no3) := (if_pos (stL_in.2 ⟨hC, hs3⟩)).trans ((if_pos hL).trans (by rw [settleV_f (r := r) (x := moveX r s.2 (nth ms.l s.1)) hc5]; rfl))
      refine N3 ?_
      refine WS.det rfl rfl rfl ((det_build1 plc37 zv37 rfl rfl (by first | (simp [Value.oneCell']; done) | ((repeat (refine List.forall_mem_cons.2 ⟨by first | rfl | assumption, ?_⟩)); exact fun _ h => absurd h List.not_mem_nil)))) rfl ?_
      refine WS.det rfl rfl rfl (det_move rfl) rfl ?_
      first | refine WS.storeW (j := 5) rfl rfl rfl rfl (by first | (simp [Value.oneCell']; done) | ((repeat (refine List.forall_mem_cons.2 ⟨by first | rfl | assumption, ?_⟩)); exact fun _ h => absurd h List.not_mem_nil) | exact Cel.one _ w _ (by first | assumption | exact trivial)) tk37 rfl rfl ?_
      refine WS.det rfl rfl rfl (det_assign rfl) rfl ?_
      refine WS.det rfl rfl rfl (det_assign rfl) rfl ?_
      refine N4 ?_
      refine CS.ret ?_
      refine QS.block_ret ?_
      iterate 2 refine QS.then_ret ?_
      refine QS.block_ret ?_
      refine QS.then_ret ?_
      exact outR (resctt rfl (cell_rvN (j := 5) rfl rfl tk37) rfl rfl) (by
        have hv : RunV r z.x ms.l = (27, s.1, no3) := by rw [hs4, drop_cons hs1 (by omega), runL, hE]; rfl
        rw [hv]
        exact fun u hu => retNo (f := fun v => .tuple #[v, .int .i64 (s.1), .int .i64 (27)]) hu)
     ·
      have hN := settleV_t (r := r) (x := moveX r s.2 (nth ms.l s.1)) hc5 ho
      have hE : StepV r s.2 (nth ms.l s.1) = (0, (o, (moveX r s.2 (nth ms.l s.1)).2.1, (moveX r s.2 (nth ms.l s.1)).2.2)) := (if_pos (stL_in.2 ⟨hC, hs3⟩)).trans ((if_pos hL).trans (by rw [hN]; rfl))
      have hI2 := settleV_stay hR (move_stay hR hs3 hL) hN
      refine CS.skip ?_
      refine QS.block_normal ?_
      refine QS.then_code ?_
      refine CS.region ?_
      refine WS.det rfl rfl rfl (det_add rfl rfl (by omega)) rfl ?_
      refine WS.det rfl rfl rfl (det_move rfl) rfl ?_
      refine WS.done ?_
      refine QS.sel [1, 1, 1, 1, 1, 1, 1] rfl ?_
      exact QS.head ((s.1 + 1, (o, (moveX r s.2 (nth ms.l s.1)).2.1, (moveX r s.2 (nth ms.l s.1)).2.2))) rfl rfl ⟨⟨by simp; omega, by simp; omega, hI2, by
          rw [hs4, drop_cons hs1 (by omega), runL, if_pos (by rw [hE]), hE]⟩, by simp; omega⟩
   ·
    refine CS.leave ?_
    iterate 2 refine QS.then_exit ?_
    refine QS.block_exit ?_
    refine QS.then_code ?_
    refine N3 ?_
    refine WS.det rfl rfl rfl (det_move rfl) rfl ?_
    refine WS.det rfl rfl rfl (det_nilCheck rfl) rfl ?_
    refine WS.det rfl rfl rfl ((by first | exact det_fieldAddr rfl fo115_1 | exact det_fieldAddrS rfl fo115_1)) rfl ?_
    refine WS.det rfl rfl rfl ((by first | exact det_loadb0 (j := 0) rfl rfl tk37 | exact det_loadb0 (j := 1) rfl rfl tk37 | exact det_loadb0 (j := 2) rfl rfl tk37 | exact det_loadb0 (j := 3) rfl rfl tk37 | exact det_loadb0 (j := 4) rfl rfl tk37 | exact det_loadb0 (j := 5) rfl rfl tk37 | exact det_loadb0 (j := 6) rfl rfl tk37 | exact det_loadb0 (j := 7) rfl rfl tk37 | exact det_loadb0 (j := 8) rfl rfl tk37 | exact det_loadbN (j := 0) rfl rfl (by rfl) tk37 | exact det_loadbN (j := 1) rfl rfl (by rfl) tk37 | exact det_loadbN (j := 2) rfl rfl (by rfl) tk37 | exact det_loadbN (j := 3) rfl rfl (by rfl) tk37 | exact det_loadbN (j := 4) rfl rfl (by rfl) tk37 | exact det_loadbN (j := 5) rfl rfl (by rfl) tk37 | exact det_loadbN (j := 6) rfl rfl (by rfl) tk37 | exact det_loadbN (j := 7) rfl rfl (by rfl) tk37 | exact det_loadbN (j := 8) rfl rfl (by rfl) tk37 | exact det_loadwN rfl (by assumption) (by rfl) tk37 | exact det_loadbK (n := 3) (j := 0) rfl rfl rfl rfl tk37 | exact det_loadbK (n := 3) (j := 1) rfl rfl rfl rfl tk37 | exact det_loadbK (n := 3) (j := 2) rfl rfl rfl rfl tk37 | exact det_loadbK (n := 3) (j := 3) rfl rfl rfl rfl tk37 | exact det_loadbK (n := 3) (j := 4) rfl rfl rfl rfl tk37 | exact det_loadbK (n := 3) (j := 5) rfl rfl rfl rfl tk37 | exact det_loadbK (n := 3) (j := 6) rfl rfl rfl rfl tk37 | exact det_loadbK (n := 3) (j := 7) rfl rfl rfl rfl tk37 | exact det_loadbK (n := 3) (j := 8) rfl rfl rfl rfl tk37)) rfl ?_
    first | refine WS.storeW (j := 4) rfl rfl rfl rfl (by first | (simp [Value.oneCell']; done) | ((repeat (refine List.forall_mem_cons.2 ⟨by first | rfl | assumption, ?_⟩)); exact fun _ h => absurd h List.not_mem_nil) | exact Cel.one _ w _ (by first | assumption | exact trivial)) tk37 rfl rfl ?_
    refine WS.det rfl rfl rfl (det_assign rfl) rfl ?_
    refine WS.det rfl rfl rfl (det_assign rfl) rfl ?_
    refine N4 ?_
    refine CS.ret ?_
    exact outR (resctt rfl (cell_rvN (j := 4) rfl rfl tk37) rfl rfl) (by
      have hv : RunV r z.x ms.l = (0, 0, (s.2.1, s.2.2.1, s.2.2.2)) := by rw [hs4, List.drop_of_length_le (by omega)]; rfl
      rw [hv]
      exact fun u hu => retS (f := fun v => .tuple #[v, .int .i64 0, .int .i64 0]) (is := [1, 1, 1]) rfl hu)
end Go.Proofs.YtgbofmnbakfalaaDoor
namespace Go.Proofs.YtgbofmnbakfalaaDoor
open Go.RowKit Go.Proofs
set_option maxRecDepth 100000
set_option linter.unusedVariables false
set_option linter.unusedSimpArgs false
set_option maxHeartbeats 2000000 in
theorem ILook_c (r : Room) (w : World) (hr : RoomOk w r) (g : Sl ByteArray) (hG : GOk w g) (hn : Near r) (z : Stt) (hz : SttOk w z) (pl : Int) :
  Calls Tryd.prog 39 #[.agg #[r.pls.v, r.ths.v, r.prs.v, r.wys.v, r.acs.v, r.aus.v, .int .i64 r.ply, r.gl.v], .agg #[z.ths.v, z.prs.v, z.pls.v], .int .i64 pl] w (RetS3 w (LookV r z.x pl).2 (LookV r z.x pl).1) := by
 have kpl := hr.pls
 have lpl := hr.pls.le
 have kth := hr.ths
 have lth := hr.ths.le
 have kpr := hr.prs
 have lpr := hr.prs.le
 have kwy := hr.wys
 have lwy := hr.wys.le
 have kac := hr.acs
 have lac := hr.acs.le
 have kau := hr.aus
 have lau := hr.aus.le
 have kgl := hr.gl
 have lgl := hr.gl.le
 have zth := hz.ths.ints
 have zpr := hz.prs.ints
 have zpl := hz.pls.ints
 have lzt := zth.le
 have lzp := zpr.le
 have lzl := zpl.le
 refine enter Tryd.func39 rfl rfl (Nat.le_of_ble_eq_true rfl) ?_
 refine N3 ?_
 refine WS.box rfl rfl (fun _ => rfl) ?_; intro b3 hb3
 refine WS.box rfl rfl (fun _ => rfl) ?_; intro b4 hb4
 refine WS.det rfl rfl rfl (det_assign rfl) rfl ?_
 refine WS.det rfl rfl rfl (det_assign rfl) rfl ?_
 refine WS.det rfl rfl rfl (det_assign rfl) rfl ?_
 refine WS.det rfl rfl rfl (det_assign rfl) rfl ?_
 refine N4 ?_
 refine CS.seq ?_
 refine N3 ?_
 refine WS.det rfl rfl rfl ((by first | exact det_loadb0 (j := 1) rfl rfl tk31 | exact det_loadbN (j := 1) rfl rfl (by rfl) tk31 | exact det_loadwN rfl (by assumption) (by rfl) tk31 | exact det_loadbK (n := 8) (j := 1) rfl rfl rfl rfl tk31)) rfl ?_
 refine WS.det rfl rfl rfl ((by first | exact det_loadb0 (j := 0) rfl rfl tk37 | exact det_loadbN (j := 0) rfl rfl (by rfl) tk37 | exact det_loadwN rfl (by assumption) (by rfl) tk37 | exact det_loadbK (n := 3) (j := 0) rfl rfl rfl rfl tk37)) rfl ?_
 refine WS.det rfl rfl rfl (det_callB rfl rfl ent31 (fun u hu => ICheckState_c r u (hr.st hu) g (hG.st hu) hn z (hz.st hu))) rfl ?_
 refine WS.det rfl rfl rfl (det_assign rfl) rfl ?_
 refine N1 ?_
 refine WS.det rfl rfl rfl (det_move rfl) rfl ?_
 refine WS.det rfl rfl rfl (det_ne rfl rfl) rfl ?_
 refine N4 ?_
 refine CS.cond rfl (fun hc1 => ?_) (fun hc1 => ?_) <;> (try simp only [bq] at hc1)
 ·
  have hS : ¬ stL r z.x = 0 := hc1
  refine N3 ?_
  refine WS.det rfl rfl rfl (det_move rfl) rfl ?_
  refine WS.det rfl rfl rfl (det_assign rfl) rfl ?_
  refine WS.det rfl rfl rfl (det_assign rfl) rfl ?_
  refine WS.det rfl rfl rfl (det_assign rfl) rfl ?_
  refine WS.det rfl rfl rfl (det_assign rfl) rfl ?_
  refine N4 ?_
  refine CS.ret ?_
  refine QS.then_ret ?_
  exact outR (res4 rfl rfl rfl rfl rfl) (by
    have hv : LookV r z.x pl = (stL r z.x, no3) := if_neg hS
    rw [hv]
    exact fun u hu => retS30 hu)
 ·
  have hc1 : stateE r z = 0 := hc1
  have hc1 : stL r z.x = 0 := hc1
  have hS : stL r z.x = 0 := by omega
  obtain ⟨hC, hI⟩ := stL_in.1 hS
  have hR := ready_of hC
  have hlen := hR.lens
  have hply := hR.ply
  have hlt : z.ths.l.length = r.ths.l.length := hI.lt
  have hlp : z.prs.l.length = r.prs.l.length := hI.lp
  have hll : (z.pls.l.length : Int) = r.ply := hI.ll
  refine CS.skip ?_
  refine QS.then_code ?_
  refine CS.seq ?_
  refine N3 ?_
  refine WS.det rfl rfl rfl (det_move rfl) rfl ?_
  refine WS.det rfl rfl rfl ((by first | exact det_fieldAddr rfl fo31_6 | exact det_fieldAddrS rfl fo31_6)) rfl ?_
  refine WS.det rfl rfl rfl ((by first | exact det_loadb (j := 1) rfl rfl rfl tk3 | exact det_loadw rfl (by assumption) rfl tk3)) rfl ?_
  refine WS.det rfl rfl rfl (det_sub rfl rfl (by omega)) rfl ?_
  refine WS.det rfl rfl rfl (det_callB rfl rfl ent48 (fun u hu => within_c _ _ _ u)) rfl ?_
  refine WS.det rfl rfl rfl (det_not rfl) rfl ?_
  refine N4 ?_
  refine CS.cond rfl (fun hc2 => ?_) (fun hc2 => ?_) <;> (try simp only [bq] at hc2)
  ·
   refine N3 ?_
   refine WS.det rfl rfl rfl (det_assign rfl) rfl ?_
   refine WS.det rfl rfl rfl (det_assign rfl) rfl ?_
   refine WS.det rfl rfl rfl (det_assign rfl) rfl ?_
   refine WS.det rfl rfl rfl (det_assign rfl) rfl ?_
   refine N4 ?_
   refine CS.ret ?_
   refine QS.then_ret ?_
   exact outR (res4 rfl rfl rfl rfl rfl) (by
     have hv : LookV r z.x pl = (1, no3) := (if_pos hS).trans (if_neg (by simp only [Bool.and_eq_true, decide_eq_true_eq]; omega))
     rw [hv]
     exact fun u hu => retS30 hu)
  ·
   have hp : (decide (0 ≤ pl) && decide (pl ≤ r.ply - 1)) = true := by simp only [Bool.and_eq_true, decide_eq_true_eq]; omega
   refine CS.skip ?_
   refine QS.then_code ?_
   refine N3 ?_
   refine WS.det rfl rfl rfl ((by first | exact det_loadb0 (j := 1) rfl rfl tk31 | exact det_loadbN (j := 1) rfl rfl (by rfl) tk31 | exact det_loadwN rfl (by assumption) (by rfl) tk31 | exact det_loadbK (n := 8) (j := 1) rfl rfl rfl rfl tk31)) rfl ?_
   refine WS.det rfl rfl rfl ((by first | exact det_loadb0 (j := 0) rfl rfl tk37 | exact det_loadbN (j := 0) rfl rfl (by rfl) tk37 | exact det_loadwN rfl (by assumption) (by rfl) tk37 | exact det_loadbK (n := 3) (j := 0) rfl rfl rfl rfl tk37)) rfl ?_
   refine WS.callF rfl rfl ent45 (fun u hu => lay_c r u (hr.st hu) z (hz.st hu) (hI.small hR)) (fun _ => rfl) ?_; rintro ⟨tb, va, vb, vc⟩ ⟨hva, hvb, hvc⟩
   refine WS.unpack ?_
   refine WS.det rfl rfl rfl (det_assign rfl) rfl ?_
   refine N1 ?_
   refine WS.det rfl rfl rfl ((by first | exact det_fieldAddr rfl fo37_2 | exact det_fieldAddrS rfl fo37_2)) rfl ?_
   refine WS.det rfl rfl rfl ((by first | exact det_loadb (j := 4) rfl rfl rfl tk35 | exact det_loadw rfl (by assumption) rfl tk35)) rfl ?_
   refine WS.det rfl rfl rfl (det_move rfl) rfl ?_
   refine WS.det rfl rfl rfl ((by first | exact det_idxI sl35 rfl rfl (by assumption) (by omega) (by omega) | exact det_idxO sl35 rfl rfl (by omega) (by omega))) rfl ?_
   refine WS.det rfl rfl rfl ((by first | exact det_ldI rfl (by assumption) (by omega) tk3 | exact det_loadb (j := 0) rfl rfl rfl tk3 | exact det_loadb (j := 1) rfl rfl rfl tk3 | exact det_loadb (j := 2) rfl rfl rfl tk3 | exact det_loadb (j := 3) rfl rfl rfl tk3 | exact det_loadb (j := 4) rfl rfl rfl tk3 | exact det_loadb (j := 5) rfl rfl rfl tk3 | exact det_loadb (j := 6) rfl rfl rfl tk3 | exact det_loadb (j := 7) rfl rfl rfl tk3 | exact det_loadb (j := 8) rfl rfl rfl tk3 | exact det_loadb (j := 9) rfl rfl rfl tk3 | exact det_loadb (j := 10) rfl rfl rfl tk3 | exact det_loadw rfl (by assumption) rfl tk3)) rfl ?_
   refine WS.det rfl rfl rfl (det_assign rfl) rfl ?_
   refine N4 ?_
   refine CS.seq ?_
   refine N3 ?_
   refine WS.det rfl rfl rfl ((by first | exact det_fieldAddr rfl fo31_1 | exact det_fieldAddrS rfl fo31_1)) rfl ?_
   refine WS.det rfl rfl rfl ((by first | exact det_loadb (j := 5) rfl rfl rfl tk23 | exact det_loadw rfl (by assumption) rfl tk23)) rfl ?_
   refine WS.det rfl rfl rfl (det_lenU sl23 rfl (by assumption)) rfl ?_
   refine WS.det rfl rfl rfl (det_move rfl) rfl ?_
   refine N4 ?_
   refine CS.block ?_
   refine CS.weak (fun _ hu => hu.osl0 (e := 3) (size := 1)) ?_
   refine CS.loopM (σ := Int × Value) [13, 14, 44, 45, 46, 47, 48, 49, 50, 51, 52, 53, 54, 55, 56] (fun s => [(43, .int .i64 s.1), (6, s.2)]) (fun s => [oints 3 s.2 (filI s.1 (seeT r (nth z.pls.l pl))), blk tb [r.pls.v, r.ths.v, r.prs.v, r.wys.v, r.acs.v, r.aus.v, .int .i64 r.ply, r.gl.v, va, vb, vc] 115, oints 3 va (z.ths.l), oints 3 vb (z.prs.l), oints 3 vc (z.pls.l), blk b4 [z.ths.v, z.prs.v, z.pls.v] 37, blk b3 [r.pls.v, r.ths.v, r.prs.v, r.wys.v, r.acs.v, r.aus.v, .int .i64 r.ply, r.gl.v] 31]) (fun s => 0 ≤ s.1 ∧ s.1 ≤ r.ths.l.length) (fun s => (r.ths.l.length - s.1).toNat) (0, .slice none 0 0) (fun _ _ => rfl) rfl rfl ⟨by simp, by first | (simp; done) | (simp; omega)⟩ ?_
   intro a t hs
   obtain ⟨ha1, ha2⟩ := hs
   have hfl := fun p => filI_len (n := a.1) (p := p) ha1
   refine N3 ?_
   refine WS.det rfl rfl rfl (det_lt rfl rfl) rfl ?_
   refine N4 ?_
   refine CS.seq ?_
   refine CS.cond rfl (fun hc3 => ?_) (fun hc3 => ?_) <;> (try simp only [bq] at hc3)
   ·
    have hfa := hfl (seeT r (nth z.pls.l pl))
    refine CS.skip ?_
    refine QS.then_code ?_
    refine CS.seq ?_
    refine CS.block ?_
    refine N3 ?_
    refine WS.det rfl rfl rfl (det_move rfl) rfl ?_
    refine WS.det rfl rfl rfl (det_idxU sl23 rfl rfl (by assumption) rfl (by omega) (by omega)) rfl ?_
    refine WS.det rfl rfl rfl ((by first | exact det_ldU rfl (by assumption) rfl ⟨(by omega), (by omega)⟩ rfl tk70)) rfl ?_
    refine WS.alloc zv70 (fun _ => rfl) ?_; intro b14 hb14
    refine WS.det rfl rfl rfl (det_assign rfl) rfl ?_
    first | refine WS.storeW (j := 0) rfl rfl rfl rfl (by first | (simp [Value.oneCell']; done) | ((repeat (refine List.forall_mem_cons.2 ⟨by first | rfl | assumption, ?_⟩)); exact fun _ h => absurd h List.not_mem_nil) | exact Cel.one _ w _ (by first | assumption | exact trivial)) tk70 rfl rfl ?_
    refine N1 ?_
    refine WS.det rfl rfl rfl ((by first | exact det_fieldAddr rfl fo70_1 | exact det_fieldAddrS rfl fo70_1)) rfl ?_
    refine WS.det rfl rfl rfl ((by first | exact det_loadb (j := 0) rfl rfl rfl tk3 | exact det_loadw rfl (by assumption) rfl tk3)) rfl ?_
    refine WS.det rfl rfl rfl (det_move rfl) rfl ?_
    refine WS.det rfl rfl rfl (det_eq rfl rfl) rfl ?_
    refine N4 ?_
    refine CS.cond rfl (fun hc4 => ?_) (fun hc4 => ?_) <;> (try simp only [bq] at hc4)
    ·
     refine CS.region ?_
     refine WS.det rfl rfl rfl (det_move rfl) rfl ?_
     refine WS.det rfl rfl rfl (det_move rfl) rfl ?_
     refine WS.buildI1 sl35 zv3 rfl (fun _ => rfl) ?_; intro v54
     refine WS.appendI (j := 2) sl35 zv3 rfl rfl rfl (fun u hu => oints_SlI hu (j := 0) rfl) (by first | omega | (simp; omega) | (simp only [List.length_append, List.length_singleton, List.length_map, List.length_cons, List.length_nil] at *; omega)) (by first | omega | (simp; omega) | (simp only [List.length_append, List.length_singleton, List.length_map, List.length_cons, List.length_nil] at *; omega)) (fun _ => rfl) (fun _ => rfl) ?_; intro v55; refine WS.oc (j := 2) rfl (fun hv55 => ?_)
     refine WS.det rfl rfl rfl (det_assign rfl) rfl ?_
     refine WS.done ?_
     refine QS.block_normal ?_
     refine QS.then_code ?_
     refine CS.region ?_
     refine WS.det rfl rfl rfl (det_add rfl rfl (by omega)) rfl ?_
     refine WS.det rfl rfl rfl (det_move rfl) rfl ?_
     refine WS.done ?_
     refine QS.sel [2, 2, 2, 2, 2, 2, 2] rfl ?_
     exact QS.head ((a.1 + 1, v55)) rfl (by first | simp only [filI_yes ha1 (show seeT r (nth z.pls.l pl) a.1 = true by exact decide_eq_true hc4)] | simp only [← filI_no ha1 (show seeT r (nth z.pls.l pl) a.1 = false by exact decide_eq_false hc4)]) ⟨⟨by simp; omega, by simp; omega⟩, by simp; omega⟩
    ·
     refine CS.skip ?_
     refine QS.block_normal ?_
     refine QS.then_code ?_
     refine CS.region ?_
     refine WS.det rfl rfl rfl (det_add rfl rfl (by omega)) rfl ?_
     refine WS.det rfl rfl rfl (det_move rfl) rfl ?_
     refine WS.done ?_
     refine QS.sel [1, 1, 1, 1, 1, 1, 1] rfl ?_
     exact QS.head ((a.1 + 1, a.2)) rfl (by first | simp only [filI_yes ha1 (show seeT r (nth z.pls.l pl) a.1 = true by exact decide_eq_true hc4)] | simp only [← filI_no ha1 (show seeT r (nth z.pls.l pl) a.1 = false by exact decide_eq_false hc4)]) ⟨⟨by simp; omega, by simp; omega⟩, by simp; omega⟩
   ·
    have hae : a.1 = r.ths.l.length := by omega
    refine CS.leave ?_
    iterate 2 refine QS.then_exit ?_
    refine QS.block_exit ?_
    refine QS.then_code ?_
    refine CS.seq ?_
    refine N3 ?_
    refine WS.det rfl rfl rfl ((by first | exact det_fieldAddr rfl fo37_1 | exact det_fieldAddrS rfl fo37_1)) rfl ?_
    refine WS.det rfl rfl rfl ((by first | exact det_loadb (j := 5) rfl rfl rfl tk35 | exact det_loadw rfl (by assumption) rfl tk35)) rfl ?_
    refine WS.det rfl rfl rfl ((by first | exact det_lenS sl35 rfl (by assumption) | exact det_lenS sl35 rfl (by first | exact SlL.sp (by assumption) | exact ClS.sp (by assumption)) | exact det_lenO sl35 rfl | exact det_lenV sl35 rfl ⟨_, _, rfl⟩)) rfl ?_
    refine WS.det rfl rfl rfl (det_move rfl) rfl ?_
    refine N4 ?_
    refine CS.block ?_
    refine CS.weak (fun _ hu => hu.osl0 (e := 3) (size := 1)) ?_
    refine CS.loopM (σ := Int × Value) [15, 16, 17, 61, 62, 63, 64, 65, 66, 67, 68, 69, 70, 71, 72, 73, 74, 75, 76, 77, 78, 79, 80, 81, 82, 83, 84, 85, 86, 87, 88, 89, 90, 91, 92, 93, 94, 95, 96, 97] (fun s => [(60, .int .i64 s.1), (7, s.2)]) (fun s => [oints 3 s.2 (filI s.1 (seeP r z.x (nth z.pls.l pl))), oints 3 a.2 (filI a.1 (seeT r (nth z.pls.l pl))), blk tb [r.pls.v, r.ths.v, r.prs.v, r.wys.v, r.acs.v, r.aus.v, .int .i64 r.ply, r.gl.v, va, vb, vc] 115, oints 3 va (z.ths.l), oints 3 vb (z.prs.l), oints 3 vc (z.pls.l), blk b4 [z.ths.v, z.prs.v, z.pls.v] 37, blk b3 [r.pls.v, r.ths.v, r.prs.v, r.wys.v, r.acs.v, r.aus.v, .int .i64 r.ply, r.gl.v] 31]) (fun s => 0 ≤ s.1 ∧ s.1 ≤ r.prs.l.length) (fun s => (r.prs.l.length - s.1).toNat) (0, .slice none 0 0) (fun _ _ => rfl) rfl rfl ⟨by simp, by first | (simp; done) | (simp; omega)⟩ ?_
    intro d t hs
    obtain ⟨hd1, hd2⟩ := hs
    have hfl := fun p => filI_len (n := d.1) (p := p) hd1
    refine N3 ?_
    refine WS.det rfl rfl rfl (det_lt rfl rfl) rfl ?_
    refine N4 ?_
    refine CS.seq ?_
    refine CS.cond rfl (fun hc5 => ?_) (fun hc5 => ?_) <;> (try simp only [bq] at hc5)
    ·
     have hfa := hfl (seeP r z.x (nth z.pls.l pl))
     have hhe := hI.held (i := d.1) hd1 (show d.1 < z.prs.l.length by omega)
     simp only [Stt.x] at hhe
     have hwh : SlT cLit w (nth r.prs.l d.1).wh := hr.prs.at hd1 (by omega)
     have hwi := (hR.prs _ (nth_mem (i := d.1) (xs := r.prs.l) hd1 (by omega))).1
     refine CS.skip ?_
     refine QS.then_code ?_
     refine CS.seq ?_
     refine CS.block ?_
     refine N3 ?_
     refine WS.det rfl rfl rfl (det_move rfl) rfl ?_
     refine WS.det rfl rfl rfl ((by first | exact det_idxI sl35 rfl rfl (by assumption) (by omega) (by omega) | exact det_idxO sl35 rfl rfl (by omega) (by omega))) rfl ?_
     refine WS.det rfl rfl rfl ((by first | exact det_ldI rfl (by assumption) (by omega) tk3 | exact det_loadb (j := 0) rfl rfl rfl tk3 | exact det_loadb (j := 1) rfl rfl rfl tk3 | exact det_loadb (j := 2) rfl rfl rfl tk3 | exact det_loadb (j := 3) rfl rfl rfl tk3 | exact det_loadb (j := 4) rfl rfl rfl tk3 | exact det_loadb (j := 5) rfl rfl rfl tk3 | exact det_loadb (j := 6) rfl rfl rfl tk3 | exact det_loadb (j := 7) rfl rfl rfl tk3 | exact det_loadb (j := 8) rfl rfl rfl tk3 | exact det_loadb (j := 9) rfl rfl rfl tk3 | exact det_loadb (j := 10) rfl rfl rfl tk3 | exact det_loadw rfl (by assumption) rfl tk3)) rfl ?_
     refine WS.det rfl rfl rfl (det_assign rfl) rfl ?_
     refine WS.det rfl rfl rfl (det_assign rfl) rfl ?_
     refine N1 ?_
     refine WS.det rfl rfl rfl (det_move rfl) rfl ?_
     refine WS.det rfl rfl rfl (det_move rfl) rfl ?_
     refine WS.det rfl rfl rfl (det_eq rfl rfl) rfl ?_
     refine WS.det rfl rfl rfl (det_move rfl) rfl ?_
     refine WS.guardT rfl rfl rfl rfl (fun hg => det_move rfl) rfl ?_
     refine WS.guardT rfl rfl rfl rfl (fun hg => (by first | exact det_fieldAddr rfl fo31_2 | exact det_fieldAddrS rfl fo31_2)) rfl ?_
     refine WS.guardT rfl rfl rfl rfl (fun hg => (by first | exact det_loadb (j := 7) (ev_cond hg rfl) rfl rfl tk24 | exact det_loadw (ev_cond hg rfl) (by assumption) rfl tk24)) rfl ?_
     refine WS.guardT rfl rfl rfl rfl (fun hg => det_move rfl) rfl ?_
     refine WS.guardT rfl rfl rfl rfl (fun hg => det_idxU sl24 (ev_cond hg rfl) (ev_cond hg rfl) (by assumption) rfl (by (try simp only [bq] at hg); omega) (by (try simp only [bq] at hg); omega)) rfl ?_
     refine WS.guardT rfl rfl rfl rfl (fun hg => (by first | exact det_fieldAddr (ev_cond hg rfl) fo72_2 | exact det_fieldAddrS (ev_cond hg rfl) fo72_2)) rfl ?_
     refine WS.guardT rfl rfl rfl rfl (fun hg => (by first | exact det_ldUc 3 2 (ev_cond hg rfl) (by assumption) rfl ⟨(by (try simp only [bq] at hg); omega), (by (try simp only [bq] at hg); omega)⟩ (by decide) rfl tk29)) rfl ?_
     refine WS.guardT rfl rfl rfl rfl (fun hg => det_callB rfl (evs_cons (ev_cond hg rfl) (evs_cons (ev_cond hg rfl) evs_nil)) ent74 (fun u hu => holds_c tb r ⟨⟨va, z.ths.l⟩, ⟨vb, z.prs.l⟩, ⟨vc, z.pls.l⟩⟩ u ⟨st_blk hu (j := 2) rfl, hr.st hu, (oints_SlI hu (j := 3) rfl).tree, (oints_SlI hu (j := 4) rfl).tree, (oints_SlI hu (j := 5) rfl).tree⟩ (nth r.prs.l d.1).wh (hwh.st hu) (by show condIn z.ths.l.length _; rw [hlt]; exact hwi))) rfl ?_
     refine WS.det rfl rfl rfl (det_pick_and rfl rfl rfl) rfl ?_
     refine WS.det rfl rfl rfl (det_assign rfl) rfl ?_
     refine N1 ?_
     refine WS.det rfl rfl rfl (det_move rfl) rfl ?_
     refine WS.det rfl rfl rfl (det_move rfl) rfl ?_
     refine WS.guardF rfl rfl rfl rfl (fun hg => det_move rfl) rfl ?_
     refine WS.guardF rfl rfl rfl rfl (fun hg => det_le (ev_cond hg rfl) rfl) rfl ?_
     refine WS.guardF rfl rfl rfl rfl (fun hg => det_move (ev_cond hg rfl)) rfl ?_
     refine WS.guardN rfl rfl rfl rfl rfl (fun hg => (by first | exact det_fieldAddr rfl fo37_2 | exact det_fieldAddrS rfl fo37_2)) rfl ?_
     refine WS.guardN rfl rfl rfl rfl rfl (fun hg => (by first | exact det_loadb (j := 6) (ev_cond hg rfl) rfl rfl tk35 | exact det_loadw (ev_cond hg rfl) (by assumption) rfl tk35)) rfl ?_
     refine WS.guardN rfl rfl rfl rfl rfl (fun hg => det_move rfl) rfl ?_
     refine WS.guardN rfl rfl rfl rfl rfl (fun hg => det_sub rfl (ev_cond hg rfl) (by (try simp only [bq] at hg); omega)) rfl ?_
     refine WS.guardN rfl rfl rfl rfl rfl (fun hg => (by first | exact det_idxI sl35 (ev_cond hg rfl) (ev_cond hg rfl) (by assumption) (by (try simp only [bq] at hg); omega) (by (try simp only [bq] at hg); omega) | exact det_idxO sl35 (ev_cond hg rfl) (ev_cond hg rfl) (by (try simp only [bq] at hg); omega) (by (try simp only [bq] at hg); omega))) rfl ?_
     refine WS.guardN rfl rfl rfl rfl rfl (fun hg => (by first | exact det_ldI (ev_cond hg rfl) (by assumption) (by (try simp only [bq] at hg); omega) tk3 | exact det_loadb (j := 0) (ev_cond hg rfl) rfl rfl tk3 | exact det_loadb (j := 1) (ev_cond hg rfl) rfl rfl tk3 | exact det_loadb (j := 2) (ev_cond hg rfl) rfl rfl tk3 | exact det_loadb (j := 3) (ev_cond hg rfl) rfl rfl tk3 | exact det_loadb (j := 4) (ev_cond hg rfl) rfl rfl tk3 | exact det_loadb (j := 5) (ev_cond hg rfl) rfl rfl tk3 | exact det_loadb (j := 6) (ev_cond hg rfl) rfl rfl tk3 | exact det_loadb (j := 7) (ev_cond hg rfl) rfl rfl tk3 | exact det_loadb (j := 8) (ev_cond hg rfl) rfl rfl tk3 | exact det_loadb (j := 9) (ev_cond hg rfl) rfl rfl tk3 | exact det_loadb (j := 10) (ev_cond hg rfl) rfl rfl tk3 | exact det_loadw (ev_cond hg rfl) (by assumption) rfl tk3)) rfl ?_
     refine WS.guardN rfl rfl rfl rfl rfl (fun hg => det_move rfl) rfl ?_
     refine WS.guardN rfl rfl rfl rfl rfl (fun hg => det_eq (ev_cond hg rfl) (ev_cond hg rfl)) rfl ?_
     refine WS.guardF rfl rfl rfl rfl (fun hg => det_pick_and (ev_cond hg rfl) (ev_nestT hg rfl) rfl) rfl ?_
     refine WS.det rfl rfl rfl (det_pick_or rfl rfl rfl) rfl ?_
     refine N4 ?_
     refine CS.cond rfl (fun hc6 => ?_) (fun hc6 => ?_) <;> (try simp only [bq] at hc6)
     ·
      refine CS.region ?_
      refine WS.det rfl rfl rfl (det_move rfl) rfl ?_
      refine WS.det rfl rfl rfl (det_move rfl) rfl ?_
      refine WS.buildI1 sl35 zv3 rfl (fun _ => rfl) ?_; intro v95
      refine WS.appendI (j := 1) sl35 zv3 rfl rfl rfl (fun u hu => oints_SlI hu (j := 0) rfl) (by first | omega | (simp; omega) | (simp only [List.length_append, List.length_singleton, List.length_map, List.length_cons, List.length_nil] at *; omega)) (by first | omega | (simp; omega) | (simp only [List.length_append, List.length_singleton, List.length_map, List.length_cons, List.length_nil] at *; omega)) (fun _ => rfl) (fun _ => rfl) ?_; intro v96; refine WS.oc (j := 1) rfl (fun hv96 => ?_)
      refine WS.det rfl rfl rfl (det_assign rfl) rfl ?_
      refine WS.done ?_
      refine QS.block_normal ?_
      refine QS.then_code ?_
      refine CS.region ?_
      refine WS.det rfl rfl rfl (det_add rfl rfl (by omega)) rfl ?_
      refine WS.det rfl rfl rfl (det_move rfl) rfl ?_
      refine WS.done ?_
      refine QS.sel [1, 1, 1, 1, 1, 1, 1, 1] rfl ?_
      exact QS.head ((d.1 + 1, v96)) rfl (by first | simp only [filI_yes hd1 (show seeP r z.x (nth z.pls.l pl) d.1 = true by (unfold seeP; simp only [Stt.x]; grind))] | simp only [← filI_no hd1 (show seeP r z.x (nth z.pls.l pl) d.1 = false by (unfold seeP; simp only [Stt.x]; grind))]) ⟨⟨by simp; omega, by simp; omega⟩, by simp; omega⟩
     ·
      refine CS.skip ?_
      refine QS.block_normal ?_
      refine QS.then_code ?_
      refine CS.region ?_
      refine WS.det rfl rfl rfl (det_add rfl rfl (by omega)) rfl ?_
      refine WS.det rfl rfl rfl (det_move rfl) rfl ?_
      refine WS.done ?_
      exact QS.head ((d.1 + 1, d.2)) rfl (by first | simp only [filI_yes hd1 (show seeP r z.x (nth z.pls.l pl) d.1 = true by (unfold seeP; simp only [Stt.x]; grind))] | simp only [← filI_no hd1 (show seeP r z.x (nth z.pls.l pl) d.1 = false by (unfold seeP; simp only [Stt.x]; grind))]) ⟨⟨by simp; omega, by simp; omega⟩, by simp; omega⟩
    ·
     have hde : d.1 = r.prs.l.length := by omega
     refine CS.leave ?_
     iterate 2 refine QS.then_exit ?_
     refine QS.block_exit ?_
     refine QS.then_code ?_
     refine CS.seq ?_
     refine N3 ?_
     refine WS.det rfl rfl rfl ((by first | exact det_fieldAddr rfl fo37_2 | exact det_fieldAddrS rfl fo37_2)) rfl ?_
     refine WS.det rfl rfl rfl ((by first | exact det_loadb (j := 6) rfl rfl rfl tk35 | exact det_loadw rfl (by assumption) rfl tk35)) rfl ?_
     refine WS.det rfl rfl rfl ((by first | exact det_lenS sl35 rfl (by assumption) | exact det_lenS sl35 rfl (by first | exact SlL.sp (by assumption) | exact ClS.sp (by assumption)) | exact det_lenO sl35 rfl | exact det_lenV sl35 rfl ⟨_, _, rfl⟩)) rfl ?_
     refine WS.det rfl rfl rfl (det_move rfl) rfl ?_
     refine N4 ?_
     refine CS.block ?_
     refine CS.weak (fun _ hu => hu.osl0 (e := 3) (size := 1)) ?_
     refine CS.loopM (σ := Int × Value) [18, 19, 102, 103, 104, 105, 106, 107, 108, 109, 110, 111, 112, 113, 114, 115, 116, 117, 118] (fun s => [(101, .int .i64 s.1), (8, s.2)]) (fun s => [oints 3 s.2 (filI s.1 (seeL z.x (nth z.pls.l pl) pl)), oints 3 d.2 (filI d.1 (seeP r z.x (nth z.pls.l pl))), oints 3 a.2 (filI a.1 (seeT r (nth z.pls.l pl))), blk tb [r.pls.v, r.ths.v, r.prs.v, r.wys.v, r.acs.v, r.aus.v, .int .i64 r.ply, r.gl.v, va, vb, vc] 115, oints 3 va (z.ths.l), oints 3 vb (z.prs.l), oints 3 vc (z.pls.l), blk b4 [z.ths.v, z.prs.v, z.pls.v] 37, blk b3 [r.pls.v, r.ths.v, r.prs.v, r.wys.v, r.acs.v, r.aus.v, .int .i64 r.ply, r.gl.v] 31]) (fun s => 0 ≤ s.1 ∧ s.1 ≤ r.ply) (fun s => (r.ply - s.1).toNat) (0, .slice none 0 0) (fun _ _ => rfl) rfl rfl ⟨by simp, by first | (simp; done) | (simp; omega)⟩ ?_
     intro g t hs
     obtain ⟨hg1, hg2⟩ := hs
     have hfl := fun p => filI_len (n := g.1) (p := p) hg1
     refine N3 ?_
     refine WS.det rfl rfl rfl (det_lt rfl rfl) rfl ?_
     refine N4 ?_
     refine CS.seq ?_
     refine CS.cond rfl (fun hc7 => ?_) (fun hc7 => ?_) <;> (try simp only [bq] at hc7)
     ·
      have hfa := hfl (seeL z.x (nth z.pls.l pl) pl)
      refine CS.skip ?_
      refine QS.then_code ?_
      refine CS.seq ?_
      refine CS.block ?_
      refine N3 ?_
      refine WS.det rfl rfl rfl (det_move rfl) rfl ?_
      refine WS.det rfl rfl rfl ((by first | exact det_idxI sl35 rfl rfl (by assumption) (by omega) (by omega) | exact det_idxO sl35 rfl rfl (by omega) (by omega))) rfl ?_
      refine WS.det rfl rfl rfl ((by first | exact det_ldI rfl (by assumption) (by omega) tk3 | exact det_loadb (j := 0) rfl rfl rfl tk3 | exact det_loadb (j := 1) rfl rfl rfl tk3 | exact det_loadb (j := 2) rfl rfl rfl tk3 | exact det_loadb (j := 3) rfl rfl rfl tk3 | exact det_loadb (j := 4) rfl rfl rfl tk3 | exact det_loadb (j := 5) rfl rfl rfl tk3 | exact det_loadb (j := 6) rfl rfl rfl tk3 | exact det_loadb (j := 7) rfl rfl rfl tk3 | exact det_loadb (j := 8) rfl rfl rfl tk3 | exact det_loadb (j := 9) rfl rfl rfl tk3 | exact det_loadb (j := 10) rfl rfl rfl tk3 | exact det_loadw rfl (by assumption) rfl tk3)) rfl ?_
      refine WS.det rfl rfl rfl (det_assign rfl) rfl ?_
      refine WS.det rfl rfl rfl (det_assign rfl) rfl ?_
      refine N1 ?_
      refine WS.det rfl rfl rfl (det_move rfl) rfl ?_
      refine WS.det rfl rfl rfl (det_move rfl) rfl ?_
      refine WS.det rfl rfl rfl (det_ne rfl rfl) rfl ?_
      refine WS.det rfl rfl rfl (det_move rfl) rfl ?_
      refine WS.guardT rfl rfl rfl rfl (fun hg => det_move rfl) rfl ?_
      refine WS.guardT rfl rfl rfl rfl (fun hg => det_move rfl) rfl ?_
      refine WS.guardT rfl rfl rfl rfl (fun hg => det_eq (ev_cond hg rfl) (ev_cond hg rfl)) rfl ?_
      refine WS.det rfl rfl rfl (det_pick_and rfl rfl rfl) rfl ?_
      refine N4 ?_
      refine CS.cond rfl (fun hc8 => ?_) (fun hc8 => ?_) <;> (try simp only [bq] at hc8)
      ·
       refine CS.region ?_
       refine WS.det rfl rfl rfl (det_move rfl) rfl ?_
       refine WS.det rfl rfl rfl (det_move rfl) rfl ?_
       refine WS.buildI1 sl35 zv3 rfl (fun _ => rfl) ?_; intro v116
       refine WS.appendI (j := 1) sl35 zv3 rfl rfl rfl (fun u hu => oints_SlI hu (j := 0) rfl) (by first | omega | (simp; omega) | (simp only [List.length_append, List.length_singleton, List.length_map, List.length_cons, List.length_nil] at *; omega)) (by first | omega | (simp; omega) | (simp only [List.length_append, List.length_singleton, List.length_map, List.length_cons, List.length_nil] at *; omega)) (fun _ => rfl) (fun _ => rfl) ?_; intro v117; refine WS.oc (j := 1) rfl (fun hv117 => ?_)
       refine WS.det rfl rfl rfl (det_assign rfl) rfl ?_
       refine WS.done ?_
       refine QS.block_normal ?_
       refine QS.then_code ?_
       refine CS.region ?_
       refine WS.det rfl rfl rfl (det_add rfl rfl (by omega)) rfl ?_
       refine WS.det rfl rfl rfl (det_move rfl) rfl ?_
       refine WS.done ?_
       refine QS.sel [1, 1, 1, 1, 1, 1, 1, 1, 1] rfl ?_
       exact QS.head ((g.1 + 1, v117)) rfl (by first | simp only [filI_yes hg1 (show seeL z.x (nth z.pls.l pl) pl g.1 = true by (unfold seeL; simp only [Stt.x]; grind))] | simp only [← filI_no hg1 (show seeL z.x (nth z.pls.l pl) pl g.1 = false by (unfold seeL; simp only [Stt.x]; grind))]) ⟨⟨by simp; omega, by simp; omega⟩, by simp; omega⟩
      ·
       refine CS.skip ?_
       refine QS.block_normal ?_
       refine QS.then_code ?_
       refine CS.region ?_
       refine WS.det rfl rfl rfl (det_add rfl rfl (by omega)) rfl ?_
       refine WS.det rfl rfl rfl (det_move rfl) rfl ?_
       refine WS.done ?_
       exact QS.head ((g.1 + 1, g.2)) rfl (by first | simp only [filI_yes hg1 (show seeL z.x (nth z.pls.l pl) pl g.1 = true by (unfold seeL; simp only [Stt.x]; grind))] | simp only [← filI_no hg1 (show seeL z.x (nth z.pls.l pl) pl g.1 = false by (unfold seeL; simp only [Stt.x]; grind))]) ⟨⟨by simp; omega, by simp; omega⟩, by simp; omega⟩
     ·
      have hge : g.1 = r.ply := by omega
      refine CS.leave ?_
      iterate 2 refine QS.then_exit ?_
      refine QS.block_exit ?_
      refine QS.then_code ?_
      refine N3 ?_
      refine WS.det rfl rfl rfl (det_move rfl) rfl ?_
      refine WS.det rfl rfl rfl (det_move rfl) rfl ?_
      refine WS.det rfl rfl rfl (det_move rfl) rfl ?_
      refine WS.det rfl rfl rfl (det_assign rfl) rfl ?_
      refine WS.det rfl rfl rfl (det_assign rfl) rfl ?_
      refine WS.det rfl rfl rfl (det_assign rfl) rfl ?_
      refine WS.det rfl rfl rfl (det_assign rfl) rfl ?_
      refine N4 ?_
      refine CS.ret ?_
      exact outR (res4 rfl rfl rfl rfl rfl) (by
        have hv : LookV r z.x pl = (0, filI r.ths.l.length (seeT r (nth z.x.2.2 pl)), filI r.prs.l.length (seeP r z.x (nth z.x.2.2 pl)), filI r.ply (seeL z.x (nth z.x.2.2 pl) pl)) := (if_pos hS).trans (if_pos hp)
        rw [hv, ← hae, ← hde, ← hge]
        exact fun u hu => retS3 (i := 2) (j := 1) (k := 0) rfl rfl rfl hu)
end Go.Proofs.YtgbofmnbakfalaaDoor
