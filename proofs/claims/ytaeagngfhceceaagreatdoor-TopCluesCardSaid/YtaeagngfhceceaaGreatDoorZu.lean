/- Merged texts of this proof (walks and plain laws), printed by a program of the prover. -/
import Derived.Test.YtaeagngfhceceaaGreatDoorZt
import Derived.Test.YtaeagngfhceceaaGreatDoorZb
set_option maxHeartbeats 8000000
namespace Go.Proofs.YtaeagngfhceceaaGreatDoor
open Go.RowKit Go.Proofs
set_option maxRecDepth 100000
set_option linter.unusedVariables false
set_option linter.unusedSimpArgs false
theorem FarG_c (G : Game) (w : World) (hG : GameOk w G) :
  Calls Tryz.prog 14 #[.agg #[G.rm.pls.v, G.rm.ths.v, G.rm.prs.v, G.rm.wys.v, G.rm.acs.v, G.rm.aus.v, .int .i64 G.rm.ply, G.rm.gl.v, G.lks.v, G.cds.v, G.nts.v, .int .i64 G.tr]] w (RetB w (.bool (!clB (NearG G)))) := by
 have klk := hG.lks
 have llk := hG.lks.le
 have kcd := hG.cds
 have lcd := hG.cds.le
 have knt := hG.nts
 have lnt := hG.nts.le
 have kpl := hG.rm.pls
 have lpl := hG.rm.pls.le
 have kth := hG.rm.ths
 have lth := hG.rm.ths.le
 have kac := hG.rm.acs
 have lac := hG.rm.acs.le
 refine enter Tryz.func14 rfl rfl (Nat.le_of_ble_eq_true rfl) ?_
 refine Nz 0 ?_
 refine Wb 1 rfl rfl (fun _ => rfl) (fun _ => rfl) fun b1 hb1 => ?_
 refine Wd (Qc (Cs (Nz 1 ?_)))
 refine Wk 0 (by first | exact det_loadb0 (j := 0) rfl rfl tk31 | exact det_loadbN (j := 0) rfl rfl (by rfl) tk31 | exact det_loadwN rfl (by assumption) (by rfl) tk31 | exact det_loadbK (n := 8) (j := 0) rfl rfl rfl rfl tk31) ?_
 refine Wk 1 (Cb rfl rfl ent55 (fun u hu => Far_c G.rm u (hG.rm.st hu))) ?_
 refine Wf 0 rfl rfl (fun hg => Ff) ?_
 refine Wf 0 rfl rfl (fun hg => by first | exact det_loadb (j := 0) (eg_ hg rfl) rfl rfl tk32 | exact det_loadw (eg_ hg rfl) (by assumption) rfl tk32) ?_
 refine Wf 0 rfl rfl (fun hg => Nc (eg_ hg rfl)) ?_
 refine Wf 0 rfl rfl (fun hg => Fg) ?_
 refine Wk 1 Po ?_
 refine Wf 0 rfl rfl (fun hg => Ff) ?_
 refine Wf 0 rfl rfl (fun hg => by first | exact det_loadb (j := 0) (eg_ hg rfl) rfl rfl tk33 | exact det_loadw (eg_ hg rfl) (by assumption) rfl tk33) ?_
 refine Wf 0 rfl rfl (fun hg => Nc (eg_ hg rfl)) ?_
 refine Wf 0 rfl rfl (fun hg => Fg) ?_
 refine Wk 1 Po ?_
 refine Wf 0 rfl rfl (fun hg => Ff) ?_
 refine Wf 0 rfl rfl (fun hg => by first | exact det_loadb (j := 0) (eg_ hg rfl) rfl rfl tk34 | exact det_loadw (eg_ hg rfl) (by assumption) rfl tk34) ?_
 refine Wf 0 rfl rfl (fun hg => Nc (eg_ hg rfl)) ?_
 refine Wf 0 rfl rfl (fun hg => Fg) ?_
 refine Wk 0 Po ?_
 refine Wd (Qc (CS.cond rfl ?_ ?_))<;>intro hc1<;>try simp only [bq] at hc1
 ·
  refine Nz 1 ?_
  exact Wd (Qc (Cr (Qr (out1 rfl rfl (retBe (by rw [clB_f (fun h => by have h1 := clB_t h.rm; have := h.lks; have := h.cds; have := h.nts; rw [h1] at hc1; simp at hc1; omega)]; rfl))))))
 ·
  refine Ck (Qc (Cs (Nz 1 ?_)))
  refine Wd (Qc (Ce ?_))
  refine CS.loopM (σ := Int) [2, 28, 29, 30, 31, 32, 33, 34, 35, 36, 37, 38, 39, 40, 41, 42, 43, 44, 45, 46, 47, 48, 49, 50] (fun s => [(3, .int .i64 s)]) (fun _ => _) (fun s => 0 ≤ s ∧ s ≤ G.lks.l.length ∧ ∀ j : Int, 0 ≤ j → j < s → ¬ (3 < (nth G.lks.l j).w ∧ 5 < (nth G.lks.l j).s)) (fun s => (G.lks.l.length - s).toNat) 0 (fun _ _ => rfl) rfl rfl ⟨by omega, by omega, fun j _ _ => by omega⟩ ?_
  intro a t hs
  obtain ⟨ha1, ha2, ha3⟩ := hs
  refine Cs (Nz 2 ?_)
  refine Wk 0 (by first | exact det_loadb (j := 0) rfl rfl rfl tk32 | exact det_loadw rfl (by assumption) rfl tk32) ?_
  refine Wk 1 Nc ?_
  refine Wd (Qc (CS.cond rfl ?_ ?_))<;>intro hc2<;>try simp only [bq] at hc2
  ·
   refine Ck (Qc (Cs (Ce (Nz 1 ?_))))
   refine Wk 1 (by first | exact det_loadb (j := 0) rfl rfl rfl tk32 | exact det_loadw rfl (by assumption) rfl tk32) ?_
   refine Wk 1 Xc ?_
   refine Wk 2 (Uc 2 0) ?_
   refine Wt 0 rfl rfl (fun hg => Ff) ?_
   refine Wt 0 rfl rfl (fun hg => by first | exact det_loadb (j := 0) (eg_ hg rfl) rfl rfl tk32 | exact det_loadw (eg_ hg rfl) (by assumption) rfl tk32) ?_
   refine Wt 0 rfl rfl (fun hg => Fm) ?_
   refine Wt 0 rfl rfl (fun hg => Xc (eg_ hg rfl)) ?_
   refine Wt 0 rfl rfl (fun hg => Ff) ?_
   refine Wt 0 rfl rfl (fun hg => Uc 2 1) ?_
   refine Wt 0 rfl rfl (fun hg => Fg) ?_
   refine Wk 0 Pa ?_
   refine Wd (Qc (CS.cond rfl ?_ ?_))<;>intro hc3<;>try simp only [bq] at hc3
   ·
    refine Nz 1 ?_
    exact Wd (Qc (Cr (Qs (Qr (Qr (Qs (Qr (out1 rfl rfl (retBe (by rw [clB_f (fun h => by have := h.lk _ (nth_mem ha1 (by omega)); omega)]; rfl))))))))))
   ·
    refine Ck (Qb (Qc (Ny 1 ?_)))
    refine Wk 1 Za ?_
    refine Wd ?_
    exact QS.head (a + 1) rfl rfl ⟨⟨by omega, by omega, fun j h0 h1 => by
       rcases (show j < a ∨ j = a by omega) with h | h
       ·
        exact ha3 j h0 h
       ·
        rw [h]; omega⟩, by omega⟩
  ·
   refine Cv (Qe (Qe (Qx (Qc (Cs (Nz 1 ?_))))))
   refine Wd (Qc (Ce ?_))
   refine CS.loopM (σ := Int) [2, 51, 52, 53, 54, 55, 56, 57, 58, 59, 60, 61, 62, 63, 64] (fun s => [(4, .int .i64 s)]) (fun _ => _) (fun s => 0 ≤ s ∧ s ≤ G.cds.l.length ∧ ∀ j : Int, 0 ≤ j → j < s → (nth G.cds.l j).l.length ≤ 10) (fun s => (G.cds.l.length - s).toNat) 0 (fun _ _ => rfl) rfl rfl ⟨by omega, by omega, fun j _ _ => by omega⟩ ?_
   intro b t hs
   obtain ⟨hb1, hb2, hb3⟩ := hs
   refine Cs (Nz 2 ?_)
   refine Wk 0 (by first | exact det_loadb (j := 0) rfl rfl rfl tk33 | exact det_loadw rfl (by assumption) rfl tk33) ?_
   refine Wk 1 Nc ?_
   refine Wd (Qc (CS.cond rfl ?_ ?_))<;>intro hc4<;>try simp only [bq] at hc4
   ·
    have hcd : SlT cInt w (nth G.cds.l b) := kcd.at hb1 (by omega)
    have hci := hcd.ints
    refine Ck (Qc (Cs (Ce (Nz 1 ?_))))
    refine Wk 1 (by first | exact det_loadb (j := 0) rfl rfl rfl tk33 | exact det_loadw rfl (by assumption) rfl tk33) ?_
    refine Wk 0 Xc ?_
    refine Wk 0 Ub ?_
    refine Wk 1 (by first | exact det_lenS sl42 rfl (by assumption) | exact det_lenS sl42 rfl (by first | exact SlL.sp (by assumption) | exact ClS.sp (by assumption)) | exact det_lenO sl42 rfl | exact det_lenV sl42 rfl ⟨_, _, rfl⟩) ?_
    refine Wd (Qc (CS.cond rfl ?_ ?_))<;>intro hc5<;>try simp only [bq] at hc5
    ·
     refine Nz 1 ?_
     exact Wd (Qc (Cr (Qs (Qr (Qr (Qs (Qr (out1 rfl rfl (retBe (by rw [clB_f (fun h => by have := h.cd _ (nth_mem hb1 (by omega)); omega)]; rfl))))))))))
    ·
     refine Ck (Qb (Qc (Ny 1 ?_)))
     refine Wk 1 Za ?_
     refine Wd ?_
     exact QS.head (b + 1) rfl rfl ⟨⟨by omega, by omega, fun j h0 h1 => by
        rcases (show j < b ∨ j = b by omega) with h | h
        ·
         exact hb3 j h0 h
        ·
         rw [h]; omega⟩, by omega⟩
   ·
    refine Cv (Qe (Qe (Qx (Qc (Cs (Nz 1 ?_))))))
    refine Wd (Qc (Ce ?_))
    refine CS.loopM (σ := Int) [2, 6, 65, 66, 67, 68, 69, 70, 71, 72, 73, 74, 75, 76, 77, 78, 79, 80, 81, 82, 83, 84, 85, 86, 87, 88, 89, 90, 91, 92, 93] (fun s => [(5, .int .i64 s)]) (fun _ => _) (fun s => 0 ≤ s ∧ s ≤ G.nts.l.length ∧ ∀ j : Int, 0 ≤ j → j < s → ((nth G.nts.l j).nm.size ≤ 100 ∧ (nth G.nts.l j).wh.l.length ≤ 20 ∧ (nth G.nts.l j).cl.g.length ≤ 10)) (fun s => (G.nts.l.length - s).toNat) 0 (fun _ _ => rfl) rfl rfl ⟨by omega, by omega, fun j _ _ => by omega⟩ ?_
    intro d t hs
    obtain ⟨hd1, hd2, hd3⟩ := hs
    refine Cs (Nz 2 ?_)
    refine Wk 0 (by first | exact det_loadb (j := 0) rfl rfl rfl tk34 | exact det_loadw rfl (by assumption) rfl tk34) ?_
    refine Wk 1 Nc ?_
    refine Wd (Qc (CS.cond rfl ?_ ?_))<;>intro hc6<;>try simp only [bq] at hc6
    ·
     have hnt : cNote.ok w (nth G.nts.l d) := knt.at hd1 (by omega)
     have hwh := hnt.1
     have hgv := hnt.2
     refine Ck (Qc (Cs (Ce (Nz 1 ?_))))
     refine Wk 1 (by first | exact det_loadb (j := 0) rfl rfl rfl tk34 | exact det_loadw rfl (by assumption) rfl tk34) ?_
     refine Wk 0 Xc ?_
     refine Wk 0 Ua ?_
     refine Wl 0 zv50 (fun _ => rfl) (fun _ => rfl) fun b6 hb6 => ?_
     refine Wv 0 0 ?_
     refine Wd (Qc (Nz 1 ?_))
     refine Wk 0 (by first | exact det_loadb (j := 0) rfl rfl rfl tk9 | exact det_loadw rfl (by assumption) rfl tk9) ?_
     refine Wk 2 (det_lenStr Tryz.underlying9 rfl) ?_
     refine Wf 0 rfl rfl (fun hg => Ff) ?_
     refine Wf 0 rfl rfl (fun hg => by first | exact det_loadb (j := 0) (eg_ hg rfl) rfl rfl tk29 | exact det_loadw (eg_ hg rfl) (by assumption) rfl tk29) ?_
     refine Wf 0 rfl rfl (fun hg => Nc (eg_ hg rfl)) ?_
     refine Wf 0 rfl rfl (fun hg => Fg) ?_
     refine Wk 1 Po ?_
     refine Wf 0 rfl rfl (fun hg => Ff) ?_
     refine Wf 0 rfl rfl (fun hg => Ff) ?_
     refine Wf 0 rfl rfl (fun hg => by first | exact det_loadb (j := 0) (eg_ hg rfl) rfl rfl tk42 | exact det_loadw (eg_ hg rfl) (by assumption) rfl tk42) ?_
     refine Wf 0 rfl rfl (fun hg => by first | exact det_lenS sl42 (eg_ hg rfl) (by assumption) | exact det_lenS sl42 (eg_ hg rfl) (by first | exact SlL.sp (by assumption) | exact ClS.sp (by assumption)) | exact det_lenO sl42 (eg_ hg rfl) | exact det_lenV sl42 (eg_ hg rfl) ⟨_, _, rfl⟩) ?_
     refine Wf 0 rfl rfl (fun hg => Fg) ?_
     refine Wk 0 Po ?_
     refine Wd (Qc (CS.cond rfl ?_ ?_))<;>intro hc7<;>try simp only [bq] at hc7
     ·
      refine Nz 1 ?_
      exact Wd (Qc (Cr (Qs (Qr (Qr (Qs (Qr (out1 rfl rfl (retBe (by rw [clB_f (fun h => by have := h.nt _ (nth_mem hd1 (by omega)); omega)]; rfl))))))))))
     ·
      refine Ck (Qb (Qc (Ny 1 ?_)))
      refine Wk 1 Za ?_
      refine Wd ?_
      refine QS.sel [1] rfl ?_
      exact QS.head (d + 1) rfl rfl ⟨⟨by omega, by omega, fun j h0 h1 => by
         rcases (show j < d ∨ j = d by omega) with h | h
         ·
          exact hd3 j h0 h
         ·
          rw [h]; omega⟩, by omega⟩
    ·
     refine Cv (Qe (Qe (Qx (Qc (Nz 1 ?_)))))
     exact Wd (Qc (Cr (out1 rfl rfl (retBe (by rw [clB_t ⟨clB_iff.1 (by grind), by omega, by omega, by omega, mem_all hc2 ha3, mem_all hc4 hb3, mem_all hc6 hd3⟩]; rfl)))))
end Go.Proofs.YtaeagngfhceceaaGreatDoor
set_option maxHeartbeats 8000000
namespace Go.Proofs.YtaeagngfhceceaaGreatDoor
open Go.RowKit Go.Proofs
set_option maxRecDepth 100000
set_option linter.unusedVariables false
set_option linter.unusedSimpArgs false
theorem filI_nodup {n : Int} {p : Int → Bool} : (filI n p).Nodup := by
 unfold filI iotaI
 refine List.Pairwise.filter _ ?_
 exact List.pairwise_map.2 (List.nodup_range.imp fun h e => h (by omega))
theorem getD_inj {A : List Int} (hn : A.Nodup) {i j : Nat} (hi : i < A.length) (hj : j < A.length) (h : A.getD i default = A.getD j default) : i = j := by
 have e : ∀ k, (hk : k < A.length) → A.getD k default = A[k] := fun k hk => by simp [List.getD, hk]
 rw [e i hi, e j hj] at h
 have hp := List.pairwise_iff_getElem.1 hn
 rcases Nat.lt_trichotomy i j with h1 | h1 | h1
 ·
  exact absurd h (hp i j hi hj h1)
 ·
  exact h1
 ·
  exact absurd h.symm (hp j i hj hi h1)
theorem pick_filt {A : List Int} (hn : A.Nodup) {n : Nat} (h : n < A.length) : ∀ {is : List Nat}, (∀ k ∈ is, k < A.length) → (pickN A is).filter (fun k => !decide (k = A.getD n default)) = pickN A (is.filter fun k => !decide (k = n))
 | [], _ => rfl
 | x :: is, hl => by
  have ih := pick_filt hn h (is := is) fun k hk => hl k (List.mem_cons_of_mem _ hk)
  have hx := hl x List.mem_cons_self
  unfold pickN at ih ⊢
  rw [List.map_cons, List.filter_cons, List.filter_cons]
  by_cases e : x = n
  ·
   subst e; simp only [decide_true, Bool.not_true]; exact ih
  ·
   have e2 : ¬ A.getD x default = A.getD n default := fun q => e (getD_inj hn hx h q)
   rw [decide_eq_false e, decide_eq_false e2]
   simp only [Bool.not_false, if_true]
   rw [List.map_cons, ih]
theorem cls_pick {G : GP} {A : List Int} {is : List Nat} (hl : ∀ k ∈ is, k < A.length) : clsN G (pickN A is) = pickN (clsN G A) is := by
 unfold clsN pickN
 rw [List.map_map]
 refine List.map_congr_left fun k hk => ?_
 have := hl k hk
 simp [List.getD, this]
theorem need_core {G : GP} {lk : Int} : ∀ {n : Nat}, n ≤ (allN G lk).length → needX G lk n = pickN (allN G lk) (coreTo (nth G.lks lk).w (nth G.lks lk).s (clsN G (allN G lk)) n ++ restN (allN G lk).length n)
 | 0, _ => by rw [needX, coreTo, restN_zero, List.nil_append, pickN_all]
 | n + 1, h => by
  have hlt : n < (allN G lk).length := h
  have ih := need_core (G := G) (lk := lk) (n := n) (by omega)
  have hcl : (clsN G (allN G lk)).length = (allN G lk).length := by simp [clsN]
  have hc : ∀ k ∈ coreTo (nth G.lks lk).w (nth G.lks lk).s (clsN G (allN G lk)) n, k < n := coreTo_lt _ _ _ n
  have hnd : (allN G lk).Nodup := filI_nodup
  have hall : ∀ k ∈ coreTo (nth G.lks lk).w (nth G.lks lk).s (clsN G (allN G lk)) n ++ restN (allN G lk).length n, k < (allN G lk).length := fun k hk => by
   rcases List.mem_append.1 hk with h1 | h1
   ·
    have := hc k h1; omega
   ·
    exact (restN_mem h1).2
  have hgn : nth (allN G lk) (n : Int) = (allN G lk).getD n default := rfl
  have hf : (needX G lk n).filter (fun k => !decide (k = nth (allN G lk) n)) = pickN (allN G lk) (coreTo (nth G.lks lk).w (nth G.lks lk).s (clsN G (allN G lk)) n ++ restN (allN G lk).length (n + 1)) := by
   rw [hgn, ih, pick_filt hnd hlt hall, List.filter_append, restN_cons hlt, List.filter_cons]
   simp only [decide_true, Bool.not_true]
   congr 2
   ·
    exact List.filter_eq_self.2 fun k hk => by have := hc k hk; simp; omega
   ·
    exact List.filter_eq_self.2 fun k hk => by have := (restN_mem hk).1; simp; omega
  have hall2 : ∀ k ∈ coreTo (nth G.lks lk).w (nth G.lks lk).s (clsN G (allN G lk)) n ++ restN (allN G lk).length (n + 1), k < (allN G lk).length := fun k hk => by
   rcases List.mem_append.1 hk with h1 | h1
   ·
    have := hc k h1; omega
   ·
    exact (restN_mem h1).2
  have hr1 : readN G lk (pickN (allN G lk) (coreTo (nth G.lks lk).w (nth G.lks lk).s (clsN G (allN G lk)) n ++ restN (allN G lk).length (n + 1))) = ((readL (nth G.lks lk).w (nth G.lks lk).s (pickN (clsN G (allN G lk)) (coreTo (nth G.lks lk).w (nth G.lks lk).s (clsN G (allN G lk)) n ++ restN (clsN G (allN G lk)).length (n + 1)))).length : Int) := by
   unfold readN; rw [cls_pick hall2, hcl]
  rw [needX, hf, coreTo]
  by_cases hcond : (readL (nth G.lks lk).w (nth G.lks lk).s (pickN (clsN G (allN G lk)) (coreTo (nth G.lks lk).w (nth G.lks lk).s (clsN G (allN G lk)) n ++ restN (clsN G (allN G lk)).length (n + 1)))).length = (readL (nth G.lks lk).w (nth G.lks lk).s (clsN G (allN G lk))).length
  ·
   rw [if_pos hcond, if_pos (by rw [hr1, hcond]; rfl)]
  ·
   rw [if_neg hcond, if_neg (fun q => hcond (by rw [hr1] at q; unfold readN at q; exact Int.ofNat.inj q)), ih, restN_cons hlt, List.append_assoc]
   rfl
theorem need_all {G : GP} {lk : Int} : needX G lk (allN G lk).length = (coreTo (nth G.lks lk).w (nth G.lks lk).s (clsN G (allN G lk)) (allN G lk).length).map (fun k : Nat => nth (allN G lk) (k : Int)) := by
 rw [need_core (Nat.le_refl _), restN_end, List.append_nil]; rfl
theorem NeededI_c (G : Game) (w : World) (hG : GameOk w G) (g : Sl ByteArray) (hW : GOk w g) (hn : NearG G) (lk : Int) :
  Calls Tryz.prog 19 #[.agg #[G.rm.pls.v, G.rm.ths.v, G.rm.prs.v, G.rm.wys.v, G.rm.acs.v, G.rm.aus.v, .int .i64 G.rm.ply, G.rm.gl.v, G.lks.v, G.cds.v, G.nts.v, .int .i64 G.tr], .int .i64 lk] w (fun e w' => ∃ x : Value, (∃ u0, SlI u0 x (NeedV G.p lk).2) ∧ RetF w (.tuple #[x, .int .i64 (NeedV G.p lk).1]) (roI x (NeedV G.p lk).2) e w') := by
 have klk := hG.lks
 have llk := hG.lks.le
 refine enter Tryz.func19 rfl rfl (Nat.le_of_ble_eq_true rfl) ?_
 refine Nz 0 ?_
 refine Wb 2 rfl rfl (fun _ => rfl) (fun _ => rfl) fun b2 hb2 => ?_
 refine Wd (Qc (Cs (Nz 0 ?_)))
 refine Wk 0 (by first | exact det_loadb0 (j := 0) rfl rfl tk36 | exact det_loadbN (j := 0) rfl rfl (by rfl) tk36 | exact det_loadwN rfl (by assumption) (by rfl) tk36 | exact det_loadbK (n := 12) (j := 0) rfl rfl rfl rfl tk36) ?_
 refine Wk 1 (Cb rfl rfl ent46 (fun u hu => GICheck_c G u (hG.st hu) g (hW.st hu) hn)) ?_
 refine Wd (Qc (Nz 2 ?_))
 refine Wd (Qc (CS.cond rfl ?_ ?_))<;>intro hc1<;>try simp only [bq] at hc1
 ·
  refine Nz 3 ?_
  refine Wd (Qc (Cr (Qr ?_)))
  exact out2 rfl rfl rfl (by
    have hv : NeedV G.p lk = (checkG G.p, []) := if_neg hc1
    rw [hv]
    exact retIn (f := fun v => .tuple #[v, .int .i64 (checkG G.p)]) rfl rfl)
 ·
  have hV := good_of hc1
  have hnl := hV.nl
  have hnn := hV.nn
  refine Ck (Qc (Cs (Nz 0 ?_)))
  refine Wk 1 (by first | exact det_loadb0 (j := 0) rfl rfl tk36 | exact det_loadbN (j := 0) rfl rfl (by rfl) tk36 | exact det_loadwN rfl (by assumption) (by rfl) tk36 | exact det_loadbK (n := 12) (j := 0) rfl rfl rfl rfl tk36) ?_
  refine Wk 1 (Cb rfl rfl ent66 (fun u hu => hasLock_c G u (hG.st hu) _)) ?_
  refine Wd (Qc (Nz 2 ?_))
  refine Wd (Qc (CS.cond rfl ?_ ?_))<;>intro hc2<;>try simp only [bq] at hc2
  ·
   have hnin : ¬ (0 ≤ lk ∧ lk ≤ (G.lks.l.length : Int) - 1) := fun h9 => hc2 (if_pos h9)
   have hlo : ¬ (decide (0 ≤ lk) && decide (lk ≤ (G.lks.l.length : Int) - 1)) = true := by simp only [Bool.and_eq_true, decide_eq_true_eq]; exact hnin
   refine Nz 3 ?_
   refine Wd (Qc (Cr (Qr ?_)))
   exact out2 rfl rfl rfl (by
     have hv : NeedV G.p lk = (1, []) := (if_pos hc1).trans (if_neg hlo)
     rw [hv, if_neg hlo]
     exact retIn (f := fun v => .tuple #[v, .int .i64 1]) rfl rfl)
  ·
   have hin : 0 ≤ lk ∧ lk ≤ (G.lks.l.length : Int) - 1 := by
      by_cases h9 : 0 ≤ lk ∧ lk ≤ (G.lks.l.length : Int) - 1
      ·
       exact h9
      ·
       rw [if_neg h9] at hc2; exact absurd hc2 (by decide)
   have hlo : (decide (0 ≤ lk) && decide (lk ≤ (G.lks.l.length : Int) - 1)) = true := by simp only [Bool.and_eq_true, decide_eq_true_eq]; exact hin
   have hE := cluesE_ok hV hin.1 (show lk < G.lks.l.length by omega) (about_of (p := fun _ => true)) (Nat.le_trans (about_len hV _ _) (by decide))
   have hal := about_len hV (fun _ => true) lk
   have hcgl : (clsG G (aboutN G.p lk fun _ => true)).length = (aboutN G.p lk fun _ => true).length := by simp [clsG]
   refine Ck (Qc (Nz 0 ?_))
   refine Wk 1 (by first | exact det_loadb0 (j := 0) rfl rfl tk36 | exact det_loadbN (j := 0) rfl rfl (by rfl) tk36 | exact det_loadwN rfl (by assumption) (by rfl) tk36 | exact det_loadbK (n := 12) (j := 0) rfl rfl rfl rfl tk36) ?_
   refine Wc rfl rfl ent64 (fun u hu => about_c G u (hG.st hu) (by omega) lk _ [] (fun _ ↦ true) ent65 (fun u2 _ i _ _ ↦ every_c i u2)) (fun _ => rfl) ?_; rintro ⟨v28, v29⟩ ⟨hv28, hv29⟩
   refine WS.unpack ?_
   refine Wz 5 ?_
   refine Wd (Qc (Nz 1 ?_))
   refine Wk 1 (by first | exact det_loadb (j := 2) rfl rfl rfl tk32 | exact det_loadw rfl (by assumption) rfl tk32) ?_
   refine Wk 0 Xc ?_
   refine Wk 1 Ua ?_
   refine Wc rfl rfl ent67 (fun u hu => Core_k _ _ _ _ _ u (clS_of (hG.st hu) about_of (osl_SlC hu (j := 1) rfl))) (fun _ => rfl) ?_; rintro vq ⟨uq, hvq⟩
   rw [if_pos hE] at hvq ⊢
   have hql : ((coreTo (nth G.lks.l lk).w (nth G.lks.l lk).s (clsG G (aboutN G.p lk fun _ => true)) (clsG G (aboutN G.p lk fun _ => true)).length).map Int.ofNat).length ≤ 1000 := by rw [List.length_map]; exact Nat.le_trans (coreTo_len _ _ _ _) (by omega)
   refine Wz 5 ?_
   refine Wd (Qc (Cs (Nz 2 ?_)))
   refine Wd (Qc (CS.cond rfl ?_ ?_))<;>intro hc3<;>try simp only [bq] at hc3
   ·
    exact absurd hE hc3
   ·
    refine Ck (Qc (Cs (Nz 1 ?_)))
    refine Wk 1 (det_lenS sl42 rfl hvq) ?_
    refine Wd (Qc (Ce ?_))
    refine CS.weak (fun _ hu => hu.osl0 (e := 3) (size := 1)) ?_
    refine CS.sel [0, 0, 0, 1] rfl ?_
    refine CS.loopM (σ := Int × Value) [12, 46, 47, 48, 49, 50, 51, 52, 53, 54, 55, 56] (fun s => [(45, .int .i64 s.1), (4, s.2)]) (fun s => [oints 3 s.2 ((((coreTo (nth G.lks.l lk).w (nth G.lks.l lk).s (clsG G (aboutN G.p lk fun _ => true)) (clsG G (aboutN G.p lk fun _ => true)).length).map Int.ofNat).take s.1.toNat).map fun k => nth (aboutN G.p lk fun _ => true) k), roI vq ((coreTo (nth G.lks.l lk).w (nth G.lks.l lk).s (clsG G (aboutN G.p lk fun _ => true)) (clsG G (aboutN G.p lk fun _ => true)).length).map Int.ofNat), oints 3 v28 (aboutN G.p lk fun _ => true), blk b2 [G.rm.pls.v, G.rm.ths.v, G.rm.prs.v, G.rm.wys.v, G.rm.acs.v, G.rm.aus.v, .int .i64 G.rm.ply, G.rm.gl.v, G.lks.v, G.cds.v, G.nts.v, .int .i64 G.tr] 36]) (fun s => 0 ≤ s.1 ∧ s.1 ≤ ((coreTo (nth G.lks.l lk).w (nth G.lks.l lk).s (clsG G (aboutN G.p lk fun _ => true)) (clsG G (aboutN G.p lk fun _ => true)).length).map Int.ofNat).length) (fun s => (((coreTo (nth G.lks.l lk).w (nth G.lks.l lk).s (clsG G (aboutN G.p lk fun _ => true)) (clsG G (aboutN G.p lk fun _ => true)).length).map Int.ofNat).length - s.1).toNat) (0, .slice none 0 0) (fun _ _ => rfl) rfl rfl ⟨by simp, by simp⟩ ?_
    intro a t hs
    obtain ⟨ha1, ha2⟩ := hs
    refine Nz 1 ?_
    refine Wd (Qc (Cs (CS.cond rfl ?_ ?_)))<;>intro hc4<;>try simp only [bq] at hc4
    ·
     have hci : 0 ≤ nth ((coreTo (nth G.lks.l lk).w (nth G.lks.l lk).s (clsG G (aboutN G.p lk fun _ => true)) (clsG G (aboutN G.p lk fun _ => true)).length).map Int.ofNat) a.1 ∧ nth ((coreTo (nth G.lks.l lk).w (nth G.lks.l lk).s (clsG G (aboutN G.p lk fun _ => true)) (clsG G (aboutN G.p lk fun _ => true)).length).map Int.ofNat) a.1 < (aboutN G.p lk fun _ => true).length := by
        obtain ⟨k, hk, he⟩ := List.mem_map.1 (nth_mem (xs := ((coreTo (nth G.lks.l lk).w (nth G.lks.l lk).s (clsG G (aboutN G.p lk fun _ => true)) (clsG G (aboutN G.p lk fun _ => true)).length).map Int.ofNat)) ha1 (by omega))
        have := coreTo_lt _ _ _ _ k hk
        rw [← he]
        show 0 ≤ (k : Int) ∧ (k : Int) < _
        omega
     have htl := List.length_take_le a.1.toNat ((coreTo (nth G.lks.l lk).w (nth G.lks.l lk).s (clsG G (aboutN G.p lk fun _ => true)) (clsG G (aboutN G.p lk fun _ => true)).length).map Int.ofNat)
     refine Ck (Qc (Cs (Ce (Nz 0 ?_))))
     refine Wk 0 (det_idxI sl42 rfl rfl hvq (by omega) (by omega)) ?_
     refine Wk 1 (det_ldIR rfl (j := 1) rfl ⟨by omega, by omega⟩ tk3) ?_
     refine Wd (Qc (Ny 3 ?_))
     refine Wk 0 (Xb 2) ?_
     refine Wk 0 (det_ldOI rfl (j := 2) rfl ⟨by omega, by omega⟩ tk3) ?_
     refine WS.buildI1 sl42 zv3 rfl (fun _ => rfl) ?_; intro v54
     refine WS.appendI (j := 1) sl42 zv3 rfl rfl rfl (fun u hu => oints_SlI hu (j := 0) rfl) (by first | omega | (simp; omega) | (simp only [List.length_append, List.length_singleton, List.length_map, List.length_cons, List.length_nil] at *; omega)) (by first | omega | (simp; omega) | (simp only [List.length_append, List.length_singleton, List.length_map, List.length_cons, List.length_nil] at *; omega)) (fun _ => rfl) (fun _ => rfl) ?_; intro v55; refine WS.oc (j := 1) rfl (fun hv55 => ?_)
     refine Wz 1 ?_
     refine Wd (Qb (Qc (Ny 0 ?_)))
     refine Wk 1 Za ?_
     refine Wd ?_
     refine QS.sel [1, 1, 1, 1] rfl ?_
     exact QS.head ((a.1 + 1, v55)) rfl (by simp only [map_snoc (fun k => nth (aboutN G.p lk fun _ => true) k) ha1 (by omega : a.1 < ((coreTo (nth G.lks.l lk).w (nth G.lks.l lk).s (clsG G (aboutN G.p lk fun _ => true)) (clsG G (aboutN G.p lk fun _ => true)).length).map Int.ofNat).length)]) ⟨⟨by show (0 : Int) ≤ a.1 + 1; omega, by show a.1 + 1 ≤ (((coreTo (nth G.lks.l lk).w (nth G.lks.l lk).s (clsG G (aboutN G.p lk fun _ => true)) (clsG G (aboutN G.p lk fun _ => true)).length).map Int.ofNat).length : Int); omega⟩, by show ((((coreTo (nth G.lks.l lk).w (nth G.lks.l lk).s (clsG G (aboutN G.p lk fun _ => true)) (clsG G (aboutN G.p lk fun _ => true)).length).map Int.ofNat).length : Int) - (a.1 + 1)).toNat < ((((coreTo (nth G.lks.l lk).w (nth G.lks.l lk).s (clsG G (aboutN G.p lk fun _ => true)) (clsG G (aboutN G.p lk fun _ => true)).length).map Int.ofNat).length : Int) - a.1).toNat; omega⟩
    ·
     have hta : ((coreTo (nth G.lks.l lk).w (nth G.lks.l lk).s (clsG G (aboutN G.p lk fun _ => true)) (clsG G (aboutN G.p lk fun _ => true)).length).map Int.ofNat).take a.1.toNat = ((coreTo (nth G.lks.l lk).w (nth G.lks.l lk).s (clsG G (aboutN G.p lk fun _ => true)) (clsG G (aboutN G.p lk fun _ => true)).length).map Int.ofNat) := List.take_of_length_le (by omega)
     refine Cv (Qe (Qe (Qx (Qc (Nz 3 ?_)))))
     refine Wd (Qc (Cr ?_))
     exact out2 rfl rfl rfl (by
       have hv : NeedV G.p lk = (0, (((coreTo (nth G.lks.l lk).w (nth G.lks.l lk).s (clsG G (aboutN G.p lk fun _ => true)) (clsG G (aboutN G.p lk fun _ => true)).length).map Int.ofNat).take a.1.toNat).map fun k => nth (aboutN G.p lk fun _ => true) k) := (if_pos hc1).trans ((if_pos hlo).trans (by rw [hta, need_all, List.map_map, hcgl, ← about_all, clsN_p]; rfl))
       rw [hv]
       exact retIe (f := fun v => .tuple #[v, .int .i64 0]) (j := 0) rfl rfl rfl)
end Go.Proofs.YtaeagngfhceceaaGreatDoor
set_option maxHeartbeats 8000000
namespace Go.Proofs.YtaeagngfhceceaaGreatDoor
open Go.RowKit Go.Proofs
set_option maxRecDepth 100000
set_option linter.unusedVariables false
set_option linter.unusedSimpArgs false
def RetGm (w : World) (G : Game) : Ending → World → Prop := fun e w' => ∃ c : Game, (c.p = G.p ∧ ∃ u0, GameOk u0 c) ∧ RetF w (.agg #[c.rm.pls.v, c.rm.ths.v, c.rm.prs.v, c.rm.wys.v, c.rm.acs.v, c.rm.aus.v, .int .i64 c.rm.ply, c.rm.gl.v, c.lks.v, c.cds.v, c.nts.v, .int .i64 c.tr]) (roS fun u => GameOk u c) e w'
end Go.Proofs.YtaeagngfhceceaaGreatDoor
set_option maxHeartbeats 8000000
namespace Go.Proofs.YtaeagngfhceceaaGreatDoor
open Go.RowKit Go.Proofs
set_option maxRecDepth 100000
set_option linter.unusedVariables false
set_option linter.unusedSimpArgs false
theorem near_p {c G : Game} (h : c.p = G.p) (hn : NearG G) : NearG c := by
 have e1 : c.rm.e = G.rm.e := congrArg GP.rm h
 have e2 : c.lks.l = G.lks.l := congrArg GP.lks h
 have e3 : c.cds.l.map Sl.l = G.cds.l.map Sl.l := congrArg GP.cds h
 have e4 : c.nts.l.map NoteD.p = G.nts.l.map NoteD.p := congrArg GP.nts h
 have l3 : c.cds.l.length = G.cds.l.length := by simpa using congrArg List.length e3
 have l4 : c.nts.l.length = G.nts.l.length := by simpa using congrArg List.length e4
 refine ⟨near_e e1 hn.rm, by rw [e2]; exact hn.lks, by rw [l3]; exact hn.cds, by rw [l4]; exact hn.nts, by rw [e2]; exact hn.lk, fun x hx => ?_, fun x hx => ?_⟩
 ·
  have h1 : x.l ∈ c.cds.l.map Sl.l := List.mem_map.2 ⟨x, hx, rfl⟩
  rw [e3] at h1
  obtain ⟨y, hy, he⟩ := List.mem_map.1 h1
  rw [← he]; exact hn.cd y hy
 ·
  have h1 : x.p ∈ c.nts.l.map NoteD.p := List.mem_map.2 ⟨x, hx, rfl⟩
  rw [e4] at h1
  obtain ⟨y, hy, he⟩ := List.mem_map.1 h1
  have := hn.nt y hy
  have q1 : y.nm = x.nm := congrArg NoteP.nm he
  have q2 : y.wh.l = x.wh.l := congrArg NoteP.wh he
  have q3 : y.cl = x.cl := congrArg NoteP.cl he
  rw [q1, q2, q3] at this
  exact this
end Go.Proofs.YtaeagngfhceceaaGreatDoor
set_option maxHeartbeats 8000000
namespace Go.Proofs.YtaeagngfhceceaaGreatDoor
open Go.RowKit Go.Proofs
set_option maxRecDepth 100000
set_option linter.unusedVariables false
set_option linter.unusedSimpArgs false
end Go.Proofs.YtaeagngfhceceaaGreatDoor
set_option maxHeartbeats 8000000
namespace Go.Proofs.YtaeagngfhceceaaGreatDoor
open Go.RowKit Go.Proofs
set_option maxRecDepth 100000
set_option linter.unusedVariables false
set_option linter.unusedSimpArgs false
theorem copyClue_c (c : Clue) (gv : Value) (w : World) (h1 : SlI w gv c.g) (hm : c.g.length ≤ 1000) :
  Calls Tryz.prog 63 #[.agg #[.int .i64 c.k, .int .i64 c.a, .int .i64 c.b, .int .i64 c.n, .int .i64 c.m, gv, .bool c.nt]] w (fun e w' => ∃ v : Value, (v.oneCell' = true ∧ ∃ u0, SlI u0 v c.g) ∧ RetF w (.agg #[.int .i64 c.k, .int .i64 c.a, .int .i64 c.b, .int .i64 c.n, .int .i64 c.m, v, .bool c.nt]) (Go.Proofs.YtaeagngfhceceaaGreatDoor.roI v c.g) e w') := by
 have hg1 := h1.one1
 refine enter Tryz.func63 rfl rfl (Nat.le_of_ble_eq_true rfl) ?_
 refine Nz 0 ?_
 refine Wb 0 rfl rfl (fun _ => rfl) (fun _ => rfl) fun b1 hb1 => ?_
 refine Wl 0 zv48 (fun _ => rfl) (fun _ => rfl) fun b2 hb2 => ?_
 refine Wd (Qc (Nz 0 ?_))
 refine WS.build0 sl42 zv3 (fun _ => rfl) ?_; intro v3
 refine Wz 1 ?_
 refine Wk 0 (by first | exact det_loadb (j := 2) rfl rfl rfl tk42 | exact det_loadw rfl (by assumption) rfl tk42) ?_
 refine WS.append0 (j := 0) (news := ints c.g) (m := c.g.length) sl42 zv3 rfl (by decide) rfl rfl rfl (fun u hu => h1.st hu) (by simp [ints, Value.oneCell']) (by omega) (by omega) (fun _ => rfl) (fun _ => rfl) ?_; intro v6; refine WS.oc (j := 0) rfl (fun hv6 => ?_)
 refine Wz 1 ?_
 refine Ws 0 2 ?_
 refine Wd (Qc (Nz 0 ?_))
 refine Wk 0 (by first | exact det_ldCl rfl (by assumption) (by omega) tk48 | exact det_loadb0 (j := 2) rfl rfl tk48 | exact det_loadbN (j := 2) rfl rfl (by rfl) tk48 | exact det_loadwN rfl (by assumption) (by rfl) tk48 | exact det_loadbK (n := 7) (j := 2) rfl rfl rfl rfl tk48) ?_
 refine Wv 0 1 ?_
 exact Wd (Qc (Cr (outR (resc rfl (cell_rvN (j := 1) rfl rfl tk48)) (fun u hu => ⟨v6, ⟨hv6, u, oints_SlI hu (j := 0) rfl⟩, retR (fun S u h => Star.oints (j := 0) rfl h) u hu⟩))))
end Go.Proofs.YtaeagngfhceceaaGreatDoor
