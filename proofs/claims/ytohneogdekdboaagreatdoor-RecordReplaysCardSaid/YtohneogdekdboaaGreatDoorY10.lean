/- Merged texts of this proof (walks and plain laws), printed by a program of the prover. -/
import Derived.Test.YtohneogdekdboaaGreatDoorY0
import Derived.Test.YtohneogdekdboaaGreatDoorY1
import Derived.Test.YtohneogdekdboaaGreatDoorZb
import Derived.Test.YtohneogdekdboaaGreatDoorProg
import Derived.KernelRfl
import Derived.Test.YtohneogdekdboaaGreatDoorZc
import Derived.Test.YtohneogdekdboaaGreatDoorXc
import Derived.Test.YtohneogdekdboaaGreatDoorXd
namespace Go.Proofs.YtohneogdekdboaaGreatDoor
open Go.Proofs
theorem J8w : Ent Tryz.prog 13 := Jac Tryz.func13 (by kernel_rfl) rfl
end Go.Proofs.YtohneogdekdboaaGreatDoor
set_option maxHeartbeats 8000000
namespace Go.Proofs.YtohneogdekdboaaGreatDoor
open Go.RowKit Go.Proofs
set_option maxRecDepth 100000
set_option linter.unusedVariables false
set_option linter.unusedSimpArgs false
theorem Jo6 (G : Game) (w : World) (hG : GameOk w G) (hn : NearG G) (ms : Sl Timed) (hk : SlT cTimed w ms) (hml : ms.l.length ≤ 1000) :
  Calls Tryz.prog 13 #[.agg #[G.rm.pls.v, G.rm.ths.v, G.rm.prs.v, G.rm.wys.v, G.rm.acs.v, G.rm.aus.v, .int .i64 G.rm.ply, G.rm.gl.v, G.lks.v, G.cds.v, G.nts.v, .int .i64 G.tr], ms.v] w (RetT cEntry w (Jaa G.p ms.l).2.2 fun v => .tuple #[v, .int .i64 (Jaa G.p ms.l).2.1, .int .i64 (Jaa G.p ms.l).1]) := by
 have lls := hk.le
 refine enter Tryz.func13 rfl rfl (Nat.le_of_ble_eq_true rfl) ?_
 refine Nz 0 ?_
 refine Wb 3 rfl rfl (fun _ => rfl) (fun _ => rfl) fun b2 hb2 => ?_
 refine Wd (Qc (Nz 0 ?_))
 refine Wk 0 (Bb 0) ?_
 refine Wc rfl rfl Juq (fun u hu => Jhc G u (hG.st hu) hn) (fun _ => rfl) ?_; rintro y ⟨hyx, uy, hyok⟩
 obtain ⟨hya, hyb, hyc⟩ := hyok.st.ones
 have hyd := Sl.one hyok.rd
 refine Wz 3 ?_
 refine Wl 0 zv61 (fun _ => rfl) (fun _ => rfl) fun b7 hb7 => ?_
 refine Wv 1 0 ?_
 refine Wd (Qc (Cs (Nz 2 ?_)))
 refine Wd (Qc (CS.cond rfl ?_ ?_))<;>intro hc1<;>try simp only [bq] at hc1
 ·
  refine Nz 4 ?_
  refine Wd (Qc (Cr (Qr ?_)))
  exact out3 rfl rfl rfl rfl (by
    have hv : (Jaa G.p ms.l) = ((Jah G.p).1, 0, []) := Jta hc1
    rw [hv]
    exact fun u hu => Jm5 (C := cEntry) (f := fun v => .tuple #[v, .int .i64 0, .int .i64 (Jah G.p).1]) hu)
 have hB : (Jah G.p).1 = 0 := hc1
 refine Ck (Qc (Nz 1 ?_))
 refine Wd (Qc (Nz 1 ?_))
 refine Wd (Qc (Cs (Nz 1 ?_)))
 refine Wd (Qc (Ce ?_))
 refine CS.weak (fun _ hu => hu.osl0 (e := 73) (size := 7)) ?_
 refine CS.loopM (σ := Int × Int × Pos × Value × List Entr) [4, 5, 6, 12, 13, 14, 23, 24, 25, 26, 27, 28, 29, 30, 31, 32, 33, 34, 35, 36, 37, 38, 39, 40, 41, 42, 43, 44, 45, 46, 47, 48, 49, 50, 51, 52, 53, 54, 55, 56, 57, 58, 59, 60, 61, 62, 63, 64, 65, 66, 67, 68, 69, 70, 71, 72, 73, 74, 75, 76, 77, 78, 79, 80, 81, 82, 83, 84, 85, 86, 87, 88, 89, 90, 91, 92, 93, 94, 95, 96, 97, 98, 99, 100] (fun s => [(11, .int .i64 s.1), (10, .int .i64 s.2.1), (9, s.2.2.2.1)]) (fun s => [oT cEntry 73 s.2.2.2.1 s.2.2.2.2, blk b7 [s.2.2.1.st.ths.v, s.2.2.1.st.prs.v, s.2.2.1.st.pls.v, s.2.2.1.rd.v] 61, roS fun u => PosOk u s.2.2.1, blk b2 [G.rm.pls.v, G.rm.ths.v, G.rm.prs.v, G.rm.wys.v, G.rm.acs.v, G.rm.aus.v, .int .i64 G.rm.ply, G.rm.gl.v, G.lks.v, G.cds.v, G.nts.v, .int .i64 G.tr] 36]) (fun s => 0 ≤ s.1 ∧ s.1 ≤ ms.l.length ∧ (∃ u0, PosOk u0 s.2.2.1) ∧ posG G.p s.2.2.1.x = 0 ∧ (s.2.2.2.2.length : Int) ≤ 16 * s.1 ∧ True ∧ recF G.p ms.l 0 0 (Jah G.p).2 [] = recF G.p (ms.l.drop s.1.toNat) s.1 s.2.1 s.2.2.1.x s.2.2.2.2) (fun s => (ms.l.length - s.1).toNat) (0, 0, y, .slice none 0 0, []) (fun _ _ => rfl) rfl rfl ⟨by simp, by simp, ⟨_, hyok⟩, by rw [hyx]; exact Jb8 hB, by simp, trivial, by rw [hyx]; simp⟩ ?_
 intro a t hs
 obtain ⟨ha1, ha2, ⟨ua, haok⟩, ha4, ha5, ha6, ha7⟩ := hs
 obtain ⟨haa, hab, hac⟩ := haok.st.ones
 have had := Sl.one haok.rd
 have hnth := hn.rm.ths
 have hahn : a.2.2.1.st.ths.l.length = G.rm.ths.l.length := Jbm ha4
 refine Cs (Nz 2 ?_)
 refine Wk 1 Nc ?_
 refine Wd (Qc (CS.cond rfl ?_ ?_))<;>intro hc2<;>try simp only [bq] at hc2
 ·
  refine Ck (Qc (Cs (Ce (Cs (Nz 2 ?_)))))
  refine Wk 1 Xc ?_
  refine Wk 1 (Uc 4 0) ?_
  refine Wk 1 (Cb rfl rfl Jxm (fun u hu => Jln _ _ _ u)) ?_
  refine Wd (Qc (CS.cond rfl ?_ ?_))<;>intro hc3<;>try simp only [bq] at hc3
  ·
   have hTn : ¬ (a.2.1 ≤ (nth ms.l a.1).t ∧ (nth ms.l a.1).t ≤ 1000000) := by have h9 := hc3; first | omega | (simp at h9; omega)
   refine Nz 4 ?_
   refine Wd (Qc (Cr (Qr (Qs (Qr (Qr (Qs (Qr ?_))))))))
   exact out3 rfl rfl rfl rfl (by
     have hv : (Jaa G.p ms.l) = (1, a.1, []) := Jh3 hB (by decide) (by rw [ha7, Jav ha1 (by omega), Jo5 hTn])
     rw [hv]
     exact fun u hu => Jm5 (C := cEntry) (f := fun v => .tuple #[v, .int .i64 a.1, .int .i64 1]) hu)
  have hTy : a.2.1 ≤ (nth ms.l a.1).t ∧ (nth ms.l a.1).t ≤ 1000000 := by have h9 := hc3; first | omega | (simp at h9; omega)
  refine Ck (Qc (Nz 2 ?_))
  refine Wk 1 Xc ?_
  refine Wk 1 (Uc 4 0) ?_
  refine Wd (Qc (Cs ?_))
  refine CS.drawnAll (k := 14) Jai rfl rfl ?_
  refine Ak 0 [] rfl (Bb 3) ?_
  refine Ak 1 [2,3] rfl (Bb 1) ?_
  refine Ak 4 [5] rfl Xc ?_
  refine Ak 6 [] rfl (Jeb 4 1 3 rfl hk rfl ⟨by omega, by omega⟩ rfl rfl tk71) ?_
  refine AS.two (i := 7) (j := 11) (by kernel_rfl) rfl rfl (by first | exact fun _ h => h | exact fun _ h => h.sub (by repeat first | exact List.Sublist.refl _ | apply List.Sublist.cons_cons | apply List.Sublist.cons)) rfl rfl ?_ ?_
  ·
   refine Wc rfl rfl Ju8 (fun u hu => Jjb G u (hG.st hu) hn a.2.2.1 (hu.ro (j := 2) rfl) (nth ms.l a.1).m) (fun _ => rfl) ?_; rintro z ⟨hzx, uz, hzok⟩
   obtain ⟨hza, hzb, hzc⟩ := hzok.st.ones
   have hzd := Sl.one hzok.rd
   refine Wd (Qa ?_)
   refine Ar [8,9,10] ?_
   refine Ao 11 rfl ?_
   refine Wl 0 zv61 (fun _ => rfl) (fun _ => rfl) fun b12 hb12 => ?_
   refine Wd (Qa ?_)
   refine Ao 12 rfl ?_
   refine Wv 0 0 ?_
   refine Wd (Qa ?_)
   refine Ar [13] ?_
   refine Ae ?_
   refine Qc (Cs (Nz 2 ?_))
   refine Wd (Qc (CS.cond rfl ?_ ?_))<;>intro hc4<;>try simp only [bq] at hc4
   ·
    refine Nz 4 ?_
    refine Wd (Qc (Cr (Qr (Qs (Qr (Qr (Qs (Qr ?_))))))))
    exact out3 rfl rfl rfl rfl (by
      have hv : (Jaa G.p ms.l) = (29, a.1, []) := Jh3 hB (by decide) (by rw [ha7, Jav ha1 (by omega), Jlr hTy hc4])
      rw [hv]
      exact fun u hu => Jm5 (C := cEntry) (f := fun v => .tuple #[v, .int .i64 a.1, .int .i64 29]) hu)
   have hS : (Jaf G.p a.2.2.1.x (nth ms.l a.1).m).1 = 0 := hc4
   have hgd := Jen (p := Jjp a.2.2.1.x) hS
   have hzq : posG G.p z.x = 0 := by rw [hzx]; exact hgd.2.2
   have hzn : z.st.ths.l.length = G.rm.ths.l.length := Jbm hzq
   have hzl : z.st.ths.l = (Jaf G.p a.2.2.1.x (nth ms.l a.1).m).2.1.1 := by rw [← hzx]; rfl
   refine Ck (Qc (Nz 4 ?_))
   refine Wk 1 Xc ?_
   refine Wk 0 (Jeb 4 1 3 rfl hk rfl ⟨by omega, by omega⟩ rfl rfl tk71) ?_
   refine Wk 0 (Jas Jir zv73 (pcs := [(0, [.int .i64 (nth ms.l a.1).t]), (1, [.int .i64 1]), (2, [.int .i64 (nth ms.l a.1).m.p, .int .i64 (nth ms.l a.1).m.k, .int .i64 (nth ms.l a.1).m.n])]) rfl (CellsOf.one rfl (CellsOf.one rfl (CellsOf.agg CellsOf.nil))) rfl) ?_
   refine WS.buildT1 cEntry (a := (⟨(nth ms.l a.1).t, 1, (nth ms.l a.1).m, 0, 0⟩ : Entr)) sl40 zv73 rfl (by decide) (fun _ => rfl) ?_; intro v65
   refine WS.appendT1 (C := cEntry) (a := (⟨(nth ms.l a.1).t, 1, (nth ms.l a.1).m, 0, 0⟩ : Entr)) (j := 3) (jz := 0) sl40 zv73 rfl (by decide) rfl rfl rfl rfl (w := w) trivial (by omega) (by omega) (fun _ => rfl) (fun _ => rfl) ?_; intro v66 hv66
   refine Wz 1 ?_
   refine Wd (Qc (Cs (Nz 1 ?_)))
   refine Wd (Qc (Ce ?_))
   refine CS.sel [3, 1, 1, 1, 1, 1] rfl ?_
   refine CS.loopM (σ := Int × Value) [67, 68, 69, 70, 71, 72, 73, 74, 75, 76, 77, 78, 79, 80, 81, 82, 83, 84, 85, 86, 87, 88, 89, 90, 91, 92, 93, 94, 95, 96, 97, 98, 99] (fun s => [(14, .int .i64 s.1), (9, s.2)]) (fun s => [oT cEntry 73 s.2 (a.2.2.2.2 ++ ⟨(nth ms.l a.1).t, 1, (nth ms.l a.1).m, 0, 0⟩ :: Jc5 (nth ms.l a.1).t a.2.2.1.x.1.1 (Jaf G.p a.2.2.1.x (nth ms.l a.1).m).2.1.1 s.1), blk b12 [z.st.ths.v, z.st.prs.v, z.st.pls.v, z.rd.v] 61, roS fun u => PosOk u z, blk b7 [a.2.2.1.st.ths.v, a.2.2.1.st.prs.v, a.2.2.1.st.pls.v, a.2.2.1.rd.v] 61, roS fun u => PosOk u a.2.2.1, blk b2 [G.rm.pls.v, G.rm.ths.v, G.rm.prs.v, G.rm.wys.v, G.rm.acs.v, G.rm.aus.v, .int .i64 G.rm.ply, G.rm.gl.v, G.lks.v, G.cds.v, G.nts.v, .int .i64 G.tr] 36]) (fun s => 0 ≤ s.1 ∧ s.1 ≤ z.st.ths.l.length) (fun s => (z.st.ths.l.length - s.1).toNat) (0, v66) (fun _ _ => rfl) rfl rfl ⟨by simp, by simp⟩ ?_
   intro q t hs
   obtain ⟨hq1, hq2⟩ := hs
   refine Cs (Nz 3 ?_)
   refine Wk 0 (Ba 1) ?_
   refine Wk 1 (Jda (s := z.st.ths) sl56 rfl hzok.st.ths) ?_
   refine Wd (Qc (CS.cond rfl ?_ ?_))<;>intro hc5<;>try simp only [bq] at hc5
   ·
    have hql : q.1 < (z.st.ths.l.length : Int) := by first | exact hc5 | simpa using hc5
    have hsl := Jej (t := (nth ms.l a.1).t) (old := a.2.2.1.x.1.1) (new := (Jaf G.p a.2.2.1.x (nth ms.l a.1).m).2.1.1) (k := q.1)
    have hcl : (a.2.2.2.2 ++ ⟨(nth ms.l a.1).t, 1, (nth ms.l a.1).m, 0, 0⟩ :: Jc5 (nth ms.l a.1).t a.2.2.1.x.1.1 (Jaf G.p a.2.2.1.x (nth ms.l a.1).m).2.1.1 q.1).length = a.2.2.2.2.length + 1 + (Jc5 (nth ms.l a.1).t a.2.2.1.x.1.1 (Jaf G.p a.2.2.1.x (nth ms.l a.1).m).2.1.1 q.1).length := by simp; omega
    refine Ck (Qc (Cs (Ce (Cs (Dr Jai 2 ?_)))))
    refine Dk 1 (Ba 1) ?_
    refine Dk 0 (Jbi (s := z.st.ths) sl56 rfl rfl hzok.st.ths rfl (by omega) (by omega)) ?_
    refine Dk 2 (Jd8 2 (s := z.st.ths) rfl (fun _ h ↦ h.st.ths) rfl rfl ⟨by omega, by omega⟩ rfl tk3) ?_
    refine Dk 1 (Ba 3) ?_
    refine Dk 0 (Jbi (s := a.2.2.1.st.ths) sl56 rfl rfl haok.st.ths rfl (by omega) (by omega)) ?_
    refine Dk 1 (Jd8 4 (s := a.2.2.1.st.ths) rfl (fun _ h ↦ h.st.ths) rfl rfl ⟨by omega, by omega⟩ rfl tk3) ?_
    refine Dd (Qc (CS.cond rfl ?_ ?_))<;>intro hc6<;>try simp only [bq] at hc6
    ·
     have hne : ¬ nth (Jaf G.p a.2.2.1.x (nth ms.l a.1).m).2.1.1 q.1 = nth a.2.2.1.x.1.1 q.1 := by rw [← hzl]; first | exact hc6 | simpa using hc6
     refine Ny 5 ?_
     refine Wk 1 (Ba 1) ?_
     refine Wk 0 (Jbi (s := z.st.ths) sl56 rfl rfl hzok.st.ths rfl (by omega) (by omega)) ?_
     refine Wk 0 (Jd8 2 (s := z.st.ths) rfl (fun _ h ↦ h.st.ths) rfl rfl ⟨by omega, by omega⟩ rfl tk3) ?_
     refine Wk 0 (Jas Jir zv73 (pcs := [(0, [.int .i64 (nth ms.l a.1).t]), (1, [.int .i64 5]), (3, [.int .i64 q.1]), (4, [.int .i64 (nth z.st.ths.l q.1)])]) rfl (CellsOf.one rfl (CellsOf.one rfl (CellsOf.one rfl (CellsOf.one rfl CellsOf.nil)))) rfl) ?_
     refine WS.buildT1 cEntry (a := ⟨(nth ms.l a.1).t, 5, mv0, q.1, nth z.st.ths.l q.1⟩) sl40 zv73 rfl (by decide) (fun _ => rfl) ?_; intro v98
     refine WS.appendT1 (C := cEntry) (a := ⟨(nth ms.l a.1).t, 5, mv0, q.1, nth z.st.ths.l q.1⟩) (j := 1) (jz := 0) sl40 zv73 rfl (by decide) rfl rfl rfl rfl (w := w) trivial (by omega) (by omega) (fun _ => rfl) (fun _ => rfl) ?_; intro v99 hv99
     refine Wz 1 ?_
     refine Wd (Qb (Qc (Ny 1 ?_)))
     refine Wk 1 Za ?_
     refine Wd ?_
     refine QS.sel [1, 1, 1, 1, 1, 1] rfl ?_
     exact QS.head ((q.1 + 1, v99)) rfl (by first | simp only [← Jeg hq1 hne, hzl, List.append_assoc, List.cons_append, List.nil_append] | simp only [← Jfj hq1 heq]) ⟨⟨by simp; omega, by simp; omega⟩, by simp; omega⟩
    have heq : nth (Jaf G.p a.2.2.1.x (nth ms.l a.1).m).2.1.1 q.1 = nth a.2.2.1.x.1.1 q.1 := by rw [← hzl]; first | exact hc6 | simpa using hc6
    refine Ck (Qb (Qc (Ny 1 ?_)))
    refine Wk 1 Za ?_
    exact Wd (QS.head ((q.1 + 1, q.2)) rfl (by first | simp only [← Jeg hq1 hne, hzl, List.append_assoc, List.cons_append, List.nil_append] | simp only [← Jfj hq1 heq]) ⟨⟨by simp; omega, by simp; omega⟩, by simp; omega⟩)
   have hqe : q.1 = (Jaf G.p a.2.2.1.x (nth ms.l a.1).m).2.1.1.length := by rw [← hzl]; omega
   have hsl := Jej (t := (nth ms.l a.1).t) (old := a.2.2.1.x.1.1) (new := (Jaf G.p a.2.2.1.x (nth ms.l a.1).m).2.1.1) (k := q.1)
   rw [← hzl] at hqe
   have hse := Ji6 (t := (nth ms.l a.1).t) (old := a.2.2.1.x.1.1) (new := (Jaf G.p a.2.2.1.x (nth ms.l a.1).m).2.1.1) (k := q.1) (by rw [← hzl]; exact hqe)
   refine Cv (Qe (Qe (Qx (Qc (Ny 0 ?_)))))
   refine Wk 0 (Bb 1) ?_
   refine Wv 0 3 ?_
   refine Wd (Qb (Qc (Ny 1 ?_)))
   refine Wk 1 Za ?_
   refine Wd ?_
   refine QS.sel [0, 2, 1, 2] rfl ?_
   skip
   exact QS.head ((a.1 + 1, (nth ms.l a.1).t, z, q.2, (a.2.2.2.2 ++ ⟨(nth ms.l a.1).t, 1, (nth ms.l a.1).m, 0, 0⟩ :: Jc5 (nth ms.l a.1).t a.2.2.1.x.1.1 (Jaf G.p a.2.2.1.x (nth ms.l a.1).m).2.1.1 q.1))) rfl rfl ⟨⟨by simp; omega, by simp; omega, ⟨_, hzok⟩, hzq, by simp; omega, trivial, by rw [ha7, Jav ha1 (by omega), Jj9 hTy hS, hse, ← hzx]⟩, by simp; omega⟩
  refine Wl 0 zv61 (fun _ => rfl) (fun _ => rfl) fun b12 hb12 => ?_
  refine Wd (Qa ?_)
  refine Ao 7 rfl ?_
  refine Wc rfl rfl Ju8 (fun u hu => Jjb G u (hG.st hu) hn a.2.2.1 (hu.ro (j := 3) rfl) (nth ms.l a.1).m) (fun _ => rfl) ?_; rintro z ⟨hzx, uz, hzok⟩
  obtain ⟨hza, hzb, hzc⟩ := hzok.st.ones
  have hzd := Sl.one hzok.rd
  refine Wd (Qa ?_)
  refine Ar [8,9,10] ?_
  refine Ao 12 rfl ?_
  refine Wv 0 1 ?_
  refine Wd (Qa ?_)
  refine Ar [13] ?_
  refine Ae ?_
  refine Qc (Cs (Nz 2 ?_))
  refine Wd (Qc (CS.cond rfl ?_ ?_))<;>intro hc4<;>try simp only [bq] at hc4
  ·
   refine Nz 4 ?_
   refine Wd (Qc (Cr (Qr (Qs (Qr (Qr (Qs (Qr ?_))))))))
   exact out3 rfl rfl rfl rfl (by
     have hv : (Jaa G.p ms.l) = (29, a.1, []) := Jh3 hB (by decide) (by rw [ha7, Jav ha1 (by omega), Jlr hTy hc4])
     rw [hv]
     exact fun u hu => Jm5 (C := cEntry) (f := fun v => .tuple #[v, .int .i64 a.1, .int .i64 29]) hu)
  have hS : (Jaf G.p a.2.2.1.x (nth ms.l a.1).m).1 = 0 := hc4
  have hgd := Jen (p := Jjp a.2.2.1.x) hS
  have hzq : posG G.p z.x = 0 := by rw [hzx]; exact hgd.2.2
  have hzn : z.st.ths.l.length = G.rm.ths.l.length := Jbm hzq
  have hzl : z.st.ths.l = (Jaf G.p a.2.2.1.x (nth ms.l a.1).m).2.1.1 := by rw [← hzx]; rfl
  refine Ck (Qc (Nz 4 ?_))
  refine Wk 1 Xc ?_
  refine Wk 0 (Jeb 4 1 3 rfl hk rfl ⟨by omega, by omega⟩ rfl rfl tk71) ?_
  refine Wk 0 (Jas Jir zv73 (pcs := [(0, [.int .i64 (nth ms.l a.1).t]), (1, [.int .i64 1]), (2, [.int .i64 (nth ms.l a.1).m.p, .int .i64 (nth ms.l a.1).m.k, .int .i64 (nth ms.l a.1).m.n])]) rfl (CellsOf.one rfl (CellsOf.one rfl (CellsOf.agg CellsOf.nil))) rfl) ?_
  refine WS.buildT1 cEntry (a := (⟨(nth ms.l a.1).t, 1, (nth ms.l a.1).m, 0, 0⟩ : Entr)) sl40 zv73 rfl (by decide) (fun _ => rfl) ?_; intro v65
  refine WS.appendT1 (C := cEntry) (a := (⟨(nth ms.l a.1).t, 1, (nth ms.l a.1).m, 0, 0⟩ : Entr)) (j := 3) (jz := 0) sl40 zv73 rfl (by decide) rfl rfl rfl rfl (w := w) trivial (by omega) (by omega) (fun _ => rfl) (fun _ => rfl) ?_; intro v66 hv66
  refine Wz 1 ?_
  refine Wd (Qc (Cs (Nz 1 ?_)))
  refine Wd (Qc (Ce ?_))
  refine CS.sel [3, 2, 1, 1, 1, 1] rfl ?_
  refine CS.loopM (σ := Int × Value) [67, 68, 69, 70, 71, 72, 73, 74, 75, 76, 77, 78, 79, 80, 81, 82, 83, 84, 85, 86, 87, 88, 89, 90, 91, 92, 93, 94, 95, 96, 97, 98, 99] (fun s => [(14, .int .i64 s.1), (9, s.2)]) (fun s => [oT cEntry 73 s.2 (a.2.2.2.2 ++ ⟨(nth ms.l a.1).t, 1, (nth ms.l a.1).m, 0, 0⟩ :: Jc5 (nth ms.l a.1).t a.2.2.1.x.1.1 (Jaf G.p a.2.2.1.x (nth ms.l a.1).m).2.1.1 s.1), blk b12 [z.st.ths.v, z.st.prs.v, z.st.pls.v, z.rd.v] 61, roS fun u => PosOk u z, blk b7 [a.2.2.1.st.ths.v, a.2.2.1.st.prs.v, a.2.2.1.st.pls.v, a.2.2.1.rd.v] 61, roS fun u => PosOk u a.2.2.1, blk b2 [G.rm.pls.v, G.rm.ths.v, G.rm.prs.v, G.rm.wys.v, G.rm.acs.v, G.rm.aus.v, .int .i64 G.rm.ply, G.rm.gl.v, G.lks.v, G.cds.v, G.nts.v, .int .i64 G.tr] 36]) (fun s => 0 ≤ s.1 ∧ s.1 ≤ z.st.ths.l.length) (fun s => (z.st.ths.l.length - s.1).toNat) (0, v66) (fun _ _ => rfl) rfl rfl ⟨by simp, by simp⟩ ?_
  intro q t hs
  obtain ⟨hq1, hq2⟩ := hs
  refine Cs (Nz 3 ?_)
  refine Wk 0 (Ba 1) ?_
  refine Wk 1 (Jda (s := z.st.ths) sl56 rfl hzok.st.ths) ?_
  refine Wd (Qc (CS.cond rfl ?_ ?_))<;>intro hc5<;>try simp only [bq] at hc5
  ·
   have hql : q.1 < (z.st.ths.l.length : Int) := by first | exact hc5 | simpa using hc5
   have hsl := Jej (t := (nth ms.l a.1).t) (old := a.2.2.1.x.1.1) (new := (Jaf G.p a.2.2.1.x (nth ms.l a.1).m).2.1.1) (k := q.1)
   have hcl : (a.2.2.2.2 ++ ⟨(nth ms.l a.1).t, 1, (nth ms.l a.1).m, 0, 0⟩ :: Jc5 (nth ms.l a.1).t a.2.2.1.x.1.1 (Jaf G.p a.2.2.1.x (nth ms.l a.1).m).2.1.1 q.1).length = a.2.2.2.2.length + 1 + (Jc5 (nth ms.l a.1).t a.2.2.1.x.1.1 (Jaf G.p a.2.2.1.x (nth ms.l a.1).m).2.1.1 q.1).length := by simp; omega
   refine Ck (Qc (Cs (Ce (Cs (Dr Jai 2 ?_)))))
   refine Dk 1 (Ba 1) ?_
   refine Dk 0 (Jbi (s := z.st.ths) sl56 rfl rfl hzok.st.ths rfl (by omega) (by omega)) ?_
   refine Dk 2 (Jd8 2 (s := z.st.ths) rfl (fun _ h ↦ h.st.ths) rfl rfl ⟨by omega, by omega⟩ rfl tk3) ?_
   refine Dk 1 (Ba 3) ?_
   refine Dk 0 (Jbi (s := a.2.2.1.st.ths) sl56 rfl rfl haok.st.ths rfl (by omega) (by omega)) ?_
   refine Dk 1 (Jd8 4 (s := a.2.2.1.st.ths) rfl (fun _ h ↦ h.st.ths) rfl rfl ⟨by omega, by omega⟩ rfl tk3) ?_
   refine Dd (Qc (CS.cond rfl ?_ ?_))<;>intro hc6<;>try simp only [bq] at hc6
   ·
    have hne : ¬ nth (Jaf G.p a.2.2.1.x (nth ms.l a.1).m).2.1.1 q.1 = nth a.2.2.1.x.1.1 q.1 := by rw [← hzl]; first | exact hc6 | simpa using hc6
    refine Ny 5 ?_
    refine Wk 1 (Ba 1) ?_
    refine Wk 0 (Jbi (s := z.st.ths) sl56 rfl rfl hzok.st.ths rfl (by omega) (by omega)) ?_
    refine Wk 0 (Jd8 2 (s := z.st.ths) rfl (fun _ h ↦ h.st.ths) rfl rfl ⟨by omega, by omega⟩ rfl tk3) ?_
    refine Wk 0 (Jas Jir zv73 (pcs := [(0, [.int .i64 (nth ms.l a.1).t]), (1, [.int .i64 5]), (3, [.int .i64 q.1]), (4, [.int .i64 (nth z.st.ths.l q.1)])]) rfl (CellsOf.one rfl (CellsOf.one rfl (CellsOf.one rfl (CellsOf.one rfl CellsOf.nil)))) rfl) ?_
    refine WS.buildT1 cEntry (a := ⟨(nth ms.l a.1).t, 5, mv0, q.1, nth z.st.ths.l q.1⟩) sl40 zv73 rfl (by decide) (fun _ => rfl) ?_; intro v98
    refine WS.appendT1 (C := cEntry) (a := ⟨(nth ms.l a.1).t, 5, mv0, q.1, nth z.st.ths.l q.1⟩) (j := 1) (jz := 0) sl40 zv73 rfl (by decide) rfl rfl rfl rfl (w := w) trivial (by omega) (by omega) (fun _ => rfl) (fun _ => rfl) ?_; intro v99 hv99
    refine Wz 1 ?_
    refine Wd (Qb (Qc (Ny 1 ?_)))
    refine Wk 1 Za ?_
    refine Wd ?_
    refine QS.sel [1, 1, 1, 1, 1, 1] rfl ?_
    exact QS.head ((q.1 + 1, v99)) rfl (by first | simp only [← Jeg hq1 hne, hzl, List.append_assoc, List.cons_append, List.nil_append] | simp only [← Jfj hq1 heq]) ⟨⟨by simp; omega, by simp; omega⟩, by simp; omega⟩
   have heq : nth (Jaf G.p a.2.2.1.x (nth ms.l a.1).m).2.1.1 q.1 = nth a.2.2.1.x.1.1 q.1 := by rw [← hzl]; first | exact hc6 | simpa using hc6
   refine Ck (Qb (Qc (Ny 1 ?_)))
   refine Wk 1 Za ?_
   exact Wd (QS.head ((q.1 + 1, q.2)) rfl (by first | simp only [← Jeg hq1 hne, hzl, List.append_assoc, List.cons_append, List.nil_append] | simp only [← Jfj hq1 heq]) ⟨⟨by simp; omega, by simp; omega⟩, by simp; omega⟩)
  have hqe : q.1 = (Jaf G.p a.2.2.1.x (nth ms.l a.1).m).2.1.1.length := by rw [← hzl]; omega
  have hsl := Jej (t := (nth ms.l a.1).t) (old := a.2.2.1.x.1.1) (new := (Jaf G.p a.2.2.1.x (nth ms.l a.1).m).2.1.1) (k := q.1)
  rw [← hzl] at hqe
  have hse := Ji6 (t := (nth ms.l a.1).t) (old := a.2.2.1.x.1.1) (new := (Jaf G.p a.2.2.1.x (nth ms.l a.1).m).2.1.1) (k := q.1) (by rw [← hzl]; exact hqe)
  refine Cv (Qe (Qe (Qx (Qc (Ny 0 ?_)))))
  refine Wk 0 (Bb 1) ?_
  refine Wv 0 3 ?_
  refine Wd (Qb (Qc (Ny 1 ?_)))
  refine Wk 1 Za ?_
  refine Wd ?_
  refine QS.sel [0, 2, 1, 2] rfl ?_
  skip
  exact QS.head ((a.1 + 1, (nth ms.l a.1).t, z, q.2, (a.2.2.2.2 ++ ⟨(nth ms.l a.1).t, 1, (nth ms.l a.1).m, 0, 0⟩ :: Jc5 (nth ms.l a.1).t a.2.2.1.x.1.1 (Jaf G.p a.2.2.1.x (nth ms.l a.1).m).2.1.1 q.1))) rfl rfl ⟨⟨by simp; omega, by simp; omega, ⟨_, hzok⟩, hzq, by simp; omega, trivial, by rw [ha7, Jav ha1 (by omega), Jj9 hTy hS, hse, ← hzx]⟩, by simp; omega⟩
 have hrn : recF G.p ms.l 0 0 (Jah G.p).2 [] = (0, 0, a.2.2.2.2, a.2.2.1.x) := by rw [ha7, List.drop_of_length_le (by omega), recF]
 refine Cv (Qe (Qe (Qx (Qc (Cs (Nz 1 ?_))))))
 refine Wk 1 (Jer (j := 0) sl40 rfl rfl) ?_
 refine Wd (Qc (CS.cond rfl ?_ ?_))<;>intro hc7<;>try simp only [bq] at hc7
 ·
  refine Nz 3 ?_
  refine Wd (Qc (Cr (Qr ?_)))
  exact out3 rfl rfl rfl rfl (by
    have hv : (Jaa G.p ms.l) = (2, 0, []) := Js1 hB hrn (by omega)
    rw [hv]
    exact fun u hu => Jm5 (C := cEntry) (f := fun v => .tuple #[v, .int .i64 0, .int .i64 2]) hu)
 refine Ck (Qc (Nz 4 ?_))
 refine Wd (Qc (Cr ?_))
 exact out3 rfl rfl rfl rfl (by
   have hv : (Jaa G.p ms.l) = (0, 0, a.2.2.2.2) := Jm1 hB hrn (by omega)
   rw [hv]
   exact fun u hu => retT (C := cEntry) (f := fun v => .tuple #[v, .int .i64 0, .int .i64 0]) (j := 0) (fun _ _ _ => trivial) rfl hu)
end Go.Proofs.YtohneogdekdboaaGreatDoor
