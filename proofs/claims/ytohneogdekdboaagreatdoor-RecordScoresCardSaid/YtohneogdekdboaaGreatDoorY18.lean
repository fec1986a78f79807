/- Merged texts of this proof (walks and plain laws), printed by a program of the prover. -/
import Derived.Test.YtohneogdekdboaaGreatDoorY1
import Derived.Test.YtohneogdekdboaaGreatDoorY2
import Derived.Test.YtohneogdekdboaaGreatDoorY4
import Derived.Test.YtohneogdekdboaaGreatDoorY6
import Derived.Test.YtohneogdekdboaaGreatDoorY13
import Derived.Test.YtohneogdekdboaaGreatDoorY14
import Derived.Test.YtohneogdekdboaaGreatDoorZb
import Derived.Test.YtohneogdekdboaaGreatDoorProg
import Derived.KernelRfl
import Derived.Test.YtohneogdekdboaaGreatDoorZc
import Derived.Test.YtohneogdekdboaaGreatDoorXd
import Derived.Test.YtohneogdekdboaaGreatDoorXe
import Derived.Test.YtohneogdekdboaaGreatDoorZw
namespace Go.Proofs.YtohneogdekdboaaGreatDoor
set_option linter.unusedVariables false
set_option linter.unusedSimpArgs false
open Go.RowKit
def Jdi (G : GP) (l : List Entr) (pen : Int) : Int × Int :=
 if (Jaj G l).1 = 0 then if 0 ≤ pen ∧ pen ≤ 10000 then if (Jaj G l).2.2.en < 0 then (3, 0) else (0, (Jaj G l).2.2.en + pen * (Jaj G l).2.2.hi) else (1, 0) else ((Jaj G l).1, 0)
theorem Ju0 {G : GP} {f f' : Film} {e : Entr} (h : Jaz G f e = some f') (h0 : 0 ≤ f.en) : f'.en = f.en ∧ f'.hi = f.hi := by
 have hn : ¬ f.en < 0 := by omega
 obtain ⟨_, h | h | h | h | h⟩ := Jcr h
 ·
  rw [h.2.2.2]; exact ⟨if_neg fun q => hn q.1, rfl⟩
 ·
  rw [h.2.2.2]; exact ⟨rfl, if_neg hn⟩
 ·
  rw [h.2.2]; exact ⟨rfl, rfl⟩
 ·
  rw [h.2.2]; exact ⟨rfl, rfl⟩
 rw [h.2.2]; exact ⟨rfl, rfl⟩
theorem Jiy {G : GP} : ∀ (l : List Entr) (i last : Int) (f f' : Film), Jb1 G l i last f = .ok f' → 0 ≤ f.en → f'.en = f.en ∧ f'.hi = f.hi
 | [], _, _, f, f', h, _ => by cases h; exact ⟨rfl, rfl⟩
 | e :: l, i, last, f, f', h, h0 => by
  unfold Jb1 at h
  split at h
  ·
   cases hs : Jaz G f e with
   | none => rw [hs] at h; cases h
   | some f1 =>
    rw [hs] at h
    obtain ⟨a, b⟩ := Ju0 hs h0
    obtain ⟨c, d⟩ := Jiy l (i + 1) e.t f1 f' h (by omega)
    exact ⟨c.trans a, d.trans b⟩
  cases h
end Go.Proofs.YtohneogdekdboaaGreatDoor
namespace Go.Proofs.YtohneogdekdboaaGreatDoor
open Go.Proofs
theorem J67 : Ent Tryz.prog 20 := Jac Tryz.func20 (by kernel_rfl) rfl
theorem J56 : Ent Tryz.prog 21 := Jac Tryz.func21 (by kernel_rfl) rfl
theorem Kav : Ent Tryz.prog 22 := Jac Tryz.func22 (by kernel_rfl) rfl
theorem J9z : Ent Tryz.prog 50 := Jac Tryz.func50 (by kernel_rfl) rfl
theorem Kba : Ent Tryz.prog 51 := Jac Tryz.func51 (by kernel_rfl) rfl
end Go.Proofs.YtohneogdekdboaaGreatDoor
set_option maxHeartbeats 8000000
namespace Go.Proofs.YtohneogdekdboaaGreatDoor
open Go.RowKit Go.Proofs
set_option maxRecDepth 100000
set_option linter.unusedVariables false
set_option linter.unusedSimpArgs false
theorem Jx7 {G : GP} {f f2 : Film} {e : Entr} (h : Jaz G f e = some f2) (hen : f.en = -1) :
  (e.k = 1 → Jdk G f2.x = true → f2.en = e.t - f.pa ∧ f2.hi = f.hi) ∧
  (e.k = 1 → Jdk G f2.x = false → f2.en = -1 ∧ f2.hi = f.hi ∧ f2.pa = f.pa ∧ f2.st = f.st ∧ f2.si = f.si) ∧
  (e.k = 2 → f2.en = -1 ∧ f2.hi = f.hi + 1 ∧ f2.pa = f.pa ∧ f2.st = f.st ∧ f2.si = f.si) ∧
  (e.k = 3 → f2.en = -1 ∧ f2.hi = f.hi ∧ f2.pa = f.pa ∧ f2.si = e.t) ∧
  (e.k = 4 → f.st = true ∧ f2.en = -1 ∧ f2.hi = f.hi ∧ f2.pa = f.pa + (e.t - f.si) ∧ f2.st = false) ∧
  (¬ e.k = 1 → ¬ e.k = 2 → ¬ e.k = 3 → ¬ e.k = 4 → f2 = f) := by
 have hn : f.en < 0 := by omega
 obtain ⟨_, h | h | h | h | h⟩ := Jcr h
 ·
  obtain ⟨k, _, _, rfl⟩ := h
  refine ⟨fun _ hd => ⟨if_pos ⟨hn, hd⟩, rfl⟩, fun _ hd => ⟨(if_neg fun q => by rw [q.2] at hd; cases hd).trans hen, rfl, rfl, rfl, rfl⟩, fun q => by omega, fun q => by omega, fun q => by omega, fun q => absurd k q⟩
 ·
  obtain ⟨k, _, _, rfl⟩ := h
  refine ⟨fun q => by omega, fun q => by omega, fun _ => ⟨hen, if_pos hn, rfl, rfl, rfl⟩, fun q => by omega, fun q => by omega, fun _ q => absurd k q⟩
 ·
  obtain ⟨k, _, rfl⟩ := h
  refine ⟨fun q => by omega, fun q => by omega, fun q => by omega, fun _ => ⟨hen, rfl, rfl, rfl⟩, fun q => by omega, fun _ _ q => absurd k q⟩
 ·
  obtain ⟨k, s, rfl⟩ := h
  refine ⟨fun q => by omega, fun q => by omega, fun q => by omega, fun q => by omega, fun _ => ⟨s, hen, rfl, rfl, rfl⟩, fun _ _ _ q => absurd k q⟩
 obtain ⟨k, _, rfl⟩ := h
 refine ⟨fun q => by omega, fun q => by omega, fun q => by omega, fun q => by omega, fun q => by omega, fun _ _ _ _ => rfl⟩
theorem Jss {G : GP} {l : List Entr} {F : Film} (h : Jaj G l = (0, 0, F)) (he : 0 ≤ F.en) : Jb3 G l = (0, F.en, F.hi) := by
 unfold Jb3; rw [h]; exact (if_pos rfl).trans (if_neg (by show ¬ F.en < 0; omega))
theorem Jy2 {G : GP} {l : List Entr} {F : Film} (h : Jaj G l = (0, 0, F)) (he : F.en = -1) : Jb3 G l = (3, 0, 0) := by
 unfold Jb3; rw [h]; exact (if_pos rfl).trans (if_pos (by show F.en < 0; omega))
theorem Jl0 {G : GP} : ∀ (l : List Entr) (i last : Int) (f f' : Film), Jb1 G l i last f = .ok f' → ∀ e ∈ l, e.t ≤ 1000000
 | [], _, _, _, _, _ => fun e he => by cases he
 | x :: l, i, last, f, f', h => by
  obtain ⟨ht, f1, _, h2⟩ := Jld h
  intro e he
  rcases List.mem_cons.1 he with rfl | he
  ·
   exact (Jnz ht).2
  exact Jl0 l (i + 1) x.t f1 f' h2 e he
theorem Jny {G : Game} {l : List Entr} (h0 : (Jaj G.p l).1 = 0) (hn : ¬ (Jaj G.p l).2.2.en < 0) : 0 ≤ (Jaj G.p l).2.2.en ∧ (Jaj G.p l).2.2.en ≤ 1000000 ∧ 0 ≤ (Jaj G.p l).2.2.hi ∧ (Jaj G.p l).2.2.hi ≤ 500 := by
 obtain ⟨h1, h2, h3, h4, h5⟩ := Jte h0 hn
 obtain ⟨hb, hl, f, hr, hv⟩ := Jeq h0
 refine ⟨h1, ?_, h4, by omega⟩
 by_cases he : l = []
 ·
  rw [h2 he]; decide
 have h6 := h3 he
 have hp := List.length_pos_iff.2 he
 have h7 := Jl0 l 0 0 _ _ hr (nth l ((l.length : Int) - 1)) (Jak (by omega) (by omega))
 omega
theorem Jq1 {p h : Int} (h0 : 0 ≤ p) (h1 : p ≤ 10000) (h2 : 0 ≤ h) (h3 : h ≤ 500) : 0 ≤ p * h ∧ p * h ≤ 5000000 :=
 ⟨Int.mul_nonneg h0 h2, by have := Int.mul_le_mul h1 h3 h2 (by decide : (0 : Int) ≤ 10000); omega⟩
theorem Joe {G : GP} {l : List Entr} {p : Int} (h : ¬ (Jaj G l).1 = 0) : Jdi G l p = ((Jaj G l).1, 0) := if_neg h
theorem Jlf {G : GP} {l : List Entr} {p : Int} (h : (Jaj G l).1 = 0) (hp : ¬ (0 ≤ p ∧ p ≤ 10000)) : Jdi G l p = (1, 0) := (if_pos h).trans (if_neg hp)
theorem Jjd {G : GP} {l : List Entr} {p : Int} (h : (Jaj G l).1 = 0) (hp : 0 ≤ p ∧ p ≤ 10000) (he : (Jaj G l).2.2.en < 0) : Jdi G l p = (3, 0) := (if_pos h).trans ((if_pos hp).trans (if_pos he))
theorem Jif {G : GP} {l : List Entr} {p : Int} (h : (Jaj G l).1 = 0) (hp : 0 ≤ p ∧ p ≤ 10000) (he : ¬ (Jaj G l).2.2.en < 0) : Jdi G l p = (0, (Jaj G l).2.2.en + p * (Jaj G l).2.2.hi) := (if_pos h).trans ((if_pos hp).trans (if_neg he))
theorem Jmj (G : Game) (w : World) (hG : GameOk w G) (y : Pos) (hy : PosOk w y) (hq : posG G.p y.x = 0) :
  Calls Tryz.prog 50 #[.agg #[G.rm.pls.v, G.rm.ths.v, G.rm.prs.v, G.rm.wys.v, G.rm.acs.v, G.rm.aus.v, .int .i64 G.rm.ply, G.rm.gl.v, G.lks.v, G.cds.v, G.nts.v, .int .i64 G.tr], .agg #[y.st.ths.v, y.st.prs.v, y.st.pls.v, y.rd.v]] w (RetB w (.bool (Jdk G.p y.x))) := by
 have hP := Jed (p := y) hq
 have hgc : Jf8 G.rm.ths.l G.rm.gl.l = true := Jm6 (Jcs (Jh4 hP.ck)).2
 have hln : y.st.ths.l.length = G.rm.ths.l.length := Jbm hq
 have hdx : Jdk G.p y.x = Jb7 y.st.ths.l G.rm.gl.l := by unfold Jdk; rw [← G.p_alike.gl]; rfl
 refine enter Tryz.func50 rfl rfl (Nat.le_of_ble_eq_true rfl) ?_
 refine Nz 0 ?_
 refine Wb 0 rfl rfl (fun _ => rfl) (fun _ => rfl) fun b2 hb2 => ?_
 refine Wb 1 rfl rfl (fun _ => rfl) (fun _ => rfl) fun b3 hb3 => ?_
 refine Wd (Qc (Nz 1 ?_))
 refine Wk 2 (Bc 0) ?_
 refine Wk 0 (Ba 1) ?_
 refine Wk 1 (Cb rfl rfl Jvd (fun u hu => Jfk y.st u (hy.st.st hu) G.rm.gl (hG.rm.gl.st hu) (by rw [hln]; exact Jge hgc))) ?_
 exact Wd (Qc (Cr (out1 rfl rfl (Jab (by rw [hdx])))))
theorem Jl7 (G : Game) (w : World) (hG : GameOk w G) (hn : NearG G) (l : Sl Entr) (hk : SlT cEntry w l) :
  Calls Tryz.prog 20 #[.agg #[G.rm.pls.v, G.rm.ths.v, G.rm.prs.v, G.rm.wys.v, G.rm.acs.v, G.rm.aus.v, .int .i64 G.rm.ply, G.rm.gl.v, G.lks.v, G.cds.v, G.nts.v, .int .i64 G.tr], l.v] w (RetB w (.tuple #[.int .i64 (Jb3 G.p l.l).2.1, .int .i64 (Jb3 G.p l.l).2.2, .int .i64 (Jb3 G.p l.l).1])) := by
 have lls := hk.le
 refine enter Tryz.func20 rfl rfl (Nat.le_of_ble_eq_true rfl) ?_
 refine Nz 0 ?_
 refine Wb 3 rfl rfl (fun _ => rfl) (fun _ => rfl) fun b2 hb2 => ?_
 refine Wd (Qc (Nz 0 ?_))
 refine Wk 1 (Bb 0) ?_
 refine Wk 5 (Cb rfl rfl Jxl (fun u hu => Jel G u (hG.st hu) hn l (hk.st hu))) ?_
 refine Wd (Qc (Cs (Nz 2 ?_)))
 refine Wd (Qc (CS.cond rfl ?_ ?_))<;>intro hc1<;>try simp only [bq] at hc1
 ·
  refine Nz 4 ?_
  exact Wd (Qc (Cr (Qr (out3 rfl rfl rfl rfl (Jab (by rw [Jxp hc1]))))))
 have hE : (Jaj G.p l.l).1 = 0 := hc1
 obtain ⟨hB, hL, F, hR, hV⟩ := Jeq hE
 refine Ck (Qc (Nz 0 ?_))
 refine Wk 0 (Bb 0) ?_
 refine Wc rfl rfl J3m (fun u hu => Jnx G u (hG.st hu) hn) (fun _ => rfl) ?_; rintro ⟨rb, y⟩ ⟨hyx, uy, hyok⟩
 refine WS.unpack ?_
 refine Wz 5 ?_
 refine Wd (Qc (Cs (Cs (Dr Jai 0 ?_))))
 refine Dk 3 (Bb 2) ?_
 refine Dk 0 (Bc 0) ?_
 refine Dk 0 (Cb rfl rfl J9z (fun u hu => Jmj G u (hG.st hu) y (hu.ro (j := 1) rfl) (by rw [hyx]; exact Jb8 hB))) ?_
 refine Dd (Qc (CS.cond rfl ?_ ?_))<;>intro hc2<;>try simp only [bq] at hc2
 ·
  have hd0 : Jdk G.p (Jah G.p).2 = true := hyx ▸ hc2
  have he0 : (Jax G.p).en = 0 := if_pos hd0
  have hkp := Jiy _ _ _ _ _ hR (by rw [he0]; decide)
  refine Nz 3 ?_
  exact Wd (Qc (Cr (Qr (out3 rfl rfl rfl rfl (Jab (by rw [Jss hV (by rw [hkp.1, he0]; decide), hkp.1, hkp.2, he0]; rfl))))))
 have hd0 : ¬ Jdk G.p (Jah G.p).2 = true := by rw [← hyx]; first | exact hc2 | simpa using hc2
 have he0 : (Jax G.p).en = -1 := if_neg hd0
 refine Ck (Qc (Nz 3 ?_))
 refine Wd (Qc (Cs (Nz 1 ?_)))
 refine Wd (Qc (Ce ?_))
 refine CS.loopM (σ := Int × Pos × Film × Int × Int × Int × Int) [4, 5, 6, 35, 36, 37, 38, 39, 40, 41, 42, 43, 44, 45, 46, 47, 48, 49, 50, 51, 52, 53, 54, 55, 56, 57, 58, 59, 60, 61, 62, 63, 64, 65, 66, 67, 68, 69, 70, 71, 72, 73, 74, 75, 76, 77, 78, 79, 80, 81, 82, 83, 84, 85, 86, 87, 88, 89] (fun s => [(14, .int .i64 s.1), (11, .int .i64 s.2.2.2.2.1), (12, .int .i64 s.2.2.2.2.2.1), (13, .int .i64 s.2.2.2.2.2.2)]) (fun s => [blk rb [G.rm.pls.v, G.rm.ths.v, G.rm.prs.v, G.rm.wys.v, G.rm.acs.v, G.rm.aus.v, .int .i64 G.rm.ply, G.rm.gl.v, G.lks.v, G.cds.v, G.nts.v, .int .i64 G.tr, s.2.1.st.ths.v, s.2.1.st.prs.v, s.2.1.st.pls.v, s.2.1.rd.v, .bool s.2.2.1.st, .int .i64 s.2.2.2.1] 111, roS fun u => PosOk u s.2.1, blk b2 [G.rm.pls.v, G.rm.ths.v, G.rm.prs.v, G.rm.wys.v, G.rm.acs.v, G.rm.aus.v, .int .i64 G.rm.ply, G.rm.gl.v, G.lks.v, G.cds.v, G.nts.v, .int .i64 G.tr] 36]) (fun s => 0 ≤ s.1 ∧ s.1 ≤ l.l.length ∧ (∃ u0, PosOk u0 s.2.1) ∧ s.2.1.x = s.2.2.1.x ∧ posG G.p s.2.2.1.x = 0 ∧ Jb1 G.p (l.l.drop s.1.toNat) s.1 s.2.2.2.1 s.2.2.1 = .ok F ∧ s.2.2.1.en = -1 ∧ s.2.2.2.2.1 = s.2.2.1.hi ∧ s.2.2.2.2.2.1 = s.2.2.1.pa ∧ (s.2.2.1.st = true → s.2.2.2.2.2.2 = s.2.2.1.si) ∧ FilmOk G s.2.2.1 s.2.2.2.1 s.1) (fun s => (l.l.length - s.1).toNat) (0, y, Jax G.p, 0, 0, 0, 0) (fun _ _ => rfl) rfl rfl ⟨by simp, by simp, ⟨_, hyok⟩, hyx, Jb8 hB, hR, he0, rfl, rfl, (fun q => by cases q), Jgw hB⟩ ?_
 intro s t hs
 obtain ⟨hs1, hs2, ⟨us, hsok⟩, hs4, hs5, hs6, hs7, hs8, hs9, hs10, hs11⟩ := hs
 have hpq := hs11.pa0
 have hpr := hs11.hi
 refine Cs (Nz 2 ?_)
 refine Wk 1 Nc ?_
 refine Wd (Qc (CS.cond rfl ?_ ?_))<;>intro hc3<;>try simp only [bq] at hc3
 ·
  rw [Jav hs1 (by omega)] at hs6
  obtain ⟨hT, f3, hf3, hr3⟩ := Jld hs6
  refine Ck (Qc (Cs (Ce (Nz 3 ?_))))
  refine Wk 0 Xc ?_
  refine Wk 0 Ua ?_
  refine WS.callS rfl rfl J3u (fun u hu => Jkk [] [_] G hG hn rb s.2.1 s.2.2.1 hs4 (nth l.l s.1) s.2.2.2.1 hu) (fun _ => rfl) ?_; rintro ⟨y2, f2, t2⟩ ⟨hy2x, ⟨uy2, hy2ok⟩, hf2⟩
  dsimp only at hf2 hy2x hy2ok
  obtain ⟨rfl, rfl⟩ := hf2 f3 hT hf3
  have hq2 := Jk3 hs5 hf3
  have hy2n : y2.st.ths.l.length = G.rm.ths.l.length := by have h9 := Jbm hq2; rw [← hy2x] at h9; exact h9
  have hnth := hn.rm.ths
  have hts := Jx7 hf3 hs7
  obtain ⟨tb1, tb2⟩ := Jnz hT
  have hp0 := hs11.pa0
  have hp1 := hs11.pa1
  have hps := hs11.si
  have hph := hs11.hi
  have hF2 := hs11.next hT hf3
  refine Wd (Qc (Nz 2 ?_))
  refine Wk 1 Xc ?_
  refine Wk 0 (Uc 7 1) ?_
  refine Wd (Qc (Ce (Nz 2 ?_)))
  refine Wd (Qc (CS.cond rfl ?_ ?_))<;>intro hc4<;>try simp only [bq] at hc4
  ·
   refine Cs (Dr Jai 0 ?_)
   refine Dk 3 (Bb 2) ?_
   refine Dk 0 (Bc 0) ?_
   refine Dk 0 (Cb rfl rfl J9z (fun u hu => Jmj G u (hG.st hu) y2 (hu.ro (j := 1) rfl) (by rw [hy2x]; exact hq2))) ?_
   refine Dd (Qc (CS.cond rfl ?_ ?_))<;>intro hc5<;>try simp only [bq] at hc5
   ·
    have hdn : Jdk G.p f2.x = true := hy2x ▸ hc5
    obtain ⟨q1, q2⟩ := hts.1 hc4 hdn
    have hkp := Jiy _ _ _ _ _ hr3 (by rw [q1]; omega)
    refine Nz 2 ?_
    refine Wk 1 Xc ?_
    refine Wk 1 (Uc 7 0) ?_
    refine Wk 4 Zb ?_
    exact Wd (Qc (Cr (Qs (Qs (Qr (Qr (Qs (Qr (out3 rfl rfl rfl rfl (Jab (by rw [Jss hV (by rw [hkp.1, q1]; omega), hkp.1, hkp.2, q1, q2, hs8, hs9])))))))))))
   have hdn : Jdk G.p f2.x = false := by rw [← hy2x]; first | exact hc5 | simpa using hc5
   obtain ⟨q1, q2, q3, q4, q5⟩ := hts.2.1 hc4 hdn
   refine Ck (Qb (Qb (Qc (Ny 1 ?_))))
   refine Wk 1 Za ?_
   exact Wd (QS.head ((s.1 + 1, y2, f2, (nth l.l s.1).t, s.2.2.2.2.1, s.2.2.2.2.2.1, s.2.2.2.2.2.2)) rfl rfl ⟨⟨by simp; omega, by simp; omega, ⟨_, hy2ok⟩, hy2x, hq2, hr3, q1, by rw [q2]; exact hs8, by rw [q3]; exact hs9, fun h => by rw [q5]; exact hs10 (q4 ▸ h), hF2⟩, by simp; omega⟩)
  refine Nz 2 ?_
  refine Wd (Qc (CS.cond rfl ?_ ?_))<;>intro hc6<;>try simp only [bq] at hc6
  ·
   obtain ⟨q1, q2, q3, q4, q5⟩ := hts.2.2.1 hc6
   refine Ny 1 ?_
   refine Wk 1 Za ?_
   refine Wd (Qb (Qb (Qc (Ny 1 ?_))))
   refine Wk 1 Za ?_
   exact Wd (QS.head ((s.1 + 1, y2, f2, (nth l.l s.1).t, s.2.2.2.2.1 + 1, s.2.2.2.2.2.1, s.2.2.2.2.2.2)) rfl rfl ⟨⟨by simp; omega, by simp; omega, ⟨_, hy2ok⟩, hy2x, hq2, hr3, q1, by show s.2.2.2.2.1 + 1 = _; rw [q2, hs8], by rw [q3]; exact hs9, fun h => by rw [q5]; exact hs10 (q4 ▸ h), hF2⟩, by simp; omega⟩)
  refine Nz 2 ?_
  refine Wd (Qc (CS.cond rfl ?_ ?_))<;>intro hc7<;>try simp only [bq] at hc7
  ·
   obtain ⟨q1, q2, q3, q4⟩ := hts.2.2.2.1 hc7
   refine Ny 2 ?_
   refine Wk 1 Xc ?_
   refine Wk 1 (Uc 7 0) ?_
   refine Wd (Qb (Qb (Qc (Ny 1 ?_))))
   refine Wk 1 Za ?_
   exact Wd (QS.head ((s.1 + 1, y2, f2, (nth l.l s.1).t, s.2.2.2.2.1, s.2.2.2.2.2.1, (nth l.l s.1).t)) rfl rfl ⟨⟨by simp; omega, by simp; omega, ⟨_, hy2ok⟩, hy2x, hq2, hr3, q1, by rw [q2]; exact hs8, by rw [q3]; exact hs9, fun _ => q4.symm, hF2⟩, by simp; omega⟩)
  refine Nz 2 ?_
  refine Wd (Qc (CS.cond rfl ?_ ?_))<;>intro hc8<;>try simp only [bq] at hc8
  ·
   obtain ⟨q0, q1, q2, q3, q4⟩ := hts.2.2.2.2.1 hc8
   have hpss := hps q0
   have hsis := hs10 q0
   refine Ny 3 ?_
   refine Wk 1 Xc ?_
   refine Wk 0 (Uc 7 0) ?_
   refine Wk 1 Za ?_
   refine Wk 1 Zb ?_
   refine Wd (Qb (Qb (Qc (Ny 1 ?_))))
   refine Wk 1 Za ?_
   exact Wd (QS.head ((s.1 + 1, y2, f2, (nth l.l s.1).t, s.2.2.2.2.1, s.2.2.2.2.2.1 + (nth l.l s.1).t - s.2.2.2.2.2.2, s.2.2.2.2.2.2)) rfl rfl ⟨⟨by simp; omega, by simp; omega, ⟨_, hy2ok⟩, hy2x, hq2, hr3, q1, by rw [q2]; exact hs8, by show s.2.2.2.2.2.1 + (nth l.l s.1).t - s.2.2.2.2.2.2 = f2.pa; omega, fun h => absurd (q4.symm.trans h) (by decide), hF2⟩, by simp; omega⟩)
  have q1 := hts.2.2.2.2.2 hc4 hc6 hc7 hc8
  refine Ck (Qb (Qb (Qc (Ny 1 ?_))))
  refine Wk 1 Za ?_
  exact Wd (QS.head ((s.1 + 1, y2, f2, (nth l.l s.1).t, s.2.2.2.2.1, s.2.2.2.2.2.1, s.2.2.2.2.2.2)) rfl rfl ⟨⟨by simp; omega, by simp; omega, ⟨_, hy2ok⟩, hy2x, hq2, hr3, by rw [q1]; exact hs7, by rw [q1]; exact hs8, by rw [q1]; exact hs9, fun h => by rw [q1] at h ⊢; exact hs10 h, hF2⟩, by simp; omega⟩)
 refine Cv (Qe (Qe (Qx (Qc (Nz 3 ?_)))))
 refine Wd (Qc (Cr ?_))
 exact out3 rfl rfl rfl rfl (Jab (by
    rw [List.drop_of_length_le (by omega), Jb1] at hs6
    cases hs6
    rw [Jy2 hV hs7]))
theorem Jqh (G : Game) (w : World) (hG : GameOk w G) (hn : NearG G) (l : Sl Entr) (hk : SlT cEntry w l) (pen : Int) :
  Calls Tryz.prog 22 #[.agg #[G.rm.pls.v, G.rm.ths.v, G.rm.prs.v, G.rm.wys.v, G.rm.acs.v, G.rm.aus.v, .int .i64 G.rm.ply, G.rm.gl.v, G.lks.v, G.cds.v, G.nts.v, .int .i64 G.tr], l.v, .int .i64 pen] w (RetB w (.tuple #[.int .i64 (Jdi G.p l.l pen).2, .int .i64 (Jdi G.p l.l pen).1])) := by
 refine enter Tryz.func22 rfl rfl (Nat.le_of_ble_eq_true rfl) ?_
 refine Nz 0 ?_
 refine Wb 2 rfl rfl (fun _ => rfl) (fun _ => rfl) fun b3 hb3 => ?_
 refine Wd (Qc (Nz 0 ?_))
 refine Wk 1 (Bb 0) ?_
 refine Wk 5 (Cb rfl rfl Jxl (fun u hu => Jel G u (hG.st hu) hn l (hk.st hu))) ?_
 refine Wd (Qc (Cs (Nz 2 ?_)))
 refine Wd (Qc (CS.cond rfl ?_ ?_))<;>intro hc1<;>try simp only [bq] at hc1
 ·
  refine Nz 3 ?_
  exact Wd (Qc (Cr (Qr (out2 rfl rfl rfl (Jab (by rw [Joe hc1]))))))
 have hE : (Jaj G.p l.l).1 = 0 := hc1
 refine Ck (Qc (Cs (Nz 1 ?_)))
 refine Wk 1 (Cb rfl rfl Jxm (fun u hu => Jln _ _ _ u)) ?_
 refine Wd (Qc (CS.cond rfl ?_ ?_))<;>intro hc2<;>try simp only [bq] at hc2
 ·
  have hpn : ¬ (0 ≤ pen ∧ pen ≤ 10000) := by have h9 := hc2; first | omega | (simp at h9; omega)
  refine Nz 2 ?_
  exact Wd (Qc (Cr (Qr (out2 rfl rfl rfl (Jab (by rw [Jlf hE hpn]))))))
 have hpy : 0 ≤ pen ∧ pen ≤ 10000 := by have h9 := hc2; first | omega | (simp at h9; omega)
 refine Ck (Qc (Nz 0 ?_))
 refine Wk 1 (Bb 0) ?_
 refine Wk 7 (Cb rfl rfl J67 (fun u hu => Jl7 G u (hG.st hu) hn l (hk.st hu))) ?_
 refine Wd (Qc (Cs (Nz 2 ?_)))
 refine Wd (Qc (CS.cond rfl ?_ ?_))<;>intro hc3<;>try simp only [bq] at hc3
 ·
  have hen : (Jaj G.p l.l).2.2.en < 0 := by
     rcases Decidable.em ((Jaj G.p l.l).2.2.en < 0) with h | h
     ·
      exact h
     rw [Jgp hE h] at hc3; exact absurd rfl hc3
  refine Nz 3 ?_
  exact Wd (Qc (Cr (Qr (out2 rfl rfl rfl (Jab (by rw [Jjd hE hpy hen, Jgz hE hen]))))))
 have hen : ¬ (Jaj G.p l.l).2.2.en < 0 := fun h => by rw [Jgz hE h] at hc3; cases hc3
 obtain ⟨b1, b2, b3, b4⟩ := Jny hE hen
 have hpm := Jq1 hpy.1 hpy.2 b3 b4
 have htt := Jgp hE hen
 have ht1 : (Jb3 G.p l.l).2.1 = (Jaj G.p l.l).2.2.en := by rw [htt]
 have ht2 : (Jb3 G.p l.l).2.2 = (Jaj G.p l.l).2.2.hi := by rw [htt]
 rw [ht1, ht2]
 refine Ck (Qc (Nz 3 ?_))
 refine Wk 0 Zc ?_
 refine Wk 2 Za ?_
 exact Wd (Qc (Cr (out2 rfl rfl rfl (Jab (by rw [Jif hE hpy hen])))))
theorem Jv0 {G : Game} {l : List Entr} (h0 : (Jaj G.p l).1 = 0) : ((Jaj G.p l).2.2.en = -1 ∨ (0 ≤ (Jaj G.p l).2.2.en ∧ (Jaj G.p l).2.2.en ≤ 1000000)) ∧ 0 ≤ (Jaj G.p l).2.2.hi ∧ (Jaj G.p l).2.2.hi ≤ 500 := by
 obtain ⟨hb, hl, f, hr, hv⟩ := Jeq h0
 obtain ⟨last', h1, h2, h3⟩ := Jmx l 0 0 _ _ (Jgw hb) hr
 have h5 := h1.hi
 have h6 := h1.en
 have e : (Jaj G.p l).2.2 = f := by rw [hv]
 rw [e]
 refine ⟨?_, by omega⟩
 rcases h6 with h6 | h6
 ·
  exact .inl h6
 have h7 := Jny h0 (by rw [e]; omega)
 rw [e] at h7
 exact .inr ⟨h6.1, h7.2.1⟩
theorem J3r (G : Game) (y : Pos) (f : Film) (fb : Nat) (e : TypeId) (w : World) (hb : BlkAt w fb [G.rm.pls.v, G.rm.ths.v, G.rm.prs.v, G.rm.wys.v, G.rm.acs.v, G.rm.aus.v, .int .i64 G.rm.ply, G.rm.gl.v, G.lks.v, G.cds.v, G.nts.v, .int .i64 G.tr, y.st.ths.v, y.st.prs.v, y.st.pls.v, y.rd.v, .bool f.st, .int .i64 f.si, .int .i64 f.pa, .int .i64 f.en, .int .i64 f.hi] e) (pen : Int) (hp : 0 ≤ pen ∧ pen ≤ 10000) (he : f.en = -1 ∨ (0 ≤ f.en ∧ f.en ≤ 1000000)) (hh : 0 ≤ f.hi ∧ f.hi ≤ 500) :
  Calls Tryz.prog 51 #[.pointer (some ⟨fb, 0, none⟩), .int .i64 pen] w (RetB w (.tuple #[.int .i64 (f.en + pen * f.hi), .bool (decide (0 ≤ f.en))])) := by
 have hpm := Jq1 hp.1 hp.2 hh.1 hh.2
 refine enter Tryz.func51 rfl rfl (Nat.le_of_ble_eq_true rfl) ?_
 refine Nz 2 ?_
 refine Wd (Qc (Cs (Dr Jai 3 ?_)))
 refine Dk 4 Ga ?_
 refine Dk 0 Ga ?_
 refine Dk 0 Zc ?_
 refine Dk 3 Za ?_
 refine Dk 3 Ga ?_
 exact Dd (Qc (Cr (out2 rfl rfl rfl (Jab rfl))))
theorem Jp5 (G : Game) (w : World) (hG : GameOk w G) (hn : NearG G) (g : Sl ByteArray) (hW : GOk w g) (l : Sl Entr) (hk : SlT cEntry w l) (pen : Int) (hE : (Jaj G.p l.l).1 = 0) :
  Calls Tryz.prog 21 #[.agg #[G.rm.pls.v, G.rm.ths.v, G.rm.prs.v, G.rm.wys.v, G.rm.acs.v, G.rm.aus.v, .int .i64 G.rm.ply, G.rm.gl.v, G.lks.v, G.cds.v, G.nts.v, .int .i64 G.tr], l.v, .int .i64 pen] w (RetB w (.tuple #[.int .i64 (Jdi G.p l.l pen).2, .int .i64 (Jdi G.p l.l pen).1])) := by
 refine enter Tryz.func21 rfl rfl (Nat.le_of_ble_eq_true rfl) ?_
 refine Nz 0 ?_
 refine Wb 2 rfl rfl (fun _ => rfl) (fun _ => rfl) fun b3 hb3 => ?_
 refine Wd (Qc (Nz 0 ?_))
 refine Wk 1 (Bb 0) ?_
 refine WS.weak (fun u hu => hu.osl0 (e := 0) (size := 1)) ?_
 refine WS.callS rfl rfl Jpv (fun u hu => Jnw _ G hG hn g hW l hk hE hu) (fun _ => rfl) ?_; rintro ⟨fb, y⟩ ⟨hyx, uy, hyok⟩
 dsimp only at hyx hyok
 refine Wz 5 ?_
 refine Wd (Qc (Cs (Nz 2 ?_)))
 refine Wd (Qc (CS.cond rfl ?_ ?_))<;>intro hc1<;>try simp only [bq] at hc1
 ·
  exact absurd trivial hc1
 refine Ck (Qc (Cs (Nz 1 ?_)))
 refine Wk 1 (Cb rfl rfl Jnt (fun u hu => Jdh _ _ _ u)) ?_
 refine Wd (Qc (CS.cond rfl ?_ ?_))<;>intro hc2<;>try simp only [bq] at hc2
 ·
  have hpn : ¬ (0 ≤ pen ∧ pen ≤ 10000) := by have h9 := hc2; first | omega | (simp at h9; omega)
  refine Nz 2 ?_
  exact Wd (Qc (Cr (Qr (out2 rfl rfl rfl (Jab (by rw [Jlf hE hpn]))))))
 have hpy : 0 ≤ pen ∧ pen ≤ 10000 := by have h9 := hc2; first | omega | (simp at h9; omega)
 refine Ck (Qc (Nz 2 ?_))
 refine Wk 5 (Cb rfl rfl Kba (fun u hu => J3r G y (Jaj G.p l.l).2.2 fb _ u (Ja0 hu (j := 0) rfl) pen hpy (Jv0 hE).1 (Jv0 hE).2)) ?_
 refine Wd (Qc (Cs (Nz 2 ?_)))
 refine Wd (Qc (CS.cond rfl ?_ ?_))<;>intro hc3<;>try simp only [bq] at hc3
 ·
  have hen : (Jaj G.p l.l).2.2.en < 0 := by first | omega | (simp at hc3; omega)
  refine Nz 2 ?_
  exact Wd (Qc (Cr (Qr (out2 rfl rfl rfl (Jab (by rw [Jjd hE hpy hen]))))))
 have hen : ¬ (Jaj G.p l.l).2.2.en < 0 := by first | omega | (simp at hc3; omega)
 refine Ck (Qc (Nz 3 ?_))
 exact Wd (Qc (Cr (out2 rfl rfl rfl (Jab (by rw [Jif hE hpy hen])))))
theorem Jol (G : Game) (w : World) (hG : GameOk w G) (hn : NearG G) (g : Sl ByteArray) (hW : GOk w g) (l : Sl Entr) (hk : SlT cEntry w l) (pen : Int) (hE : ¬ (Jaj G.p l.l).1 = 0) :
  Calls Tryz.prog 21 #[.agg #[G.rm.pls.v, G.rm.ths.v, G.rm.prs.v, G.rm.wys.v, G.rm.acs.v, G.rm.aus.v, .int .i64 G.rm.ply, G.rm.gl.v, G.lks.v, G.cds.v, G.nts.v, .int .i64 G.tr], l.v, .int .i64 pen] w (RetB w (.tuple #[.int .i64 (Jdi G.p l.l pen).2, .int .i64 (Jdi G.p l.l pen).1])) := by
 refine enter Tryz.func21 rfl rfl (Nat.le_of_ble_eq_true rfl) ?_
 refine Nz 0 ?_
 refine Wb 2 rfl rfl (fun _ => rfl) (fun _ => rfl) fun b3 hb3 => ?_
 refine Wd (Qc (Nz 0 ?_))
 refine Wk 1 (Bb 0) ?_
 refine WS.weak (fun u hu => hu.osl0 (e := 0) (size := 1)) ?_
 refine WS.callS rfl rfl Jpv (fun u hu => Joc _ G hG hn g hW l hk hE hu) (fun _ => rfl) ?_; rintro acc -
 refine Wz 5 ?_
 refine Wd (Qc (Cs (Nz 2 ?_)))
 refine Wd (Qc (CS.cond rfl ?_ ?_))<;>intro hc1<;>try simp only [bq] at hc1
 ·
  refine Nz 3 ?_
  exact Wd (Qc (Cr (Qr (out2 rfl rfl rfl (Jab (by rw [Joe hE]))))))
 exact absurd hc1 hE
theorem Jkt (G : Game) (w : World) (hG : GameOk w G) (hn : NearG G) (g : Sl ByteArray) (hW : GOk w g) (l : Sl Entr) (hk : SlT cEntry w l) (pen : Int) :
  Calls Tryz.prog 21 #[.agg #[G.rm.pls.v, G.rm.ths.v, G.rm.prs.v, G.rm.wys.v, G.rm.acs.v, G.rm.aus.v, .int .i64 G.rm.ply, G.rm.gl.v, G.lks.v, G.cds.v, G.nts.v, .int .i64 G.tr], l.v, .int .i64 pen] w (RetB w (.tuple #[.int .i64 (Jdi G.p l.l pen).2, .int .i64 (Jdi G.p l.l pen).1])) := by
 by_cases hE : (Jaj G.p l.l).1 = 0
 ·
  exact Jp5 G w hG hn g hW l hk pen hE
 exact Jol G w hG hn g hW l hk pen hE
theorem J1w {G : GP} {l : List Entr} {p : Int} (h : (Jdi G l p).1 = 0) : (Jaj G l).1 = 0 ∧ (0 ≤ p ∧ p ≤ 10000) ∧ ¬ (Jaj G l).2.2.en < 0 := by
 by_cases h0 : (Jaj G l).1 = 0
 ·
  by_cases hp : 0 ≤ p ∧ p ≤ 10000
  ·
   by_cases he : (Jaj G l).2.2.en < 0
   ·
    rw [Jjd h0 hp he] at h; cases h
   exact ⟨h0, hp, he⟩
  rw [Jlf h0 hp] at h; cases h
 rw [Joe h0] at h; exact absurd h h0
end Go.Proofs.YtohneogdekdboaaGreatDoor
