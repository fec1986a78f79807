/- Merged texts of this proof (walks and plain laws), printed by a program of the prover. -/
import Derived.Test.YtohneogdekdboaaGreatDoorXd
import Derived.Test.YtohneogdekdboaaGreatDoorZw
set_option maxHeartbeats 8000000
namespace Go.Proofs.YtohneogdekdboaaGreatDoor
open Go.RowKit Go.Proofs
set_option maxRecDepth 100000
set_option linter.unusedVariables false
set_option linter.unusedSimpArgs false
theorem Js2 {w u : World} (A B : List SA) (G : Game) (hG : GameOk w G) (hn : NearG G) (g : Sl ByteArray) (hW : GOk w g) (fb : Nat) (y : Pos) (f : Film) (hyx : y.x = f.x) (x : Entr) (last n : Int) (hF : FilmOk G f last n) (htm : Jcc last x = true) (hnn : n ≤ 1000) (hu : St w.heap.size w (A ++ [blk fb [G.rm.pls.v, G.rm.ths.v, G.rm.prs.v, G.rm.wys.v, G.rm.acs.v, G.rm.aus.v, .int .i64 G.rm.ply, G.rm.gl.v, G.lks.v, G.cds.v, G.nts.v, .int .i64 G.tr, y.st.ths.v, y.st.prs.v, y.st.pls.v, y.rd.v, .bool f.st, .int .i64 f.si, .int .i64 f.pa, .int .i64 f.en, .int .i64 f.hi] 94, roS fun u => PosOk u y] ++ B) u) :
  Calls Tryz.prog 68 #[.pointer (some ⟨fb, 0, none⟩), .agg #[.int .i64 x.t, .int .i64 x.k, .int .i64 x.m.p, .int .i64 x.m.k, .int .i64 x.m.n, .int .i64 x.a, .int .i64 x.b]] u (fun e u' => ∃ q : Pos × Film, (q.1.x = q.2.x ∧ (∃ u0, PosOk u0 q.1) ∧ ∀ f', (Jaz G.p f x) = some f' → q.2 = f') ∧ e = .returned (.bool (Jaz G.p f x).isSome) ∧ St w.heap.size w (A ++ [blk fb [G.rm.pls.v, G.rm.ths.v, G.rm.prs.v, G.rm.wys.v, G.rm.acs.v, G.rm.aus.v, .int .i64 G.rm.ply, G.rm.gl.v, G.lks.v, G.cds.v, G.nts.v, .int .i64 G.tr, q.1.st.ths.v, q.1.st.prs.v, q.1.st.pls.v, q.1.rd.v, .bool q.2.st, .int .i64 q.2.si, .int .i64 q.2.pa, .int .i64 q.2.en, .int .i64 q.2.hi] 94, roS fun u => PosOk u q.1] ++ B) u') := by
 refine Calls.mono (J3x (star (A ++ B)) G hG hn g hW fb y f hyx x last n hF htm hnn hu.out2) ?_
 rintro e u' ⟨z, h1, h2, h3⟩
 exact ⟨z, h1, h2, h3.in2⟩
theorem Jii (G : Game) (w : World) (hG : GameOk w G) (hn : NearG G) (g : Sl ByteArray) (hW : GOk w g) (hB : (Jah G.p).1 = 0) :
  Calls Tryz.prog 34 #[.agg #[G.rm.pls.v, G.rm.ths.v, G.rm.prs.v, G.rm.wys.v, G.rm.acs.v, G.rm.aus.v, .int .i64 G.rm.ply, G.rm.gl.v, G.lks.v, G.cds.v, G.nts.v, .int .i64 G.tr]] w (fun e w' => ∃ x : Nat × Pos, (x.2.x = (Jah G.p).2 ∧ ∃ u0, PosOk u0 x.2) ∧ RetF w (.tuple #[.pointer (some ⟨x.1, 0, none⟩), .int .i64 0]) (star [blk x.1 [G.rm.pls.v, G.rm.ths.v, G.rm.prs.v, G.rm.wys.v, G.rm.acs.v, G.rm.aus.v, .int .i64 G.rm.ply, G.rm.gl.v, G.lks.v, G.cds.v, G.nts.v, .int .i64 G.tr, x.2.st.ths.v, x.2.st.prs.v, x.2.st.pls.v, x.2.rd.v, .bool (Jax G.p).st, .int .i64 (Jax G.p).si, .int .i64 (Jax G.p).pa, .int .i64 (Jax G.p).en, .int .i64 (Jax G.p).hi] 94, roS fun u => PosOk u x.2]) e w') := by
 have o1 := Sl.one hG.rm.pls
 have o2 := Sl.one hG.rm.ths
 have o3 := Sl.one hG.rm.prs
 have o4 := Sl.one hG.rm.wys
 have o5 := Sl.one hG.rm.acs
 have o6 := Sl.one hG.rm.aus
 have o7 := Sl.one hG.rm.gl
 have o8 := Sl.one hG.lks
 have o9 := Sl.one hG.cds
 have o10 := Sl.one hG.nts
 refine enter Tryz.func34 rfl rfl (Nat.le_of_ble_eq_true rfl) ?_
 refine Nz 0 ?_
 refine Wb 2 rfl rfl (fun _ => rfl) (fun _ => rfl) fun b1 hb1 => ?_
 refine Wd (Qc (Nz 0 ?_))
 refine Wk 0 (Bb 0) ?_
 refine Wc rfl rfl J7u (fun u hu => Jtu G u (hG.st hu) g (hW.st hu) hn) (fun _ => rfl) ?_; rintro y ⟨hyx, uy, hyok⟩
 obtain ⟨hya, hyb, hyc⟩ := hyok.st.ones
 have hyd := Sl.one hyok.rd
 refine Wz 3 ?_
 refine Wl 0 zv61 (fun _ => rfl) (fun _ => rfl) fun b4 hb4 => ?_
 refine Wv 1 0 ?_
 refine Wd (Qc (Cs (Nz 2 ?_)))
 refine Wd (Qc (CS.cond rfl ?_ ?_))<;>intro hc1<;>try simp only [bq] at hc1
 ·
  exact absurd hB hc1
 refine Ck (Qc (Nz 0 ?_))
 refine Wk 0 (Bb 2) ?_
 refine Wk 0 (Bb 0) ?_
 refine Wk 0 (Jas Kao zv94 (pcs := [(0, [G.rm.pls.v, G.rm.ths.v, G.rm.prs.v, G.rm.wys.v, G.rm.acs.v, G.rm.aus.v, .int .i64 G.rm.ply, G.rm.gl.v, G.lks.v, G.cds.v, G.nts.v, .int .i64 G.tr]), (1, [y.st.ths.v, y.st.prs.v, y.st.pls.v, y.rd.v]), (5, [.int .i64 (-1)])]) rfl (CellsOf.agg (CellsOf.agg (CellsOf.one rfl CellsOf.nil))) rfl) ?_
 refine Wb 1 rfl rfl (fun _ => rfl) (fun _ => rfl) fun b18 hb18 => ?_
 refine Wd (Qc (Cs (Nz 1 ?_)))
 refine Wk 0 (Cb rfl rfl J7c (fun u hu => J2a G u (hG.st hu) hn g (hW.st hu) y (hu.ro (j := 2) rfl) { (Jax G.p) with en := -1 } hyx (Jb8 hB) b18 _ (Ja0 hu (j := 0) rfl))) ?_
 refine Wd (Qc (CS.cond rfl ?_ ?_))<;>intro hc2<;>try simp only [bq] at hc2
 ·
  have he : (Jax G.p).en = 0 := if_pos hc2
  refine Ny 3 ?_
  refine Ws 0 0 ?_
  refine Wd (Qc (Nz 3 ?_))
  exact Wd (Qc (Cr (out2 rfl rfl rfl (fun u hu => ⟨(b18, y), ⟨hyx, uy, hyok⟩, by rw [he]; exact Jkz (hu.sel [0, 1] rfl) (List.Perm.refl _)⟩))))
 have he : (Jax G.p).en = -1 := if_neg (fun h => by have h9 : Jdk G.p (Jax G.p).x = true := h; rw [hc2] at h9; cases h9)
 refine Ck (Qc (Nz 3 ?_))
 exact Wd (Qc (Cr (out2 rfl rfl rfl (fun u hu => ⟨(b18, y), ⟨hyx, uy, hyok⟩, by rw [he]; exact Jkz (hu.sel [0, 1] rfl) (List.Perm.refl _)⟩))))
theorem Jk9 (G : Game) (w : World) (hG : GameOk w G) (hn : NearG G) (g : Sl ByteArray) (hW : GOk w g) (hB : ¬ (Jah G.p).1 = 0) :
  Calls Tryz.prog 34 #[.agg #[G.rm.pls.v, G.rm.ths.v, G.rm.prs.v, G.rm.wys.v, G.rm.acs.v, G.rm.aus.v, .int .i64 G.rm.ply, G.rm.gl.v, G.lks.v, G.cds.v, G.nts.v, .int .i64 G.tr]] w (RetB w (.tuple #[.pointer none, .int .i64 (Jah G.p).1])) := by
 have o1 := Sl.one hG.rm.pls
 have o2 := Sl.one hG.rm.ths
 have o3 := Sl.one hG.rm.prs
 have o4 := Sl.one hG.rm.wys
 have o5 := Sl.one hG.rm.acs
 have o6 := Sl.one hG.rm.aus
 have o7 := Sl.one hG.rm.gl
 have o8 := Sl.one hG.lks
 have o9 := Sl.one hG.cds
 have o10 := Sl.one hG.nts
 refine enter Tryz.func34 rfl rfl (Nat.le_of_ble_eq_true rfl) ?_
 refine Nz 0 ?_
 refine Wb 2 rfl rfl (fun _ => rfl) (fun _ => rfl) fun b1 hb1 => ?_
 refine Wd (Qc (Nz 0 ?_))
 refine Wk 0 (Bb 0) ?_
 refine Wc rfl rfl J7u (fun u hu => Jtu G u (hG.st hu) g (hW.st hu) hn) (fun _ => rfl) ?_; rintro y ⟨hyx, uy, hyok⟩
 obtain ⟨hya, hyb, hyc⟩ := hyok.st.ones
 have hyd := Sl.one hyok.rd
 refine Wz 3 ?_
 refine Wl 0 zv61 (fun _ => rfl) (fun _ => rfl) fun b4 hb4 => ?_
 refine Wv 1 0 ?_
 refine Wd (Qc (Cs (Nz 2 ?_)))
 refine Wd (Qc (CS.cond rfl ?_ ?_))<;>intro hc1<;>try simp only [bq] at hc1
 ·
  refine Nz 3 ?_
  exact Wd (Qc (Cr (Qr (out2 rfl rfl rfl (Jab rfl)))))
 exact absurd hc1 hB
section
variable {P : Program} {ro : Option Nat} {n0 : Nat} {w0 : World} {ds : List Deferred} {ops : Array Oper} {Q : Exit → Act → World → Prop} {L : List SA} {rest : List Oper} {l : List Value}
theorem WS.ex {β : Type} {f : β → SA} (k : ∀ b, WS P ro n0 w0 ds ops Q (f b :: L) rest l) : WS P ro n0 w0 ds ops Q (exS f :: L) rest l := fun u hu => let ⟨b, hb⟩ := hu.ex; k b u hb
theorem WS.factE {p : Prop} {j : Nat} (hj : L[j]? = some (fact p)) (kk : p → WS P ro n0 w0 ds ops Q L rest l) : WS P ro n0 w0 ds ops Q L rest l := fun u hu => kk (hu.factE hj) u hu
end
theorem Jvj (G : Game) (w : World) (hG : GameOk w G) (hn : NearG G) (g : Sl ByteArray) (hW : GOk w g) (ms : Sl Timed) (hk : SlT cTimed w ms) (hml : ms.l.length ≤ 1000) (hB : (Jah G.p).1 = 0) :
  Calls Tryz.prog 11 #[.agg #[G.rm.pls.v, G.rm.ths.v, G.rm.prs.v, G.rm.wys.v, G.rm.acs.v, G.rm.aus.v, .int .i64 G.rm.ply, G.rm.gl.v, G.lks.v, G.cds.v, G.nts.v, .int .i64 G.tr], ms.v] w (RetT cEntry w (Jaa G.p ms.l).2.2 fun v => .tuple #[v, .int .i64 (Jaa G.p ms.l).2.1, .int .i64 (Jaa G.p ms.l).1]) := by
 have lls := hk.le
 refine enter Tryz.func11 rfl rfl (Nat.le_of_ble_eq_true rfl) ?_
 refine Nz 0 ?_
 refine Wb 3 rfl rfl (fun _ => rfl) (fun _ => rfl) fun b2 hb2 => ?_
 refine Wd (Qc (Nz 0 ?_))
 refine Wk 0 (Bb 0) ?_
 refine Wc rfl rfl Jre (fun u hu => Jii G u (hG.st hu) hn g (hW.st hu) hB) (fun _ => rfl) ?_; rintro ⟨fb, y⟩ ⟨hyx, uy, hyok⟩
 refine WS.unpack ?_
 refine Wz 5 ?_
 refine Wd (Qc (Cs (Nz 2 ?_)))
 refine Wd (Qc (CS.cond rfl ?_ ?_))<;>intro hc1<;>try simp only [bq] at hc1
 ·
  exact absurd trivial hc1
 refine Ck (Qc (Nz 1 ?_))
 refine Wd (Qc (Cs (Nz 1 ?_)))
 refine Wk 1 Nc ?_
 refine Wd (Qc (Ce ?_))
 refine CS.weak (fun _ hu => hu.osl0 (e := 73) (size := 7)) ?_
 refine CS.loopM (σ := Int × Int × Pos × Value × List Entr) [5, 6, 9, 10, 11, 12, 13, 25, 26, 27, 28, 29, 30, 31, 32, 33, 34, 35, 36, 37, 38, 39, 40, 41, 42, 43, 44, 45, 46, 47, 48, 49, 50, 51, 52, 53, 54, 55, 56, 57, 58, 59, 60, 61, 62, 63, 64, 65, 66, 67, 68, 69, 70, 71, 72, 73, 74, 75, 76, 77, 78, 79, 80, 81, 82, 83, 84, 85] (fun s => [(24, .int .i64 s.1), (8, .int .i64 s.2.1), (4, s.2.2.2.1)]) (fun s => [oT cEntry 73 s.2.2.2.1 s.2.2.2.2, blk fb [G.rm.pls.v, G.rm.ths.v, G.rm.prs.v, G.rm.wys.v, G.rm.acs.v, G.rm.aus.v, .int .i64 G.rm.ply, G.rm.gl.v, G.lks.v, G.cds.v, G.nts.v, .int .i64 G.tr, s.2.2.1.st.ths.v, s.2.2.1.st.prs.v, s.2.2.1.st.pls.v, s.2.2.1.rd.v, .bool ({ Jax G.p with x := s.2.2.1.x } : Film).st, .int .i64 ({ Jax G.p with x := s.2.2.1.x } : Film).si, .int .i64 ({ Jax G.p with x := s.2.2.1.x } : Film).pa, .int .i64 ({ Jax G.p with x := s.2.2.1.x } : Film).en, .int .i64 ({ Jax G.p with x := s.2.2.1.x } : Film).hi] 94, roS fun u => PosOk u s.2.2.1, blk b2 [G.rm.pls.v, G.rm.ths.v, G.rm.prs.v, G.rm.wys.v, G.rm.acs.v, G.rm.aus.v, .int .i64 G.rm.ply, G.rm.gl.v, G.lks.v, G.cds.v, G.nts.v, .int .i64 G.tr] 36]) (fun s => 0 ≤ s.1 ∧ s.1 ≤ ms.l.length ∧ (∃ u0, PosOk u0 s.2.2.1) ∧ posG G.p s.2.2.1.x = 0 ∧ (s.2.2.2.2.length : Int) ≤ 16 * s.1 ∧ True ∧ recF G.p ms.l 0 0 (Jah G.p).2 [] = recF G.p (ms.l.drop s.1.toNat) s.1 s.2.1 s.2.2.1.x s.2.2.2.2) (fun s => (ms.l.length - s.1).toNat) (0, 0, y, .slice none 0 0, []) (fun _ _ => rfl) rfl rfl ⟨by simp, by simp, ⟨_, hyok⟩, by rw [hyx]; exact Jb8 hB, by simp, trivial, by rw [hyx]; simp⟩ ?_
 intro a t hs
 obtain ⟨ha1, ha2, ⟨ua, haok⟩, ha4, ha5, ha6, ha7⟩ := hs
 obtain ⟨haa, hab, hac⟩ := haok.st.ones
 have had := Sl.one haok.rd
 have hnth := hn.rm.ths
 have hahn : a.2.2.1.st.ths.l.length = G.rm.ths.l.length := Jbm ha4
 refine Nz 1 ?_
 refine Wd (Qc (Cs (CS.cond rfl ?_ ?_)))<;>intro hc2<;>try simp only [bq] at hc2
 ·
  refine Ck (Qc (Cs (Ce (Nz 1 ?_))))
  refine Wk 0 Xc ?_
  refine Wk 0 Ua ?_
  refine Wl 1 zv77 (fun _ => rfl) (fun _ => rfl) fun b10 hb10 => ?_
  refine Wv 0 0 ?_
  refine Wd (Qc (Cs (Nz 1 ?_)))
  refine Wk 1 (Ba 0) ?_
  refine Wk 1 (Cb rfl rfl Jnt (fun u hu => Jdh _ _ _ u)) ?_
  refine Wd (Qc (CS.cond rfl ?_ ?_))<;>intro hc3<;>try simp only [bq] at hc3
  ·
   have hTn : ¬ (a.2.1 ≤ (nth ms.l a.1).t ∧ (nth ms.l a.1).t ≤ 1000000) := by have h9 := hc3; first | omega | (simp at h9; omega)
   refine Nz 4 ?_
   refine Wd (Qc (Cr (Qr (Qs (Qr (Qr (Qs (Qr ?_))))))))
   exact out3 rfl rfl rfl rfl (by
     have hv : (Jaa G.p ms.l) = (1, a.1, []) := Jh3 hB (by decide) (by rw [ha7, Jav ha1 (by omega), Jo5 hTn])
     rw [hv]
     exact fun u hu => Jm5 (C := cEntry) (f := fun v => .tuple #[v, .int .i64 a.1, .int .i64 1]) hu)
  have hTy : a.2.1 ≤ (nth ms.l a.1).t ∧ (nth ms.l a.1).t ≤ 1000000 := by have h9 := hc3; first | omega | (simp at h9; omega)
  refine Ck (Qc (Nz 1 ?_))
  refine Wk 1 (Ba 0) ?_
  refine Wd (Qc (Nz 5 ?_))
  refine Wk 0 (Ba 2) ?_
  refine Wc rfl rfl Jij (fun u hu => Jcn _ _ u ((hu.ro (j := 3) rfl).st.ths.ints) (by show a.2.2.1.st.ths.l.length ≤ 1000000; omega)) (fun _ => rfl) ?_; intro v43 hv43
  refine Wz 1 ?_
  refine Wd (Qc (Cs (Nz 2 ?_)))
  refine Wk 0 (Bc 1) ?_
  refine WS.callS rfl rfl J7f (fun u hu => Jtz [_, _, _] [_] G hG hn g hW fb a.2.2.1 ({ Jax G.p with x := a.2.2.1.x }) rfl ha4 (nth ms.l a.1).m hu) (fun _ => rfl) ?_; rintro z ⟨hzx, uz, hzok⟩
  obtain ⟨hza, hzb, hzc⟩ := hzok.st.ones
  have hzd := Sl.one hzok.rd
  dsimp only at hzx
  refine Wz 1 ?_
  refine Wd (Qc (CS.cond rfl ?_ ?_))<;>intro hc4<;>try simp only [bq] at hc4
  ·
   have hSn : ¬ (Jaf G.p a.2.2.1.x (nth ms.l a.1).m).1 = 0 := by first | exact hc4 | simpa using hc4
   refine Nz 4 ?_
   refine Wd (Qc (Cr (Qr (Qs (Qr (Qr (Qs (Qr ?_))))))))
   exact out3 rfl rfl rfl rfl (by
     have hv : (Jaa G.p ms.l) = (29, a.1, []) := Jh3 hB (by decide) (by rw [ha7, Jav ha1 (by omega), Jlr hTy hSn])
     rw [hv]
     exact fun u hu => Jm5 (C := cEntry) (f := fun v => .tuple #[v, .int .i64 a.1, .int .i64 29]) hu)
  have hS : (Jaf G.p a.2.2.1.x (nth ms.l a.1).m).1 = 0 := by first | exact hc4 | simpa using hc4
  rw [if_pos hS] at hzx
  have hgd := Jen (p := Jjp a.2.2.1.x) hS
  have hzq : posG G.p z.x = 0 := by rw [hzx]; exact hgd.2.2
  have hzn : z.st.ths.l.length = G.rm.ths.l.length := Jbm hzq
  have hzl : z.st.ths.l = (Jaf G.p a.2.2.1.x (nth ms.l a.1).m).2.1.1 := by rw [← hzx]; rfl
  refine Ck (Qc (Nz 2 ?_))
  refine Wk 1 (Ba 1) ?_
  refine Wk 0 (Bc 1) ?_
  refine Wk 0 (Jas Jir zv73 (pcs := [(0, [.int .i64 (nth ms.l a.1).t]), (1, [.int .i64 1]), (2, [.int .i64 (nth ms.l a.1).m.p, .int .i64 (nth ms.l a.1).m.k, .int .i64 (nth ms.l a.1).m.n])]) rfl (CellsOf.one rfl (CellsOf.one rfl (CellsOf.agg CellsOf.nil))) rfl) ?_
  refine WS.buildT1 cEntry (a := (⟨(nth ms.l a.1).t, 1, (nth ms.l a.1).m, 0, 0⟩ : Entr)) sl40 zv73 rfl (by decide) (fun _ => rfl) ?_; intro v56
  refine WS.appendT1 (C := cEntry) (a := (⟨(nth ms.l a.1).t, 1, (nth ms.l a.1).m, 0, 0⟩ : Entr)) (j := 3) (jz := 0) sl40 zv73 rfl (by decide) rfl rfl rfl rfl (w := w) trivial (by omega) (by omega) (fun _ => rfl) (fun _ => rfl) ?_; intro v57 hv57
  refine Wz 1 ?_
  refine Wd (Qc (Nz 5 ?_))
  refine Wk 0 (Ba 4) ?_
  refine Wk 1 (Jda (s := z.st.ths) sl56 rfl hzok.st.ths) ?_
  refine Wd (Qc (Ce ?_))
  refine CS.sel [3, 1, 1, 1, 1, 1] rfl ?_
  refine CS.loopM (σ := Int × Value) [12, 13, 66, 67, 68, 69, 70, 71, 72, 73, 74, 75, 76, 77, 78, 79, 80, 81, 82, 83, 84] (fun s => [(65, .int .i64 s.1), (4, s.2)]) (fun s => [oT cEntry 73 s.2 (a.2.2.2.2 ++ ⟨(nth ms.l a.1).t, 1, (nth ms.l a.1).m, 0, 0⟩ :: Jc5 (nth ms.l a.1).t a.2.2.1.x.1.1 (Jaf G.p a.2.2.1.x (nth ms.l a.1).m).2.1.1 s.1), oints 3 v43 a.2.2.1.st.ths.l, blk b10 (cTimed.cells (nth ms.l a.1)) 77, blk fb [G.rm.pls.v, G.rm.ths.v, G.rm.prs.v, G.rm.wys.v, G.rm.acs.v, G.rm.aus.v, .int .i64 G.rm.ply, G.rm.gl.v, G.lks.v, G.cds.v, G.nts.v, .int .i64 G.tr, z.st.ths.v, z.st.prs.v, z.st.pls.v, z.rd.v, .bool ({ Jax G.p with x := z.x } : Film).st, .int .i64 ({ Jax G.p with x := z.x } : Film).si, .int .i64 ({ Jax G.p with x := z.x } : Film).pa, .int .i64 ({ Jax G.p with x := z.x } : Film).en, .int .i64 ({ Jax G.p with x := z.x } : Film).hi] 94, roS fun u => PosOk u z, blk b2 [G.rm.pls.v, G.rm.ths.v, G.rm.prs.v, G.rm.wys.v, G.rm.acs.v, G.rm.aus.v, .int .i64 G.rm.ply, G.rm.gl.v, G.lks.v, G.cds.v, G.nts.v, .int .i64 G.tr] 36]) (fun s => 0 ≤ s.1 ∧ s.1 ≤ z.st.ths.l.length) (fun s => (z.st.ths.l.length - s.1).toNat) (0, v57) (fun _ _ => rfl) rfl rfl ⟨by simp, by simp⟩ ?_
  intro q t hs
  obtain ⟨hq1, hq2⟩ := hs
  refine Nz 1 ?_
  refine Wd (Qc (Cs (CS.cond rfl ?_ ?_)))<;>intro hc5<;>try simp only [bq] at hc5
  ·
   have hql : q.1 < (z.st.ths.l.length : Int) := by first | exact hc5 | simpa using hc5
   have hsl := Jej (t := (nth ms.l a.1).t) (old := a.2.2.1.x.1.1) (new := (Jaf G.p a.2.2.1.x (nth ms.l a.1).m).2.1.1) (k := q.1)
   have hcl : (a.2.2.2.2 ++ ⟨(nth ms.l a.1).t, 1, (nth ms.l a.1).m, 0, 0⟩ :: Jc5 (nth ms.l a.1).t a.2.2.1.x.1.1 (Jaf G.p a.2.2.1.x (nth ms.l a.1).m).2.1.1 q.1).length = a.2.2.2.2.length + 1 + (Jc5 (nth ms.l a.1).t a.2.2.1.x.1.1 (Jaf G.p a.2.2.1.x (nth ms.l a.1).m).2.1.1 q.1).length := by simp; omega
   refine Ck (Qc (Cs (Ce (Nz 1 ?_))))
   refine Wk 0 (Jbi (s := z.st.ths) sl56 rfl rfl hzok.st.ths rfl (by omega) (by omega)) ?_
   refine Wk 2 (Jd8 4 (s := z.st.ths) rfl (fun _ h ↦ h.st.ths) rfl rfl ⟨by omega, by omega⟩ rfl tk3) ?_
   refine Wd (Qc (Nz 3 ?_))
   refine Wk 0 (Xb 1) ?_
   refine Wk 1 (Jsd (j := 1) rfl rfl ⟨by omega, by omega⟩ tk3) ?_
   refine Wd (Qc (CS.cond rfl ?_ ?_))<;>intro hc6<;>try simp only [bq] at hc6
   ·
    have hne : ¬ nth (Jaf G.p a.2.2.1.x (nth ms.l a.1).m).2.1.1 q.1 = nth a.2.2.1.x.1.1 q.1 := by rw [← hzl]; first | exact hc6 | simpa using hc6
    refine Ny 2 ?_
    refine Wk 2 (Ba 2) ?_
    refine Wk 0 (Jas Jir zv73 (pcs := [(0, [.int .i64 (nth ms.l a.1).t]), (1, [.int .i64 5]), (3, [.int .i64 q.1]), (4, [.int .i64 (nth z.st.ths.l q.1)])]) rfl (CellsOf.one rfl (CellsOf.one rfl (CellsOf.one rfl (CellsOf.one rfl CellsOf.nil)))) rfl) ?_
    refine WS.buildT1 cEntry (a := ⟨(nth ms.l a.1).t, 5, mv0, q.1, nth z.st.ths.l q.1⟩) sl40 zv73 rfl (by decide) (fun _ => rfl) ?_; intro v82
    refine WS.appendT1 (C := cEntry) (a := ⟨(nth ms.l a.1).t, 5, mv0, q.1, nth z.st.ths.l q.1⟩) (j := 1) (jz := 0) sl40 zv73 rfl (by decide) rfl rfl rfl rfl (w := w) trivial (by omega) (by omega) (fun _ => rfl) (fun _ => rfl) ?_; intro v83 hv83
    refine Wz 1 ?_
    refine Wd (Qb (Qc (Ny 0 ?_)))
    refine Wk 1 Za ?_
    refine Wd ?_
    refine QS.sel [1, 1, 1, 1, 1, 1] rfl ?_
    exact QS.head ((q.1 + 1, v83)) rfl (by first | simp only [← Jeg hq1 hne, hzl, List.append_assoc, List.cons_append, List.nil_append] | simp only [← Jfj hq1 heq]) ⟨⟨by simp; omega, by simp; omega⟩, by simp; omega⟩
   have heq : nth (Jaf G.p a.2.2.1.x (nth ms.l a.1).m).2.1.1 q.1 = nth a.2.2.1.x.1.1 q.1 := by rw [← hzl]; first | exact hc6 | simpa using hc6
   refine Ck (Qb (Qc (Ny 0 ?_)))
   refine Wk 1 Za ?_
   exact Wd (QS.head ((q.1 + 1, q.2)) rfl (by first | simp only [← Jeg hq1 hne, hzl, List.append_assoc, List.cons_append, List.nil_append] | simp only [← Jfj hq1 heq]) ⟨⟨by simp; omega, by simp; omega⟩, by simp; omega⟩)
  have hqe : q.1 = (Jaf G.p a.2.2.1.x (nth ms.l a.1).m).2.1.1.length := by rw [← hzl]; omega
  have hsl := Jej (t := (nth ms.l a.1).t) (old := a.2.2.1.x.1.1) (new := (Jaf G.p a.2.2.1.x (nth ms.l a.1).m).2.1.1) (k := q.1)
  rw [← hzl] at hqe
  have hse := Ji6 (t := (nth ms.l a.1).t) (old := a.2.2.1.x.1.1) (new := (Jaf G.p a.2.2.1.x (nth ms.l a.1).m).2.1.1) (k := q.1) (by rw [← hzl]; exact hqe)
  refine Cv (Qe (Qe (Qx (Qb (Qc (Ny 0 ?_))))))
  refine Wk 1 Za ?_
  refine Wd ?_
  refine QS.sel [0, 2, 2, 2] rfl ?_
  exact QS.head ((a.1 + 1, (nth ms.l a.1).t, z, q.2, (a.2.2.2.2 ++ ⟨(nth ms.l a.1).t, 1, (nth ms.l a.1).m, 0, 0⟩ :: Jc5 (nth ms.l a.1).t a.2.2.1.x.1.1 (Jaf G.p a.2.2.1.x (nth ms.l a.1).m).2.1.1 q.1))) rfl rfl ⟨⟨by simp; omega, by simp; omega, ⟨_, hzok⟩, hzq, by simp; omega, trivial, by rw [ha7, Jav ha1 (by omega), Jj9 hTy hS, hse, ← hzx]⟩, by simp; omega⟩
 have hrn : recF G.p ms.l 0 0 (Jah G.p).2 [] = (0, 0, a.2.2.2.2, a.2.2.1.x) := by rw [ha7, List.drop_of_length_le (by omega), recF]
 refine Cv (Qe (Qe (Qx (Qc (Cs (Nz 1 ?_))))))
 refine Wk 1 (Jer (j := 0) sl40 rfl rfl) ?_
 refine Wd (Qc (CS.cond rfl ?_ ?_))<;>intro hc7<;>try simp only [bq] at hc7
 ·
  refine Nz 3 ?_
  refine Wd (Qc (Cr (Qr ?_)))
  exact out3 rfl rfl rfl rfl (by
    have hv : (Jaa G.p ms.l) = (2, 0, []) := Js1 hB hrn (by omega)
    rw [hv]
    exact fun u hu => Jm5 (C := cEntry) (f := fun v => .tuple #[v, .int .i64 0, .int .i64 2]) hu)
 refine Ck (Qc (Nz 4 ?_))
 refine Wd (Qc (Cr ?_))
 exact out3 rfl rfl rfl rfl (by
   have hv : (Jaa G.p ms.l) = (0, 0, a.2.2.2.2) := Jm1 hB hrn (by omega)
   rw [hv]
   exact fun u hu => retT (C := cEntry) (f := fun v => .tuple #[v, .int .i64 0, .int .i64 0]) (j := 0) (fun _ _ _ => trivial) rfl hu)
theorem Ju6 (G : Game) (w : World) (hG : GameOk w G) (hn : NearG G) (g : Sl ByteArray) (hW : GOk w g) (ms : Sl Timed) (hk : SlT cTimed w ms) (hml : ms.l.length ≤ 1000) (hB : ¬ (Jah G.p).1 = 0) :
  Calls Tryz.prog 11 #[.agg #[G.rm.pls.v, G.rm.ths.v, G.rm.prs.v, G.rm.wys.v, G.rm.acs.v, G.rm.aus.v, .int .i64 G.rm.ply, G.rm.gl.v, G.lks.v, G.cds.v, G.nts.v, .int .i64 G.tr], ms.v] w (RetT cEntry w (Jaa G.p ms.l).2.2 fun v => .tuple #[v, .int .i64 (Jaa G.p ms.l).2.1, .int .i64 (Jaa G.p ms.l).1]) := by
 refine enter Tryz.func11 rfl rfl (Nat.le_of_ble_eq_true rfl) ?_
 refine Nz 0 ?_
 refine Wb 3 rfl rfl (fun _ => rfl) (fun _ => rfl) fun b2 hb2 => ?_
 refine Wd (Qc (Nz 0 ?_))
 refine Wk 0 (Bb 0) ?_
 refine Wk 5 (Cb rfl rfl Jre (fun u hu => Jk9 G u (hG.st hu) hn g (hW.st hu) hB)) ?_
 refine Wd (Qc (Cs (Nz 2 ?_)))
 refine Wd (Qc (CS.cond rfl ?_ ?_))<;>intro hc1<;>try simp only [bq] at hc1
 ·
  refine Nz 4 ?_
  refine Wd (Qc (Cr (Qr ?_)))
  exact out3 rfl rfl rfl rfl (by
    have hv : (Jaa G.p ms.l) = ((Jah G.p).1, 0, []) := Jta hB
    rw [hv]
    exact fun u hu => Jm5 (C := cEntry) (f := fun v => .tuple #[v, .int .i64 0, .int .i64 (Jah G.p).1]) hu)
 exact absurd hc1 hB
theorem Jgl (G : Game) (w : World) (hG : GameOk w G) (hn : NearG G) (g : Sl ByteArray) (hW : GOk w g) (ms : Sl Timed) (hk : SlT cTimed w ms) (hml : ms.l.length ≤ 1000) :
  Calls Tryz.prog 11 #[.agg #[G.rm.pls.v, G.rm.ths.v, G.rm.prs.v, G.rm.wys.v, G.rm.acs.v, G.rm.aus.v, .int .i64 G.rm.ply, G.rm.gl.v, G.lks.v, G.cds.v, G.nts.v, .int .i64 G.tr], ms.v] w (RetT cEntry w (Jaa G.p ms.l).2.2 fun v => .tuple #[v, .int .i64 (Jaa G.p ms.l).2.1, .int .i64 (Jaa G.p ms.l).1]) := by
 by_cases hB : (Jah G.p).1 = 0
 ·
  exact Jvj G w hG hn g hW ms hk hml hB
 exact Ju6 G w hG hn g hW ms hk hml hB
theorem Jw3 : (Jaf exG.p (([0, 0], [0], [0]), [true, true, false]) ⟨0, 4, 0⟩).1 = 0 ∧ (Jaf exG.p (([0, 0], [0], [0]), [true, true, false]) ⟨0, 4, 0⟩).2.1.1 = [1, 0] := by
 unfold Jaf
 rw [J73, if_pos rfl]
 exact ⟨by kernel_rfl, by kernel_rfl⟩
def Jrn : List Entr := [⟨5, 1, ⟨0, 4, 0⟩, 0, 0⟩, ⟨5, 5, mv0, 0, 1⟩]
theorem Kaa : Jaa exG.p [⟨5, ⟨0, 4, 0⟩⟩] = (0, 0, Jrn) := by
 have hB : (Jah exG.p).1 = 0 := by rw [Jsp]
 have hx : (Jah exG.p).2 = (([0, 0], [0], [0]), [true, true, false]) := by rw [Jsp]
 refine Jm1 hB (o := Jrn) (x := (Jaf exG.p (([0, 0], [0], [0]), [true, true, false]) ⟨0, 4, 0⟩).2) ?_ (by decide)
 rw [hx, Jj9 ⟨by decide, by decide⟩ Jw3.1, recF]
 show (0, 0, [] ++ (⟨5, 1, ⟨0, 4, 0⟩, 0, 0⟩ : Entr) :: Jf5 5 [0, 0] (Jaf exG.p (([0, 0], [0], [0]), [true, true, false]) ⟨0, 4, 0⟩).2.1.1, _) = _
 rw [Jw3.2]; rfl
theorem Jbu (w : World) (g : Sl ByteArray) (hW : GOk w g) : Calls Tryz.prog 10 #[] w (RetB w (.bool true)) := by
 refine enter Tryz.func10 rfl rfl (Nat.le_of_ble_eq_true rfl) ?_
 refine Nz 1 ?_
 refine Wd (Qc (Nz 0 ?_))
 refine Wc rfl rfl Kas (fun u hu => Jun u) (fun _ => rfl) ?_; rintro c ⟨hcp, uc, hcok⟩
 have hnc := Jhi hcp J5r
 have o1 := Sl.one hcok.rm.pls
 have o2 := Sl.one hcok.rm.ths
 have o3 := Sl.one hcok.rm.prs
 have o4 := Sl.one hcok.rm.wys
 have o5 := Sl.one hcok.rm.acs
 have o6 := Sl.one hcok.rm.aus
 have o7 := Sl.one hcok.rm.gl
 have o8 := Sl.one hcok.lks
 have o9 := Sl.one hcok.cds
 have o10 := Sl.one hcok.nts
 refine Wk 0 (Db J1k zv71) ?_
 refine Wk 0 (Jas J01 zv77 (pcs := [(0, [.int .i64 5]), (1, [.int .i64 0, .int .i64 4, .int .i64 0])]) rfl (CellsOf.one rfl (CellsOf.agg CellsOf.nil)) rfl) ?_
 refine WS.buildT1 cTimed (a := ⟨5, ⟨0, 4, 0⟩⟩) sl37 zv77 rfl (by decide) (fun _ => rfl) ?_; intro v8
 refine Wc rfl rfl Jw8 (fun u hu => (by have q := Jgl c u (hu.ro (j := 1) rfl) hnc g (hW.st hu) ⟨v8, [⟨5, ⟨0, 4, 0⟩⟩]⟩ ⟨Jbe hu (j := 0) rfl, fun _ _ ↦ trivial⟩ (by show (1 : Nat) ≤ 1000; decide); rw [hcp, Kaa] at q; exact q)) (fun _ => rfl) ?_; rintro v9 ⟨u9, h9⟩
 refine Wz 7 ?_
 refine Wd (Qc (Nz 3 ?_))
 refine Wt 0 rfl rfl (fun hg => Fm) ?_
 refine Wt 0 rfl rfl (fun hg => Nc (s := ⟨v9, Jrn⟩) (eg_ hg rfl)) ?_
 refine Wt 0 rfl rfl (fun hg => Fq) ?_
 refine Wk 1 Pa ?_
 refine Wt 0 rfl rfl (fun hg => Fm) ?_
 refine Wt 0 rfl rfl (fun hg => Jbi (s := ⟨v9, Jrn⟩) (i := 1) sl40 (eg_ hg rfl) rfl h9 rfl (by decide) (by show (1 : Int) < 2; decide)) ?_
 refine Wt 0 rfl rfl (fun hg => Jfo (jj := 0) (s := ⟨v9, Jrn⟩) (i := 1) rfl (eg_ hg rfl) rfl ⟨by decide, by show (1 : Int) < 2; decide⟩ rfl tk73) ?_
 refine Wt 0 rfl rfl (fun hg => Db Jir zv73) ?_
 refine Wt 0 rfl rfl (fun hg => Jg0 Je2 (eg_ hg rfl) (eg_ hg rfl) (Jc3 (nth Jrn 1) ⟨5, 5, mv0, 0, 1⟩)) ?_
 refine Wk 1 Pa ?_
 exact Wd (Qc (Cr (out1 rfl rfl (Jab (by first | rfl | simp [Jrn])))))
end Go.Proofs.YtohneogdekdboaaGreatDoor
