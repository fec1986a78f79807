/- Merged texts of this proof (walks and plain laws), printed by a program of the prover. -/
import Derived.Test.YtohneogdekdboaaGreatDoorY0
import Derived.Test.YtohneogdekdboaaGreatDoorY1
import Derived.Test.YtohneogdekdboaaGreatDoorY2
import Derived.Test.YtohneogdekdboaaGreatDoorY3
import Derived.Test.YtohneogdekdboaaGreatDoorY4
import Derived.Test.YtohneogdekdboaaGreatDoorY6
import Derived.Test.YtohneogdekdboaaGreatDoorY7
import Derived.Test.YtohneogdekdboaaGreatDoorY8
import Derived.Test.YtohneogdekdboaaGreatDoorY10
import Derived.Test.YtohneogdekdboaaGreatDoorY12
import Derived.Test.YtohneogdekdboaaGreatDoorY13
import Derived.Test.YtohneogdekdboaaGreatDoorZb
import Derived.Test.YtohneogdekdboaaGreatDoorProg
import Derived.KernelRfl
import Derived.Test.YtohneogdekdboaaGreatDoorZc
import Derived.Test.YtohneogdekdboaaGreatDoorXa
import Derived.Test.YtohneogdekdboaaGreatDoorXb
import Derived.Test.YtohneogdekdboaaGreatDoorXc
import Derived.Test.YtohneogdekdboaaGreatDoorXd
namespace Go.Proofs.YtohneogdekdboaaGreatDoor
open Go.Proofs
theorem Kal : Ent Tryz.prog 24 := Jac Tryz.func24 (by kernel_rfl) rfl
theorem Kbe : Ent Tryz.prog 26 := Jac Tryz.func26 (by kernel_rfl) rfl
theorem Kbi : Ent Tryz.prog 27 := Jac Tryz.func27 (by kernel_rfl) rfl
end Go.Proofs.YtohneogdekdboaaGreatDoor
set_option maxHeartbeats 8000000
namespace Go.Proofs.YtohneogdekdboaaGreatDoor
open Go.RowKit Go.Proofs
set_option maxRecDepth 100000
set_option linter.unusedVariables false
set_option linter.unusedSimpArgs false
theorem Jt4 (x y : Sl (Sl Int)) (w : World) (hx : SlT (cSl cInt) w x) (hy : SlT (cSl cInt) w y) :
  Calls Tryz.prog 27 #[x.v, y.v] w (RetB w (.bool (decide (x.l.map Sl.l = y.l.map Sl.l)))) := by
 have lx := hx.le
 have ly := hy.le
 refine enter Tryz.func27 rfl rfl (Nat.le_of_ble_eq_true rfl) ?_
 refine Nz 1 ?_
 refine Wd (Qc (Cs (Nz 1 ?_)))
 refine Wk 1 Nc ?_
 refine Wk 1 Nc ?_
 refine Wd (Qc (CS.cond rfl ?_ ?_))<;>intro hc1<;>try simp only [bq] at hc1
 ·
  refine Nz 1 ?_
  exact Wd (Qc (Cr (Qr (out1 rfl rfl (Jab (Jhg fun h => hc1 (by have h9 := congrArg List.length h; simp only [List.length_map] at h9; omega)))))))
 refine Ck (Qc (Cs (Nz 1 ?_)))
 refine Wd (Qc (Ce ?_))
 refine CS.loopM (σ := Int) [4, 11, 12, 13, 14, 15, 16, 17, 18, 19, 20, 21, 22, 23, 24, 25, 26] (fun s => [(5, .int .i64 s)]) (fun _ => _) (fun s => 0 ≤ s ∧ s ≤ x.l.length ∧ ∀ j : Int, 0 ≤ j → j < s → (nth x.l j).l = (nth y.l j).l) (fun s => (x.l.length - s).toNat) 0 (fun _ _ => rfl) rfl rfl ⟨by omega, by omega, fun j _ _ => by omega⟩ ?_
 intro a t hs
 obtain ⟨ha1, ha2, ha3⟩ := hs
 refine Cs (Nz 2 ?_)
 refine Wk 1 Nc ?_
 refine Wd (Qc (CS.cond rfl ?_ ?_))<;>intro hc2<;>try simp only [bq] at hc2
 ·
  have ax : SlI w (nth x.l a).v (nth x.l a).l := (hx.at ha1 (by omega) : SlT cInt w _).ints
  have ay : SlI w (nth y.l a).v (nth y.l a).l := (hy.at ha1 (by omega) : SlT cInt w _).ints
  refine Ck (Qc (Cs (Ce (Cs (Dr Jai 2 ?_)))))
  refine Dk 0 Xc ?_
  refine Dk 2 Ub ?_
  refine Dk 0 Xc ?_
  refine Dk 0 Ub ?_
  refine Dk 1 (Cb rfl rfl Jjt (fun u hu => Jbz _ _ _ _ u (ax.st hu) (ay.st hu))) ?_
  refine Dd (Qc (CS.cond rfl ?_ ?_))<;>intro hc3<;>try simp only [bq] at hc3
  ·
   refine Nz 1 ?_
   exact Wd (Qc (Cr (Qs (Qr (Qr (Qs (Qr (out1 rfl rfl (Jab (Jhg fun h => hc3 (Jwo h a)))))))))))
  refine Ck (Qb (Qc (Ny 1 ?_)))
  refine Wk 1 Za ?_
  refine Wd ?_
  exact QS.head (a + 1) rfl rfl ⟨⟨by omega, by omega, fun j h0 h1 => by
     rcases (show j < a ∨ j = a by omega) with h | h
     ·
      exact ha3 j h0 h
     rw [h]; exact hc3⟩, by omega⟩
 refine Cv (Qe (Qe (Qx (Qc (Nz 1 ?_)))))
 exact Wd (Qc (Cr (out1 rfl rfl (Jab (Joz (Jdg Sl.l hc2 (by omega) ha3))))))
section
variable {P : Program} {n0 : Nat} {w0 : World} {L : List SA} {l : List Value} {fn : Func}
theorem J2i {b t t1 t3 : Nat} {ty : TypeId} {v v1 v3 : Value} (h : fn.results = #[.tmp t1, .cell t ty, .tmp t3]) (h1 : l[t1]? = some v1) (h2 : Rv P n0 w0 L l b t ty v) (h3 : l[t3]? = some v3) : Res P fn l L n0 w0 (.tuple #[v1, v, v3]) := fun u hu => by
 obtain ⟨a1, a2⟩ := Jlz h2 hu
 simp only [results, h]
 simp [Sem.run_bind, Result.andThen, a1, a2, h1, h3]
end
theorem Jo9 (G : Game) (w : World) (hG : GameOk w G) (hn : NearG G) (l : Sl Entr) (hk : SlT cEntry w l) :
  Calls Tryz.prog 24 #[.agg #[G.rm.pls.v, G.rm.ths.v, G.rm.prs.v, G.rm.wys.v, G.rm.acs.v, G.rm.aus.v, .int .i64 G.rm.ply, G.rm.gl.v, G.lks.v, G.cds.v, G.nts.v, .int .i64 G.tr], l.v] w (Juv w (Ja2 G.p l.l)) := by
 have lls := hk.le
 refine enter Tryz.func24 rfl rfl (Nat.le_of_ble_eq_true rfl) ?_
 refine Nz 0 ?_
 refine Wb 1 rfl rfl (fun _ => rfl) (fun _ => rfl) fun b2 hb2 => ?_
 refine Wl 1 zv61 (fun _ => rfl) (fun _ => rfl) fun b5 hb5 => ?_
 refine Wd (Qc (Nz 0 ?_))
 refine Wk 1 (Bb 1) ?_
 refine Wk 5 (Cb rfl rfl Jxl (fun u hu => Jel G u (hG.st hu) hn l (hk.st hu))) ?_
 refine Wd (Qc (Cs (Nz 2 ?_)))
 refine Wd (Qc (CS.cond rfl ?_ ?_))<;>intro hc1<;>try simp only [bq] at hc1
 ·
  refine Nz 0 ?_
  refine Wk 2 (Db Jd1 zv61) ?_
  refine Wv 1 0 ?_
  refine Wd (Qc (Cr (Qr ?_)))
  exact outR (J2i rfl rfl (Jam (j := 0) rfl rfl tk61) rfl) (by
    have hv : Ja2 G.p l.l = ((Jaj G.p l.l).1, [], noP) := if_neg hc1
    rw [hv]
    exact J26)
 have hE : (Jaj G.p l.l).1 = 0 := hc1
 obtain ⟨hB, hL, F, hR, hV⟩ := Jeq hE
 refine Ck (Qc (Nz 0 ?_))
 refine Wk 0 (Bb 1) ?_
 refine Wc rfl rfl J3m (fun u hu => Jnx G u (hG.st hu) hn) (fun _ => rfl) ?_; rintro ⟨rb, y⟩ ⟨hyx, uy, hyok⟩
 refine WS.unpack ?_
 refine Wz 5 ?_
 refine Wd (Qc (Nz 1 ?_))
 refine Wd (Qc (Cs (Nz 1 ?_)))
 refine Wd (Qc (Ce ?_))
 refine CS.weak (L' := (roS fun u => ∀ x ∈ ([] : List (Sl Int)), SlT cInt u x) :: oT (cSl cInt) 56 (.slice none 0 0) [] :: _) (fun u hu => St.roTrue (hu.osl0 (e := 56) (size := 1)) (p := fun u => ∀ x ∈ ([] : List (Sl Int)), SlT cInt u x) (fun u x h => absurd h List.not_mem_nil)) ?_
 refine CS.sel [2, 2, 0, 0, 0, 0] rfl ?_
 refine CS.loopM (σ := Int × Pos × Film × Int × Value × List (Sl Int)) [28, 29, 30, 31, 32, 33, 34, 35, 36, 37, 38, 39, 40, 41, 42, 43, 44, 45, 46, 47, 48, 49, 50, 51, 52, 53, 54, 55, 56] (fun s => [(12, .int .i64 s.1), (11, s.2.2.2.2.1)]) (fun s => [blk rb [G.rm.pls.v, G.rm.ths.v, G.rm.prs.v, G.rm.wys.v, G.rm.acs.v, G.rm.aus.v, .int .i64 G.rm.ply, G.rm.gl.v, G.lks.v, G.cds.v, G.nts.v, .int .i64 G.tr, s.2.1.st.ths.v, s.2.1.st.prs.v, s.2.1.st.pls.v, s.2.1.rd.v, .bool s.2.2.1.st, .int .i64 s.2.2.2.1] 111, roS fun u => PosOk u s.2.1, roS fun u => ∀ x ∈ s.2.2.2.2.2, SlT cInt u x, oT (cSl cInt) 56 s.2.2.2.2.1 s.2.2.2.2.2, blk b5 [.slice none 0 0, .slice none 0 0, .slice none 0 0, .slice none 0 0] 61, blk b2 [G.rm.pls.v, G.rm.ths.v, G.rm.prs.v, G.rm.wys.v, G.rm.acs.v, G.rm.aus.v, .int .i64 G.rm.ply, G.rm.gl.v, G.lks.v, G.cds.v, G.nts.v, .int .i64 G.tr] 36]) (fun s => 0 ≤ s.1 ∧ s.1 ≤ l.l.length ∧ (∃ u0, PosOk u0 s.2.1) ∧ s.2.1.x = s.2.2.1.x ∧ posG G.p s.2.2.1.x = 0 ∧ Jb1 G.p (l.l.drop s.1.toNat) s.1 s.2.2.2.1 s.2.2.1 = .ok F ∧ Jc7 G.p l.l (Jax G.p) = s.2.2.2.2.2.map Sl.l ++ Jc7 G.p (l.l.drop s.1.toNat) s.2.2.1 ∧ s.2.2.2.2.2.length ≤ s.1.toNat) (fun s => (l.l.length - s.1).toNat) (0, y, Jax G.p, 0, .slice none 0 0, []) (fun _ _ => rfl) rfl rfl ⟨by simp, by simp, ⟨_, hyok⟩, hyx, Jb8 hB, hR, by simp, by simp⟩ ?_
 intro s t hs
 obtain ⟨hs1, hs2, ⟨us, hsok⟩, hs4, hs5, hs6, hs7, hs8⟩ := hs
 obtain ⟨hsa, hsb, hsc⟩ := hsok.st.ones
 have hsd := Sl.one hsok.rd
 refine Cs (Nz 2 ?_)
 refine Wk 1 Nc ?_
 refine Wd (Qc (CS.cond rfl ?_ ?_))<;>intro hc2<;>try simp only [bq] at hc2
 ·
  rw [Jav hs1 (by omega)] at hs6
  obtain ⟨hT, f3, hf3, hr3⟩ := Jld hs6
  refine Ck (Qc (Cs (Ce (Nz 3 ?_))))
  refine Wk 0 Xc ?_
  refine Wk 0 Ua ?_
  refine WS.callS rfl rfl J3u (fun u hu => Jkk [] [_, _, _, _] G hG hn rb s.2.1 s.2.2.1 hs4 (nth l.l s.1) s.2.2.2.1 hu) (fun _ => rfl) ?_; rintro ⟨y2, f2, t2⟩ ⟨hy2x, ⟨uy2, hy2ok⟩, hf2⟩
  dsimp only at hf2 hy2x hy2ok
  obtain ⟨rfl, rfl⟩ := hf2 f3 hT hf3
  have hq2 := Jk3 hs5 hf3
  have hy2n : y2.st.ths.l.length = G.rm.ths.l.length := by have h9 := Jbm hq2; rw [← hy2x] at h9; exact h9
  have hnth := hn.rm.ths
  refine Wd (Qc (Nz 2 ?_))
  refine Wk 1 Xc ?_
  refine Wk 1 (Uc 7 1) ?_
  refine Wd (Qc (CS.cond rfl ?_ ?_))<;>intro hc3<;>try simp only [bq] at hc3
  ·
   refine Ny 1 ?_
   refine WS.build0 sl56 zv3 (fun _ => rfl) ?_; intro v47
   refine Wz 5 ?_
   refine Wk 0 (Ba 1) ?_
   refine WS.append0 (j := 0) (news := Jaw cInt y2.st.ths.l) (m := y2.st.ths.l.length) sl56 zv3 rfl (by decide) rfl rfl rfl (fun u hu => ((hu.ro (j := 2) rfl : PosOk u y2).st.ths).sp) hy2ok.st.ths.one (by omega) (by omega) (fun _ => rfl) (fun _ => rfl) ?_; intro v54; refine WS.oc (j := 0) rfl (fun hv54 => ?_)
   refine WS.buildSlice1 sl33 zv56 (vs := [v54]) rfl rfl (by decide) (fun v h => by simp at h; subst h; exact hv54) (fun _ => rfl) ?_; intro v55
   refine WS.appendT2 (C := cSl cInt) (a := ⟨v54, y2.st.ths.l⟩) (j := 5) (jz := 0) sl33 zv56 rfl (by decide) rfl rfl rfl rfl (fun v h => by simp [cSl] at h; subst h; exact hv54) (by omega) (by omega) (fun _ => rfl) (fun _ => rfl) ?_; intro v56 hv56
   refine Wz 1 ?_
   refine Wd (Qb (Qc (Ny 1 ?_)))
   refine Wk 1 Za ?_
   refine Wd ?_
   refine QS.sel [1, 3, 1, 1, 1, 1, 1] rfl ?_
   refine QS.weak (L' := (roS fun u => ∀ x ∈ s.2.2.2.2.2 ++ [(⟨v54, y2.st.ths.l⟩ : Sl Int)], SlT cInt u x) :: _) (fun u hu => St.ro2 (A := osl 3 1 v54 y2.st.ths.l.length (Jaw cInt y2.st.ths.l)) (p := fun u => SlT cInt u ⟨v54, y2.st.ths.l⟩) (fun S u h => ⟨Jbc h.2, fun _ _ => trivial⟩) (fun S u h => roS.now h) (fun u hp hq x hx => by rcases List.mem_append.1 hx with h | h; exact hq x h; rw [List.mem_singleton.1 h]; exact hp) hu) ?_
   refine QS.sel [1, 1, 0, 0, 0, 0] rfl ?_
   exact QS.head ((s.1 + 1, y2, f2, (nth l.l s.1).t, v56, s.2.2.2.2.2 ++ [⟨v54, y2.st.ths.l⟩])) rfl rfl ⟨⟨by simp; omega, by simp; omega, ⟨_, hy2ok⟩, hy2x, hq2, hr3, by show _ = (s.2.2.2.2.2 ++ [_]).map Sl.l ++ _; rw [hs7, Jav hs1 (by omega), Jx8 hf3 hc3, List.map_append, List.append_assoc, ← hy2x]; rfl, by simp; omega⟩, by simp; omega⟩
  refine Ck (Qb (Qc (Ny 1 ?_)))
  refine Wk 1 Za ?_
  exact Wd (QS.head ((s.1 + 1, y2, f2, (nth l.l s.1).t, s.2.2.2.2.1, s.2.2.2.2.2)) rfl rfl ⟨⟨by simp; omega, by simp; omega, ⟨_, hy2ok⟩, hy2x, hq2, hr3, by rw [hs7, Jav hs1 (by omega), Jyy hf3 hc3], by simp; omega⟩, by simp; omega⟩)
 refine Cv (Qe (Qe (Qx (Qc (Cs ?_)))))
 refine CS.drawnTill 6 (k := 8) Jai rfl rfl ?_
 refine Tr 8 [0,1,2,3] ?_
 refine Tk 8 4 [5] rfl (Bc 0) ?_
 refine To 6 rfl ?_
 refine Wv 0 4 ?_
 refine Wd (Qt ?_)
 refine To 7 rfl ?_
 refine Wz 1 ?_
 refine Wd (Qt ?_)
 refine Te ?_
 refine Qc (Cr ?_)
 exact outR (J2i rfl rfl (Jam (j := 4) rfl rfl tk61) rfl) (by
   have hfr : Jb1 G.p (l.l.drop s.1.toNat) s.1 s.2.2.2.1 s.2.2.1 = .ok s.2.2.1 := by rw [List.drop_of_length_le (by omega), Jb1]
   rw [hfr] at hs6
   cases hs6
   have hv : Ja2 G.p l.l = (0, s.2.2.2.2.2.map Sl.l, s.2.2.1.x) := by unfold Ja2; rw [hV, if_pos rfl, hs7, List.drop_of_length_le (by omega), Jc7, List.append_nil]
   rw [hv]
   exact Jrv (V := (0, s.2.2.2.2.2.map Sl.l, s.2.2.1.x)) (acc := s.2.2.2.2.2) (y := s.2.1) rfl hs4 (fun S u h => ⟨⟨Star.osl (j := 3) rfl h, Star.ro (j := 2) rfl h⟩, Star.ro (j := 1) rfl h⟩))
theorem Jx4 {xs ys : List Entr} : decide (Jfh xs ys 0 < 0) = decide (xs = ys) := decide_eq_decide.2 (Jn7 xs ys 0 (Int.le_refl 0))
theorem Jz3 (G : Game) (w : World) (hG : GameOk w G) (hn : NearG G) (l : Sl Entr) (hk : SlT cEntry w l) :
  Calls Tryz.prog 26 #[.agg #[G.rm.pls.v, G.rm.ths.v, G.rm.prs.v, G.rm.wys.v, G.rm.acs.v, G.rm.aus.v, .int .i64 G.rm.ply, G.rm.gl.v, G.lks.v, G.cds.v, G.nts.v, .int .i64 G.tr], l.v] w (RetB w (.tuple #[.bool (Jet G.p l.l).2, .int .i64 (Jet G.p l.l).1])) := by
 have lls := hk.le
 refine enter Tryz.func26 rfl rfl (Nat.le_of_ble_eq_true rfl) ?_
 refine Nz 0 ?_
 refine Wb 2 rfl rfl (fun _ => rfl) (fun _ => rfl) fun b2 hb2 => ?_
 refine Wd (Qc (Nz 0 ?_))
 refine Wk 1 (Bb 0) ?_
 refine Wk 5 (Cb rfl rfl Jxl (fun u hu => Jel G u (hG.st hu) hn l (hk.st hu))) ?_
 refine Wd (Qc (Cs (Nz 2 ?_)))
 refine Wd (Qc (CS.cond rfl ?_ ?_))<;>intro hc1<;>try simp only [bq] at hc1
 ·
  refine Nz 3 ?_
  exact Wd (Qc (Cr (Qr (out2 rfl rfl rfl (Jab (by rw [Jnl hc1]))))))
 have hE : (Jaj G.p l.l).1 = 0 := hc1
 obtain ⟨hB, hL, F, hR, hV⟩ := Jeq hE
 refine Ck (Qc (Nz 1 ?_))
 refine Wd (Qc (Nz 1 ?_))
 refine Wd (Qc (Cs (Nz 1 ?_)))
 refine Wd (Qc (Ce ?_))
 refine CS.weak (fun _ hu => hu.osl0 (e := 77) (size := 4)) ?_
 refine CS.weak (fun _ hu => hu.osl0 (e := 73) (size := 7)) ?_
 refine CS.loopM (σ := Int × Value × Value) [23, 24, 25, 26, 27, 28, 29, 30, 31, 32, 33, 34, 35, 36, 37, 38, 39, 40, 41, 42, 43, 44, 45, 46, 47, 48, 49, 50, 51, 52, 53, 54, 55, 56, 57, 58, 59, 60, 61, 62, 63, 64, 65, 66, 67, 68, 69] (fun s => [(10, .int .i64 s.1), (8, s.2.1), (9, s.2.2)]) (fun s => [oT cEntry 73 s.2.2 (Jgk (l.l.take s.1.toNat)), oT cTimed 77 s.2.1 (Jay (l.l.take s.1.toNat)), blk b2 [G.rm.pls.v, G.rm.ths.v, G.rm.prs.v, G.rm.wys.v, G.rm.acs.v, G.rm.aus.v, .int .i64 G.rm.ply, G.rm.gl.v, G.lks.v, G.cds.v, G.nts.v, .int .i64 G.tr] 36]) (fun s => 0 ≤ s.1 ∧ s.1 ≤ l.l.length) (fun s => (l.l.length - s.1).toNat) (0, .slice none 0 0, .slice none 0 0) (fun _ _ => rfl) rfl rfl ⟨by simp, by simp⟩ ?_
 intro s t hs
 obtain ⟨hs1, hs2⟩ := hs
 have htl : (l.l.take s.1.toNat).length ≤ l.l.length := List.length_take_le' _ _
 have hmv := Jj4 (l := l.l.take s.1.toNat)
 have how := Jys (l := l.l.take s.1.toNat)
 refine Cs (Nz 2 ?_)
 refine Wk 1 Nc ?_
 refine Wd (Qc (CS.cond rfl ?_ ?_))<;>intro hc2<;>try simp only [bq] at hc2
 ·
  refine Ck (Qc (Cs (Ce (Cs (Nz 2 ?_)))))
  refine Wk 1 Xc ?_
  refine Wk 1 (Uc 7 1) ?_
  refine Wd (Qc (CS.cond rfl ?_ ?_))<;>intro hc3<;>try simp only [bq] at hc3
  ·
   refine CS.drawnTill 13 (k := 15) Jai rfl rfl ?_
   refine Tr 15 [0,1,2] ?_
   refine Tk 15 3 [4] rfl Xc ?_
   refine Tk 15 5 [6,7] rfl (Uc 7 0) ?_
   refine Tk 15 8 [9] rfl Xc ?_
   refine Tk 15 10 [] rfl (Jeb 7 2 3 rfl hk rfl ⟨by omega, by omega⟩ rfl rfl tk71) ?_
   refine Tk 15 11 [] rfl (Jas J01 zv77 (pcs := [(0, [.int .i64 (nth l.l s.1).t]), (1, [.int .i64 (nth l.l s.1).m.p, .int .i64 (nth l.l s.1).m.k, .int .i64 (nth l.l s.1).m.n])]) rfl (CellsOf.one rfl (CellsOf.agg CellsOf.nil)) rfl) ?_
   refine To 12 rfl ?_
   refine WS.buildT1 cTimed (a := (⟨(nth l.l s.1).t, (nth l.l s.1).m⟩ : Timed)) sl37 zv77 rfl (by decide) (fun _ => rfl) ?_; intro v47
   refine Wd (Qt ?_)
   refine To 13 rfl ?_
   refine WS.appendT1 (C := cTimed) (a := (⟨(nth l.l s.1).t, (nth l.l s.1).m⟩ : Timed)) (j := 2) (jz := 0) sl37 zv77 rfl (by decide) rfl rfl rfl rfl (w := w) trivial (by omega) (by omega) (fun _ => rfl) (fun _ => rfl) ?_; intro v48 hv48
   refine Wd (Qt ?_)
   refine To 14 rfl ?_
   refine Wz 1 ?_
   refine Wd (Qt ?_)
   refine Te ?_
   refine Qc (Nz 2 ?_)
   refine Wk 1 Xc ?_
   refine Wk 2 (Uc 7 1) ?_
   refine Wf 0 rfl rfl (fun hg => Fm) ?_
   refine Wf 0 rfl rfl (fun hg => Fm) ?_
   refine Wf 0 rfl rfl (fun hg => Xc (eg_ hg rfl)) ?_
   refine Wf 0 rfl rfl (fun hg => Ff) ?_
   refine Wf 0 rfl rfl (fun hg => Uc 7 1) ?_
   refine Wf 0 rfl rfl (fun hg => Fq) ?_
   refine Wk 0 Po ?_
   refine Wd (Qc (CS.cond rfl ?_ ?_))<;>intro hc4<;>try simp only [bq] at hc4
   ·
    have hk4 : (nth l.l s.1).k = 1 ∨ (nth l.l s.1).k = 5 := by have h9 := hc4; first | omega | (simp at h9; omega)
    refine Ny 3 ?_
    refine Wk 0 Xc ?_
    refine Wk 0 Ua ?_
    refine WS.buildT1 cEntry (a := (nth l.l s.1)) sl40 zv73 rfl (by decide) (fun _ => rfl) ?_; intro v68
    refine WS.appendT1 (C := cEntry) (a := (nth l.l s.1)) (j := 2) (jz := 0) sl40 zv73 rfl (by decide) rfl rfl rfl rfl (w := w) trivial (by omega) (by omega) (fun _ => rfl) (fun _ => rfl) ?_; intro v69 hv69
    refine Wz 1 ?_
    refine Wd (Qb (Qc (Ny 1 ?_)))
    refine Wk 1 Za ?_
    refine Wd ?_
    refine QS.sel [2, 2, 2] rfl ?_
    exact QS.head ((s.1 + 1, v48, v69)) rfl (by first | simp only [Jcm hs1 (by omega) hc3, Jc2 hs1 (by omega) hk4] | simp only [Jcm hs1 (by omega) hc3, Jd7 hs1 (by omega) hk4] | simp only [Jdo hs1 (by omega) hc3, Jc2 hs1 (by omega) hk4] | simp only [Jdo hs1 (by omega) hc3, Jd7 hs1 (by omega) hk4]) ⟨⟨by simp; omega, by simp; omega⟩, by simp; omega⟩
   have hk4 : ¬ ((nth l.l s.1).k = 1 ∨ (nth l.l s.1).k = 5) := by have h9 := hc4; first | omega | (simp at h9; omega)
   refine Ck (Qb (Qc (Ny 1 ?_)))
   refine Wk 1 Za ?_
   refine Wd ?_
   refine QS.sel [1, 1, 1] rfl ?_
   exact QS.head ((s.1 + 1, v48, s.2.2)) rfl (by first | simp only [Jcm hs1 (by omega) hc3, Jc2 hs1 (by omega) hk4] | simp only [Jcm hs1 (by omega) hc3, Jd7 hs1 (by omega) hk4] | simp only [Jdo hs1 (by omega) hc3, Jc2 hs1 (by omega) hk4] | simp only [Jdo hs1 (by omega) hc3, Jd7 hs1 (by omega) hk4]) ⟨⟨by simp; omega, by simp; omega⟩, by simp; omega⟩
  refine Ck (Qc (Nz 2 ?_))
  refine Wk 1 Xc ?_
  refine Wk 2 (Uc 7 1) ?_
  refine Wf 0 rfl rfl (fun hg => Fm) ?_
  refine Wf 0 rfl rfl (fun hg => Fm) ?_
  refine Wf 0 rfl rfl (fun hg => Xc (eg_ hg rfl)) ?_
  refine Wf 0 rfl rfl (fun hg => Ff) ?_
  refine Wf 0 rfl rfl (fun hg => Uc 7 1) ?_
  refine Wf 0 rfl rfl (fun hg => Fq) ?_
  refine Wk 0 Po ?_
  refine Wd (Qc (CS.cond rfl ?_ ?_))<;>intro hc4<;>try simp only [bq] at hc4
  ·
   have hk4 : (nth l.l s.1).k = 1 ∨ (nth l.l s.1).k = 5 := by have h9 := hc4; first | omega | (simp at h9; omega)
   refine Ny 3 ?_
   refine Wk 0 Xc ?_
   refine Wk 0 Ua ?_
   refine WS.buildT1 cEntry (a := (nth l.l s.1)) sl40 zv73 rfl (by decide) (fun _ => rfl) ?_; intro v68
   refine WS.appendT1 (C := cEntry) (a := (nth l.l s.1)) (j := 1) (jz := 0) sl40 zv73 rfl (by decide) rfl rfl rfl rfl (w := w) trivial (by omega) (by omega) (fun _ => rfl) (fun _ => rfl) ?_; intro v69 hv69
   refine Wz 1 ?_
   refine Wd (Qb (Qc (Ny 1 ?_)))
   refine Wk 1 Za ?_
   refine Wd ?_
   refine QS.sel [1, 1, 1] rfl ?_
   exact QS.head ((s.1 + 1, s.2.1, v69)) rfl (by first | simp only [Jcm hs1 (by omega) hc3, Jc2 hs1 (by omega) hk4] | simp only [Jcm hs1 (by omega) hc3, Jd7 hs1 (by omega) hk4] | simp only [Jdo hs1 (by omega) hc3, Jc2 hs1 (by omega) hk4] | simp only [Jdo hs1 (by omega) hc3, Jd7 hs1 (by omega) hk4]) ⟨⟨by simp; omega, by simp; omega⟩, by simp; omega⟩
  have hk4 : ¬ ((nth l.l s.1).k = 1 ∨ (nth l.l s.1).k = 5) := by have h9 := hc4; first | omega | (simp at h9; omega)
  refine Ck (Qb (Qc (Ny 1 ?_)))
  refine Wk 1 Za ?_
  exact Wd (QS.head ((s.1 + 1, s.2.1, s.2.2)) rfl (by first | simp only [Jcm hs1 (by omega) hc3, Jc2 hs1 (by omega) hk4] | simp only [Jcm hs1 (by omega) hc3, Jd7 hs1 (by omega) hk4] | simp only [Jdo hs1 (by omega) hc3, Jc2 hs1 (by omega) hk4] | simp only [Jdo hs1 (by omega) hc3, Jd7 hs1 (by omega) hk4]) ⟨⟨by simp; omega, by simp; omega⟩, by simp; omega⟩)
 have hta : l.l.take s.1.toNat = l.l := List.take_of_length_le (by omega)
 refine Cv (Qe (Qe (Qx (Qc (Nz 0 ?_)))))
 refine Wk 1 (Bb 2) ?_
 refine Wc rfl rfl J8w (fun u hu => Jo6 G u (hG.st hu) hn ⟨s.2.1, Jay (l.l.take s.1.toNat)⟩ ⟨Jbe hu (j := 1) rfl, fun _ _ ↦ trivial⟩ (by show (Jay (l.l.take s.1.toNat)).length ≤ 1000; omega)) (fun _ => rfl) ?_; rintro v57 ⟨u57, h57⟩
 refine Wz 7 ?_
 refine Wd (Qc (Nz 3 ?_))
 refine Wt 0 rfl rfl (fun hg => Fm) ?_
 refine Wt 0 rfl rfl (fun hg => Fm) ?_
 refine Wt 0 rfl rfl (fun hg => Cb rfl (ec_ (eg_ hg rfl) (ec_ (eg_ hg rfl) en_)) J75 (fun u hu => J28 ⟨s.2.2, Jgk (l.l.take s.1.toNat)⟩ ⟨v57, _⟩ u ⟨Jbe hu (j := 1) rfl, fun _ _ ↦ trivial⟩ (hu.ro (j := 0) rfl))) ?_
 refine Wt 0 rfl rfl (fun hg => Fl) ?_
 refine Wk 2 Pa ?_
 exact Wd (Qc (Cr (out2 rfl rfl rfl (Jab (by rw [Jhw (hc1 : (Jaj G.p l.l).1 = 0), hta, Jx4])))))
end Go.Proofs.YtohneogdekdboaaGreatDoor
