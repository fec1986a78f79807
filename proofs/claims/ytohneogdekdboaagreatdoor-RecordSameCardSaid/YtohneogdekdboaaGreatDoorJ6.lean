/- Contracts of functions, printed by a program of the prover (gen.py). -/
import Derived.Test.YtohneogdekdboaaGreatDoorXe
import Derived.Test.YtohneogdekdboaaGreatDoorZp
import Derived.Test.YtohneogdekdboaaGreatDoorY0
import Derived.Test.YtohneogdekdboaaGreatDoorY2
import Derived.Test.YtohneogdekdboaaGreatDoorY3
import Derived.Test.YtohneogdekdboaaGreatDoorY4
import Derived.Test.YtohneogdekdboaaGreatDoorY5
import Derived.Test.YtohneogdekdboaaGreatDoorY7
import Derived.Test.YtohneogdekdboaaGreatDoorY12
import Derived.Test.YtohneogdekdboaaGreatDoorY14
import Derived.Test.YtohneogdekdboaaGreatDoorY17
set_option maxHeartbeats 8000000
namespace Go.Proofs.YtohneogdekdboaaGreatDoor
open Go.RowKit Go.Proofs
set_option maxRecDepth 100000
set_option linter.unusedVariables false
set_option linter.unusedSimpArgs false
def othB (l : List Entr) : Bool := l.any fun x => decide (x.k = 2) || (decide (x.k = 3) || decide (x.k = 4))
theorem Js6 {l : List Entr} {i : Int} (h0 : 0 ≤ i) (h1 : i < l.length) : othB (l.take (i + 1).toNat) = (othB (l.take i.toNat) || (decide ((nth l i).k = 2) || (decide ((nth l i).k = 3) || decide ((nth l i).k = 4)))) := by
 rw [Jc4 h0 h1]; unfold othB; rw [List.any_append]; simp
theorem faith_err {G : GP} {l : List Entr} : (Jet G l).1 = (Jaj G l).1 := by
 by_cases h : (Jaj G l).1 = 0
 ·
  rw [Jhw h, h]
 rw [Jnl h]
theorem J11 {G : GP} {l : List Entr} (hE : (Jaj G l).1 = 0) (hF : (Jet G l).2 = true) : (Jaa G (Jay l)).1 = 0 ∧ (othB l = false → (Jaa G (Jay l)).2.2 = l) := by
 rw [Jhw hE] at hF
 simp at hF
 refine ⟨hF.1, fun ho => ?_⟩
 obtain ⟨_, _, f, hr, _⟩ := Jeq hE
 rw [← hF.2]
 refine Jvk (Jl1 l 0 0 _ _ hr) fun e he hk => ?_
 unfold othB at ho
 rw [List.any_eq_false] at ho
 have := ho e he
 simp at this
 omega
theorem Jru {G : Game} {l : List Entr} (h0 : (Jaj G.p l).1 = 0) (h : (Jb3 G.p l).1 = 0) : 0 ≤ (Jb3 G.p l).2.1 ∧ (((l.length : Int) = 0 ∧ (Jb3 G.p l).2.1 = 0) ∨ (0 < (l.length : Int) ∧ (Jb3 G.p l).2.1 ≤ (nth l ((l.length : Int) - 1)).t)) := by
 have hn : ¬ (Jaj G.p l).2.2.en < 0 := fun q => by rw [Jgz h0 q] at h; cases h
 obtain ⟨h1, h2, h3, _⟩ := Jte h0 hn
 rw [Jgp h0 hn]
 refine ⟨h1, ?_⟩
 by_cases he : l = []
 ·
  exact .inl ⟨by rw [he]; rfl, h2 he⟩
 have := List.length_pos_iff.2 he
 exact .inr ⟨by omega, h3 he⟩
theorem Jpe (G : Game) (w : World) (hG : GameOk w G) (g : Sl ByteArray) (hW : GOk w g) (l : Sl Entr) (hk : SlT cEntry w l) :
  Calls Tryz.prog 8 #[.agg #[G.rm.pls.v, G.rm.ths.v, G.rm.prs.v, G.rm.wys.v, G.rm.acs.v, G.rm.aus.v, .int .i64 G.rm.ply, G.rm.gl.v, G.lks.v, G.cds.v, G.nts.v, .int .i64 G.tr], l.v] w (RetB w (.bool true)) := by
 have lls := hk.le
 refine enter Tryz.func8 rfl rfl (Nat.le_of_ble_eq_true rfl) ?_
 refine Nz 0 ?_
 refine Wb 1 rfl rfl (fun _ => rfl) (fun _ => rfl) fun b2 hb2 => ?_
 refine Wd (Qc (Cs (Nz 0 ?_)))
 refine Wk 0 (Bb 0) ?_
 refine Wk 1 (Cb rfl rfl ent9 (fun u hu => Jmd G u (hG.st hu))) ?_
 refine Wf 0 rfl rfl (fun hg => Fm) ?_
 refine Wf 0 rfl rfl (fun hg => Nc (eg_ hg rfl)) ?_
 refine Wf 0 rfl rfl (fun hg => Fg) ?_
 refine Wk 0 Po ?_
 refine Wd (Qc (CS.cond rfl ?_ ?_))<;>intro hc1<;>try simp only [bq] at hc1
 ·
  refine Nz 0 ?_
  refine Wk 1 (Cb rfl rfl Jft (fun u hu => Jbu u g (hW.st hu))) ?_
  exact Wd (Qc (Cr (Qr (out1 rfl rfl retB))))
 have hn : NearG G := Jb6.1 hc1.1
 refine Ck (Qc (Nz 0 ?_))
 refine Wk 0 (Bb 0) ?_
 refine Wc rfl rfl Jnh (fun u hu => Jfs G u (hG.st hu) hn) (fun _ => rfl) ?_; rintro c ⟨hcp, uc, hcok⟩
 have hnc := Jhi hcp hn
 have o1 := Sl.one hcok.rm.pls
 have o2 := Sl.one hcok.rm.ths
 have o3 := Sl.one hcok.rm.prs
 have o4 := Sl.one hcok.rm.wys
 have o5 := Sl.one hcok.rm.acs
 have o6 := Sl.one hcok.rm.aus
 have o7 := Sl.one hcok.rm.gl
 have o8 := Sl.one hcok.lks
 have o9 := Sl.one hcok.cds
 have o10 := Sl.one hcok.nts
 refine Wl 0 zv36 (fun _ => rfl) (fun _ => rfl) fun b5 hb5 => ?_
 refine Wv 0 0 ?_
 refine Wd (Qc (Cs ?_))
 refine CS.drawnAll (k := 9) Jai rfl rfl ?_
 refine Ak 0 [1] rfl (Bb 0) ?_
 refine Ao 2 rfl ?_
 refine Wc rfl rfl Jhe (fun u hu => Jbs l u (hk.st hu) (by omega)) (fun _ => rfl) ?_; rintro v39 ⟨u39, h39⟩
 refine Wd (Qa ?_)
 refine Ao 3 rfl ?_
 refine Wk 0 (Cb rfl rfl J41 (fun u hu => (by have q := Jmz c u (hu.ro (j := 2) rfl) hnc g (hW.st hu) ⟨v39, l.l⟩ (hu.ro (j := 0) rfl); rw [hcp] at q; exact q))) ?_
 refine Wd (Qa ?_)
 refine Ar [4,5,6,7,8] ?_
 refine Ae ?_
 refine Qc (Cs (Nz 2 ?_))
 refine Wd (Qc (CS.cond rfl ?_ ?_))<;>intro hc2<;>try simp only [bq] at hc2
 ·
  refine Nz 0 ?_
  refine Wk 1 (Cb rfl rfl Jft (fun u hu => Jbu u g (hW.st hu))) ?_
  exact Wd (Qc (Cr (Qr (out1 rfl rfl (Jab rfl)))))
 have hE : (Jaj G.p l.l).1 = 0 := faith_err.symm.trans hc2
 obtain ⟨hB, hL, F, hR, hV⟩ := Jeq hE
 refine Ck (Qc (Nz 1 ?_))
 refine Wd (Qc (Nz 1 ?_))
 refine Wd (Qc (Nz 1 ?_))
 refine Wd (Qc (Cs (Nz 1 ?_)))
 refine Wd (Qc (Ce ?_))
 refine CS.weak (fun _ hu => hu.osl0 (e := 77) (size := 4)) ?_
 refine CS.weak (fun _ hu => hu.osl0 (e := 71) (size := 3)) ?_
 refine CS.sel [0, 0, 1, 1, 1] rfl ?_
 refine CS.loopM (σ := Int × Value × Value × Bool) [46, 47, 48, 49, 50, 51, 52, 53, 54, 55, 56, 57, 58, 59, 60, 61, 62, 63, 64, 65, 66, 67, 68, 69, 70, 71, 72, 73, 74, 75, 76, 77, 78, 79, 80, 81, 82, 83, 84, 85, 86, 87, 88, 89, 90, 91, 92, 93, 94, 95, 96, 97, 98, 99, 100, 101, 102, 103, 104] (fun s => [(11, .int .i64 s.1), (8, s.2.1), (9, s.2.2.1), (10, .bool s.2.2.2)]) (fun s => [oT cMove 71 s.2.2.1 ((Jay (l.l.take s.1.toNat)).map Timed.m), oT cTimed 77 s.2.1 (Jay (l.l.take s.1.toNat)), blk b5 [c.rm.pls.v, c.rm.ths.v, c.rm.prs.v, c.rm.wys.v, c.rm.acs.v, c.rm.aus.v, .int .i64 c.rm.ply, c.rm.gl.v, c.lks.v, c.cds.v, c.nts.v, .int .i64 c.tr] 36, roS fun u => GameOk u c, blk b2 [G.rm.pls.v, G.rm.ths.v, G.rm.prs.v, G.rm.wys.v, G.rm.acs.v, G.rm.aus.v, .int .i64 G.rm.ply, G.rm.gl.v, G.lks.v, G.cds.v, G.nts.v, .int .i64 G.tr] 36]) (fun s => 0 ≤ s.1 ∧ s.1 ≤ l.l.length ∧ s.2.2.2 = othB (l.l.take s.1.toNat)) (fun s => (l.l.length - s.1).toNat) (0, .slice none 0 0, .slice none 0 0, false) (fun _ _ => rfl) rfl rfl ⟨by simp, by simp, rfl⟩ ?_
 intro s t hs
 obtain ⟨hs1, hs2, hs3⟩ := hs
 have hpl : (((Jay (l.l.take s.1.toNat)).map Timed.m)).length = (Jay (l.l.take s.1.toNat)).length := List.length_map _
 have htl : (l.l.take s.1.toNat).length ≤ l.l.length := List.length_take_le' _ _
 have hmv := Jj4 (l := l.l.take s.1.toNat)
 have how := Jys (l := l.l.take s.1.toNat)
 refine Cs (Nz 2 ?_)
 refine Wk 1 Nc ?_
 refine Wd (Qc (CS.cond rfl ?_ ?_))<;>intro hc3<;>try simp only [bq] at hc3
 ·
  refine Ck (Qc (Cs (Ce (Cs (Nz 2 ?_)))))
  refine Wk 1 Xc ?_
  refine Wk 1 (Uc 7 1) ?_
  refine Wd (Qc (CS.cond rfl ?_ ?_))<;>intro hc4<;>try simp only [bq] at hc4
  ·
   have hk1 : (nth l.l s.1).k = 1 := hc4
   refine Cs ?_
   refine CS.drawnTill 13 (k := 15) Jai rfl rfl ?_
   refine Tr 15 [0,1,2] ?_
   refine Tk 15 3 [4] rfl Xc ?_
   refine Tk 15 5 [6,7] rfl (Uc 7 0) ?_
   refine Tk 15 8 [9] rfl Xc ?_
   refine Tk 15 10 [] rfl (Jeb 7 2 3 rfl hk rfl ⟨by omega, by omega⟩ rfl rfl tk71) ?_
   refine Tk 15 11 [] rfl (Jas J01 zv77 (pcs := [(0, [.int .i64 (nth l.l s.1).t]), (1, [.int .i64 (nth l.l s.1).m.p, .int .i64 (nth l.l s.1).m.k, .int .i64 (nth l.l s.1).m.n])]) rfl (CellsOf.one rfl (CellsOf.agg CellsOf.nil)) rfl) ?_
   refine To 12 rfl ?_
   refine WS.buildT1 cTimed (a := (⟨(nth l.l s.1).t, (nth l.l s.1).m⟩ : Timed)) sl37 zv77 rfl (by decide) (fun _ => rfl) ?_; intro v70
   refine Wd (Qt ?_)
   refine To 13 rfl ?_
   refine WS.appendT1 (C := cTimed) (a := (⟨(nth l.l s.1).t, (nth l.l s.1).m⟩ : Timed)) (j := 2) (jz := 0) sl37 zv77 rfl (by decide) rfl rfl rfl rfl (w := w) trivial (by omega) (by omega) (fun _ => rfl) (fun _ => rfl) ?_; intro v71 hv71
   refine Wd (Qt ?_)
   refine To 14 rfl ?_
   refine Wz 1 ?_
   refine Wd (Qt ?_)
   refine Te ?_
   refine Qc (Ny 3 ?_)
   refine Wk 1 Xc ?_
   refine Wk 0 (Jeb 7 2 3 rfl hk rfl ⟨by omega, by omega⟩ rfl rfl tk71) ?_
   refine WS.buildT1 cMove (a := (nth l.l s.1).m) sl75 zv71 rfl (by decide) (fun _ => rfl) ?_; intro v78
   refine WS.appendT1 (C := cMove) (a := (nth l.l s.1).m) (j := 2) (jz := 0) sl75 zv71 rfl (by decide) rfl rfl rfl rfl (w := w) trivial (by omega) (by omega) (fun _ => rfl) (fun _ => rfl) ?_; intro v79 hv79
   refine Wz 1 ?_
   refine Wd (Qc (Ny 2 ?_))
   refine Wf 0 rfl rfl (fun hg => Fm) ?_
   refine Wf 0 rfl rfl (fun hg => Fm) ?_
   refine Wf 0 rfl rfl (fun hg => Xc (eg_ hg rfl)) ?_
   refine Wf 0 rfl rfl (fun hg => Ff) ?_
   refine Wf 0 rfl rfl (fun hg => Uc 7 1) ?_
   refine Wf 0 rfl rfl (fun hg => Fq) ?_
   refine Wk 1 Po ?_
   refine Wf 0 rfl rfl (fun hg => Fm) ?_
   refine Wf 0 rfl rfl (fun hg => Fm) ?_
   refine Wf 0 rfl rfl (fun hg => Xc (eg_ hg rfl)) ?_
   refine Wf 0 rfl rfl (fun hg => Ff) ?_
   refine Wf 0 rfl rfl (fun hg => Uc 7 1) ?_
   refine Wf 0 rfl rfl (fun hg => Fq) ?_
   refine Wk 1 Po ?_
   refine Wf 0 rfl rfl (fun hg => Fm) ?_
   refine Wf 0 rfl rfl (fun hg => Fm) ?_
   refine Wf 0 rfl rfl (fun hg => Xc (eg_ hg rfl)) ?_
   refine Wf 0 rfl rfl (fun hg => Ff) ?_
   refine Wf 0 rfl rfl (fun hg => Uc 7 1) ?_
   refine Wf 0 rfl rfl (fun hg => Fq) ?_
   refine Wk 1 Po ?_
   refine Wd (Qb (Qc (Ny 1 ?_)))
   refine Wk 1 Za ?_
   refine Wd ?_
   refine QS.sel [2, 2, 2, 2, 2] rfl ?_
   exact QS.head ((s.1 + 1, v71, v79, ((s.2.2.2 || decide ((nth l.l s.1).k = 2)) || decide ((nth l.l s.1).k = 3)) || decide ((nth l.l s.1).k = 4))) rfl (by first | simp only [Jcm hs1 (by omega) hk1, List.map_append, List.map_cons, List.map_nil] | simp only [Jdo hs1 (by omega) hk1]) ⟨⟨by simp; omega, by simp; omega, by show (((s.2.2.2 || decide ((nth l.l s.1).k = 2)) || decide ((nth l.l s.1).k = 3)) || decide ((nth l.l s.1).k = 4)) = _; rw [Js6 hs1 (by omega), hs3, Bool.or_assoc, Bool.or_assoc]⟩, by simp; omega⟩
  have hk1 : ¬ (nth l.l s.1).k = 1 := hc4
  refine Ck (Qc (Ny 2 ?_))
  refine Wf 0 rfl rfl (fun hg => Fm) ?_
  refine Wf 0 rfl rfl (fun hg => Fm) ?_
  refine Wf 0 rfl rfl (fun hg => Xc (eg_ hg rfl)) ?_
  refine Wf 0 rfl rfl (fun hg => Ff) ?_
  refine Wf 0 rfl rfl (fun hg => Uc 7 1) ?_
  refine Wf 0 rfl rfl (fun hg => Fq) ?_
  refine Wk 1 Po ?_
  refine Wf 0 rfl rfl (fun hg => Fm) ?_
  refine Wf 0 rfl rfl (fun hg => Fm) ?_
  refine Wf 0 rfl rfl (fun hg => Xc (eg_ hg rfl)) ?_
  refine Wf 0 rfl rfl (fun hg => Ff) ?_
  refine Wf 0 rfl rfl (fun hg => Uc 7 1) ?_
  refine Wf 0 rfl rfl (fun hg => Fq) ?_
  refine Wk 1 Po ?_
  refine Wf 0 rfl rfl (fun hg => Fm) ?_
  refine Wf 0 rfl rfl (fun hg => Fm) ?_
  refine Wf 0 rfl rfl (fun hg => Xc (eg_ hg rfl)) ?_
  refine Wf 0 rfl rfl (fun hg => Ff) ?_
  refine Wf 0 rfl rfl (fun hg => Uc 7 1) ?_
  refine Wf 0 rfl rfl (fun hg => Fq) ?_
  refine Wk 1 Po ?_
  refine Wd (Qb (Qc (Ny 1 ?_)))
  refine Wk 1 Za ?_
  exact Wd (QS.head ((s.1 + 1, s.2.1, s.2.2.1, ((s.2.2.2 || decide ((nth l.l s.1).k = 2)) || decide ((nth l.l s.1).k = 3)) || decide ((nth l.l s.1).k = 4))) rfl (by first | simp only [Jcm hs1 (by omega) hk1, List.map_append, List.map_cons, List.map_nil] | simp only [Jdo hs1 (by omega) hk1]) ⟨⟨by simp; omega, by simp; omega, by show (((s.2.2.2 || decide ((nth l.l s.1).k = 2)) || decide ((nth l.l s.1).k = 3)) || decide ((nth l.l s.1).k = 4)) = _; rw [Js6 hs1 (by omega), hs3, Bool.or_assoc, Bool.or_assoc]⟩, by simp; omega⟩)
 have hta : l.l.take s.1.toNat = l.l := List.take_of_length_le (by omega)
 rw [hta] at hs3
 have hrun := Juh hE (by omega)
 refine Cv (Qe (Qe (Qx (Qc (Nz 0 ?_)))))
 refine Wk 1 (Bb 2) ?_
 refine Wc rfl rfl Jw8 (fun u hu => (by have q := Jgl c u (hu.ro (j := 3) rfl) hnc g (hW.st hu) ⟨s.2.1, Jay (l.l.take s.1.toNat)⟩ ⟨Jbe hu (j := 1) rfl, fun _ _ ↦ trivial⟩ (by show (Jay (l.l.take s.1.toNat)).length ≤ 1000; omega); rw [hcp] at q; exact q)) (fun _ => rfl) ?_; rintro v108 ⟨u108, h108⟩
 rw [hta] at h108 ⊢
 refine Wz 7 ?_
 refine Wd (Qc (Cs (Nz 2 ?_)))
 refine Wt 0 rfl rfl (fun hg => Fm) ?_
 refine Wt 0 rfl rfl (fun hg => Fr) ?_
 refine Wt 0 rfl rfl (fun hg => Fm (eg_ hg rfl)) ?_
 refine Wn 0 rfl rfl rfl (fun hg => Fm) ?_
 refine Wn 0 rfl rfl rfl (fun hg => Fn) ?_
 refine Wn 0 rfl rfl rfl (fun hg => Fm (eg_ hg rfl)) ?_
 refine Wn 0 rfl rfl rfl (fun hg => Fm) ?_
 refine Wn 0 rfl rfl rfl (fun hg => Fm) ?_
 refine Wn 0 rfl rfl rfl (fun hg => Cb rfl (ec_ (eg_ hg rfl) (ec_ (eg_ hg rfl) en_)) J5q (fun u hu => Jx1 ⟨v108, (Jaa G.p (Jay l.l)).2.2⟩ l u (hu.ro (j := 0) rfl) (hk.st hu))) ?_
 refine Wn 0 rfl rfl rfl (fun hg => Fn) ?_
 refine Wn 0 rfl rfl rfl (fun hg => Ja3 (eg_ hg rfl) (Jc0 hg rfl) rfl) ?_
 refine Wt 0 rfl rfl (fun hg => Jdp (eg_ hg rfl) (Jh1 hg rfl) rfl) ?_
 refine Wk 0 Pa ?_
 refine Wd (Qc (CS.cond rfl ?_ ?_))<;>intro hc5<;>try simp only [bq] at hc5
 ·
  exfalso
  obtain ⟨z1, z2⟩ := hc5
  obtain ⟨r1, r2⟩ := J11 hE z1
  rcases z2 with z2 | ⟨z2, z3⟩
  ·
   exact z2 r1
  exact z3 (r2 (hs3 ▸ z2))
 refine Ck (Qc (Nz 0 ?_))
 refine Wk 0 (Bb 5) ?_
 refine Wc rfl rfl Juq (fun u hu => Jhc G u (hG.st hu) hn) (fun _ => rfl) ?_; rintro y ⟨hyx, uy, hyok⟩
 obtain ⟨hya, hyb, hyc⟩ := hyok.st.ones
 have hyd := Sl.one hyok.rd
 refine Wz 3 ?_
 refine Wl 0 zv61 (fun _ => rfl) (fun _ => rfl) fun b15 hb15 => ?_
 refine Wv 1 0 ?_
 refine Wd (Qc (Nz 0 ?_))
 refine Wk 0 (Bb 7) ?_
 refine Wk 1 (Bb 0) ?_
 refine Wc rfl rfl Kbk (fun u hu => (by have q := J8d G u (hG.st hu) hn y (hu.ro (j := 1) rfl) ⟨s.2.2.1, (Jay l.l).map Timed.m⟩ ⟨Jbe hu (j := 3) rfl, fun _ _ ↦ trivial⟩; rw [hyx, hrun] at q; exact q)) (fun _ => rfl) ?_; rintro x ⟨hxx, ux, hxok⟩
 obtain ⟨hxa, hxb, hxc⟩ := hxok.st.ones
 have hxd := Sl.one hxok.rd
 refine Wz 4 ?_
 refine Wl 0 zv61 (fun _ => rfl) (fun _ => rfl) fun b17 hb17 => ?_
 refine Wv 2 0 ?_
 refine Wd (Qc (Cs ?_))
 refine CS.drawnAll (k := 12) Jai rfl rfl ?_
 refine Ak 0 [1] rfl (Bb 7) ?_
 refine AS.two (i := 2) (j := 8) (by kernel_rfl) rfl rfl (by first | exact fun _ h => h | exact fun _ h => h.sub (by repeat first | exact List.Sublist.refl _ | apply List.Sublist.cons_cons | apply List.Sublist.cons)) rfl rfl ?_ ?_
 ·
  refine Wc rfl rfl Jhe (fun u hu => Jbs l u (hk.st hu) (by omega)) (fun _ => rfl) ?_; rintro v143 ⟨u143, h143⟩
  refine Wd (Qa ?_)
  refine AS.two (i := 3) (j := 8) (by kernel_rfl) rfl rfl (by first | exact fun _ h => h | exact fun _ h => h.sub (by repeat first | exact List.Sublist.refl _ | apply List.Sublist.cons_cons | apply List.Sublist.cons)) rfl rfl ?_ ?_
  ·
   refine Wc rfl rfl Jrz (fun u hu => (by have q := Jcu c u (hu.ro (j := 9) rfl) hnc g (hW.st hu) ⟨v143, l.l⟩ (hu.ro (j := 0) rfl); rw [hcp] at q; exact q)) (fun _ => rfl) ?_; rintro ⟨ra, p⟩ ⟨hra, hpx, up, hra1, hpok⟩
   dsimp only at hra hpx hra1 hpok
   obtain ⟨hpa, hpb, hpc⟩ := hpok.st.ones
   have hpd := Sl.one hpok.rd
   refine Wd (Qa ?_)
   refine Ar [4,5,6,7] ?_
   refine Ao 8 rfl ?_
   refine Wl 0 zv61 (fun _ => rfl) (fun _ => rfl) fun b21 hb21 => ?_
   refine Wd (Qa ?_)
   refine Ar [9] ?_
   refine Ao 10 rfl ?_
   refine Wv 0 0 ?_
   refine Wd (Qa ?_)
   refine Ar [11] ?_
   refine Ae ?_
   refine Qc (Cs (Nz 3 ?_))
   refine Wf 0 rfl rfl (fun hg => Fm) ?_
   refine Wf 0 rfl rfl (fun hg => Fr) ?_
   refine Wk 1 Po ?_
   refine Wf 0 rfl rfl (fun hg => Fm) ?_
   refine Wf 0 rfl rfl (fun hg => Fr) ?_
   refine Wk 1 Po ?_
   refine Wf 0 rfl rfl (fun hg => Bb 0) ?_
   refine Wf 0 rfl rfl (fun hg => Bb 3) ?_
   refine Wf 0 rfl rfl (fun hg => Cb rfl (ec_ (eg_ hg rfl) (ec_ (eg_ hg rfl) en_)) Jz2 (fun u hu => Jjz p x u (hu.ro (j := 1) rfl).2 (hu.ro (j := 4) rfl) (hpx.trans hxx.symm))) ?_
   refine Wf 0 rfl rfl (fun hg => Fn) ?_
   refine Wk 0 Po ?_
   refine Wd (Qc (CS.cond rfl ?_ ?_))<;>intro hc6<;>try simp only [bq] at hc6
   ·
    exfalso
    simp [hB, hrun, show (Ja2 G.p l.l).1 = 0 from by rw [show Ja2 G.p l.l = (0, Jc7 G.p l.l (Jax G.p), (Jaj G.p l.l).2.2.x) from if_pos hE]] at hc6
   refine Ck (Qc (Cs ?_))
   refine CS.drawnAll (k := 11) Jai rfl rfl ?_
   refine Ak 0 [1] rfl (Bb 10) ?_
   refine Ao 2 rfl ?_
   refine Wc rfl rfl Jhe (fun u hu => Jbs l u (hk.st hu) (by omega)) (fun _ => rfl) ?_; rintro v167 ⟨u167, h167⟩
   refine Wd (Qa ?_)
   refine Ao 3 rfl ?_
   refine Wk 0 (Cb rfl rfl J05 (fun u hu => (by have q := Jg8 c u (hu.ro (j := 12) rfl) hnc g (hW.st hu) ⟨v167, l.l⟩ (hu.ro (j := 0) rfl); rw [hcp] at q; exact q))) ?_
   refine Wd (Qa ?_)
   refine Ar [4,5,6,7,8,9,10] ?_
   refine Ae ?_
   refine Qc (Nz 3 ?_)
   refine Wf 0 rfl rfl (fun hg => Fm) ?_
   refine Wf 0 rfl rfl (fun hg => Fh) ?_
   refine Wf 0 rfl rfl (fun hg => Fm (eg_ hg rfl)) ?_
   refine Wn 0 rfl rfl rfl (fun hg => Fm) ?_
   refine Wn 0 rfl rfl rfl (fun hg => Nc (eg_ hg rfl)) ?_
   refine Wn 0 rfl rfl rfl (fun hg => Fq) ?_
   refine Wn 0 rfl rfl rfl (fun hg => Fm (eg_ hg rfl)) ?_
   refine Wn 0 rfl rfl rfl (fun hg => Fm) ?_
   refine Wn 0 rfl rfl rfl (fun hg => Fq) ?_
   refine Wn 0 rfl rfl rfl (fun hg => Ja3 (eg_ hg rfl) (Jc0 hg rfl) rfl) ?_
   refine Wn 0 rfl rfl rfl (fun hg => Fm (eg_ hg rfl)) ?_
   refine Wn 0 rfl rfl rfl (fun hg => Fm) ?_
   refine Wn 0 rfl rfl rfl (fun hg => Nc (eg_ hg rfl)) ?_
   refine Wn 0 rfl rfl rfl (fun hg => Fg) ?_
   refine Wn 0 rfl rfl rfl (fun hg => Fm (eg_ hg rfl)) ?_
   refine Wn 0 rfl rfl rfl (fun hg => Fm) ?_
   refine Wn 0 rfl rfl rfl (fun hg => Fm) ?_
   refine Wn 0 rfl rfl rfl (fun hg => Fm) ?_
   refine Wn 0 rfl rfl rfl (fun hg => Nc (eg_ hg rfl)) ?_
   refine Wn 0 rfl rfl rfl (fun hg => Zb) ?_
   refine Wn 0 rfl rfl rfl (fun hg => Xc (eg_ hg rfl)) ?_
   refine Wn 0 rfl rfl rfl (fun hg => Ff) ?_
   refine Wn 0 rfl rfl rfl (fun hg => Uc 7 0) ?_
   refine Wn 0 rfl rfl rfl (fun hg => Fk) ?_
   refine Wn 0 rfl rfl rfl (fun hg => Ja3 (eg_ hg rfl) (Jc0 hg rfl) rfl) ?_
   refine Wn 0 rfl rfl rfl (fun hg => Jdp (eg_ hg rfl) (Jh1 hg rfl) rfl) ?_
   refine Wf 0 rfl rfl (fun hg => Ja3 (eg_ hg rfl) (Jc0 hg rfl) rfl) ?_
   refine Wk 1 Po ?_
   refine Wt 0 rfl rfl (fun hg => Cb rfl rfl Jft (fun u hu => Jbu u g (hW.st hu))) ?_
   refine Wk 1 Pa ?_
   refine Wd (Qc (Cr ?_))
   exact out1 rfl rfl (Jab (by
      by_cases hT : (Jb3 G.p l.l).1 = 0
      ·
       have h9 := Jru hE hT
       have h8 := List.length_eq_zero_iff (l := l.l)
       simp [hT]; grind
      simp [hT]))
  refine Wl 0 zv61 (fun _ => rfl) (fun _ => rfl) fun b21 hb21 => ?_
  refine Wd (Qa ?_)
  refine Ao 3 rfl ?_
  refine Wc rfl rfl Jrz (fun u hu => (by have q := Jcu c u (hu.ro (j := 10) rfl) hnc g (hW.st hu) ⟨v143, l.l⟩ (hu.ro (j := 1) rfl); rw [hcp] at q; exact q)) (fun _ => rfl) ?_; rintro ⟨ra, p⟩ ⟨hra, hpx, up, hra1, hpok⟩
  dsimp only at hra hpx hra1 hpok
  obtain ⟨hpa, hpb, hpc⟩ := hpok.st.ones
  have hpd := Sl.one hpok.rd
  refine Wd (Qa ?_)
  refine Ar [4,5,6,7,9] ?_
  refine Ao 10 rfl ?_
  refine Wv 0 1 ?_
  refine Wd (Qa ?_)
  refine Ar [11] ?_
  refine Ae ?_
  refine Qc (Cs (Nz 3 ?_))
  refine Wf 0 rfl rfl (fun hg => Fm) ?_
  refine Wf 0 rfl rfl (fun hg => Fr) ?_
  refine Wk 1 Po ?_
  refine Wf 0 rfl rfl (fun hg => Fm) ?_
  refine Wf 0 rfl rfl (fun hg => Fr) ?_
  refine Wk 1 Po ?_
  refine Wf 0 rfl rfl (fun hg => Bb 1) ?_
  refine Wf 0 rfl rfl (fun hg => Bb 3) ?_
  refine Wf 0 rfl rfl (fun hg => Cb rfl (ec_ (eg_ hg rfl) (ec_ (eg_ hg rfl) en_)) Jz2 (fun u hu => Jjz p x u (hu.ro (j := 0) rfl).2 (hu.ro (j := 4) rfl) (hpx.trans hxx.symm))) ?_
  refine Wf 0 rfl rfl (fun hg => Fn) ?_
  refine Wk 0 Po ?_
  refine Wd (Qc (CS.cond rfl ?_ ?_))<;>intro hc6<;>try simp only [bq] at hc6
  ·
   exfalso
   simp [hB, hrun, show (Ja2 G.p l.l).1 = 0 from by rw [show Ja2 G.p l.l = (0, Jc7 G.p l.l (Jax G.p), (Jaj G.p l.l).2.2.x) from if_pos hE]] at hc6
  refine Ck (Qc (Cs ?_))
  refine CS.drawnAll (k := 11) Jai rfl rfl ?_
  refine Ak 0 [1] rfl (Bb 10) ?_
  refine Ao 2 rfl ?_
  refine Wc rfl rfl Jhe (fun u hu => Jbs l u (hk.st hu) (by omega)) (fun _ => rfl) ?_; rintro v167 ⟨u167, h167⟩
  refine Wd (Qa ?_)
  refine Ao 3 rfl ?_
  refine Wk 0 (Cb rfl rfl J05 (fun u hu => (by have q := Jg8 c u (hu.ro (j := 12) rfl) hnc g (hW.st hu) ⟨v167, l.l⟩ (hu.ro (j := 0) rfl); rw [hcp] at q; exact q))) ?_
  refine Wd (Qa ?_)
  refine Ar [4,5,6,7,8,9,10] ?_
  refine Ae ?_
  refine Qc (Nz 3 ?_)
  refine Wf 0 rfl rfl (fun hg => Fm) ?_
  refine Wf 0 rfl rfl (fun hg => Fh) ?_
  refine Wf 0 rfl rfl (fun hg => Fm (eg_ hg rfl)) ?_
  refine Wn 0 rfl rfl rfl (fun hg => Fm) ?_
  refine Wn 0 rfl rfl rfl (fun hg => Nc (eg_ hg rfl)) ?_
  refine Wn 0 rfl rfl rfl (fun hg => Fq) ?_
  refine Wn 0 rfl rfl rfl (fun hg => Fm (eg_ hg rfl)) ?_
  refine Wn 0 rfl rfl rfl (fun hg => Fm) ?_
  refine Wn 0 rfl rfl rfl (fun hg => Fq) ?_
  refine Wn 0 rfl rfl rfl (fun hg => Ja3 (eg_ hg rfl) (Jc0 hg rfl) rfl) ?_
  refine Wn 0 rfl rfl rfl (fun hg => Fm (eg_ hg rfl)) ?_
  refine Wn 0 rfl rfl rfl (fun hg => Fm) ?_
  refine Wn 0 rfl rfl rfl (fun hg => Nc (eg_ hg rfl)) ?_
  refine Wn 0 rfl rfl rfl (fun hg => Fg) ?_
  refine Wn 0 rfl rfl rfl (fun hg => Fm (eg_ hg rfl)) ?_
  refine Wn 0 rfl rfl rfl (fun hg => Fm) ?_
  refine Wn 0 rfl rfl rfl (fun hg => Fm) ?_
  refine Wn 0 rfl rfl rfl (fun hg => Fm) ?_
  refine Wn 0 rfl rfl rfl (fun hg => Nc (eg_ hg rfl)) ?_
  refine Wn 0 rfl rfl rfl (fun hg => Zb) ?_
  refine Wn 0 rfl rfl rfl (fun hg => Xc (eg_ hg rfl)) ?_
  refine Wn 0 rfl rfl rfl (fun hg => Ff) ?_
  refine Wn 0 rfl rfl rfl (fun hg => Uc 7 0) ?_
  refine Wn 0 rfl rfl rfl (fun hg => Fk) ?_
  refine Wn 0 rfl rfl rfl (fun hg => Ja3 (eg_ hg rfl) (Jc0 hg rfl) rfl) ?_
  refine Wn 0 rfl rfl rfl (fun hg => Jdp (eg_ hg rfl) (Jh1 hg rfl) rfl) ?_
  refine Wf 0 rfl rfl (fun hg => Ja3 (eg_ hg rfl) (Jc0 hg rfl) rfl) ?_
  refine Wk 1 Po ?_
  refine Wt 0 rfl rfl (fun hg => Cb rfl rfl Jft (fun u hu => Jbu u g (hW.st hu))) ?_
  refine Wk 1 Pa ?_
  refine Wd (Qc (Cr ?_))
  exact out1 rfl rfl (Jab (by
     by_cases hT : (Jb3 G.p l.l).1 = 0
     ·
      have h9 := Jru hE hT
      have h8 := List.length_eq_zero_iff (l := l.l)
      simp [hT]; grind
     simp [hT]))
 refine Wl 0 zv61 (fun _ => rfl) (fun _ => rfl) fun b21 hb21 => ?_
 refine Wd (Qa ?_)
 refine Ao 2 rfl ?_
 refine Wc rfl rfl Jhe (fun u hu => Jbs l u (hk.st hu) (by omega)) (fun _ => rfl) ?_; rintro v143 ⟨u143, h143⟩
 refine Wd (Qa ?_)
 refine Ao 3 rfl ?_
 refine Wc rfl rfl Jrz (fun u hu => (by have q := Jcu c u (hu.ro (j := 10) rfl) hnc g (hW.st hu) ⟨v143, l.l⟩ (hu.ro (j := 0) rfl); rw [hcp] at q; exact q)) (fun _ => rfl) ?_; rintro ⟨ra, p⟩ ⟨hra, hpx, up, hra1, hpok⟩
 dsimp only at hra hpx hra1 hpok
 obtain ⟨hpa, hpb, hpc⟩ := hpok.st.ones
 have hpd := Sl.one hpok.rd
 refine Wd (Qa ?_)
 refine Ar [4,5,6,7,9] ?_
 refine Ao 10 rfl ?_
 refine Wv 0 2 ?_
 refine Wd (Qa ?_)
 refine Ar [11] ?_
 refine Ae ?_
 refine Qc (Cs (Nz 3 ?_))
 refine Wf 0 rfl rfl (fun hg => Fm) ?_
 refine Wf 0 rfl rfl (fun hg => Fr) ?_
 refine Wk 1 Po ?_
 refine Wf 0 rfl rfl (fun hg => Fm) ?_
 refine Wf 0 rfl rfl (fun hg => Fr) ?_
 refine Wk 1 Po ?_
 refine Wf 0 rfl rfl (fun hg => Bb 2) ?_
 refine Wf 0 rfl rfl (fun hg => Bb 3) ?_
 refine Wf 0 rfl rfl (fun hg => Cb rfl (ec_ (eg_ hg rfl) (ec_ (eg_ hg rfl) en_)) Jz2 (fun u hu => Jjz p x u (hu.ro (j := 0) rfl).2 (hu.ro (j := 4) rfl) (hpx.trans hxx.symm))) ?_
 refine Wf 0 rfl rfl (fun hg => Fn) ?_
 refine Wk 0 Po ?_
 refine Wd (Qc (CS.cond rfl ?_ ?_))<;>intro hc6<;>try simp only [bq] at hc6
 ·
  exfalso
  simp [hB, hrun, show (Ja2 G.p l.l).1 = 0 from by rw [show Ja2 G.p l.l = (0, Jc7 G.p l.l (Jax G.p), (Jaj G.p l.l).2.2.x) from if_pos hE]] at hc6
 refine Ck (Qc (Cs ?_))
 refine CS.drawnAll (k := 11) Jai rfl rfl ?_
 refine Ak 0 [1] rfl (Bb 10) ?_
 refine Ao 2 rfl ?_
 refine Wc rfl rfl Jhe (fun u hu => Jbs l u (hk.st hu) (by omega)) (fun _ => rfl) ?_; rintro v167 ⟨u167, h167⟩
 refine Wd (Qa ?_)
 refine Ao 3 rfl ?_
 refine Wk 0 (Cb rfl rfl J05 (fun u hu => (by have q := Jg8 c u (hu.ro (j := 12) rfl) hnc g (hW.st hu) ⟨v167, l.l⟩ (hu.ro (j := 0) rfl); rw [hcp] at q; exact q))) ?_
 refine Wd (Qa ?_)
 refine Ar [4,5,6,7,8,9,10] ?_
 refine Ae ?_
 refine Qc (Nz 3 ?_)
 refine Wf 0 rfl rfl (fun hg => Fm) ?_
 refine Wf 0 rfl rfl (fun hg => Fh) ?_
 refine Wf 0 rfl rfl (fun hg => Fm (eg_ hg rfl)) ?_
 refine Wn 0 rfl rfl rfl (fun hg => Fm) ?_
 refine Wn 0 rfl rfl rfl (fun hg => Nc (eg_ hg rfl)) ?_
 refine Wn 0 rfl rfl rfl (fun hg => Fq) ?_
 refine Wn 0 rfl rfl rfl (fun hg => Fm (eg_ hg rfl)) ?_
 refine Wn 0 rfl rfl rfl (fun hg => Fm) ?_
 refine Wn 0 rfl rfl rfl (fun hg => Fq) ?_
 refine Wn 0 rfl rfl rfl (fun hg => Ja3 (eg_ hg rfl) (Jc0 hg rfl) rfl) ?_
 refine Wn 0 rfl rfl rfl (fun hg => Fm (eg_ hg rfl)) ?_
 refine Wn 0 rfl rfl rfl (fun hg => Fm) ?_
 refine Wn 0 rfl rfl rfl (fun hg => Nc (eg_ hg rfl)) ?_
 refine Wn 0 rfl rfl rfl (fun hg => Fg) ?_
 refine Wn 0 rfl rfl rfl (fun hg => Fm (eg_ hg rfl)) ?_
 refine Wn 0 rfl rfl rfl (fun hg => Fm) ?_
 refine Wn 0 rfl rfl rfl (fun hg => Fm) ?_
 refine Wn 0 rfl rfl rfl (fun hg => Fm) ?_
 refine Wn 0 rfl rfl rfl (fun hg => Nc (eg_ hg rfl)) ?_
 refine Wn 0 rfl rfl rfl (fun hg => Zb) ?_
 refine Wn 0 rfl rfl rfl (fun hg => Xc (eg_ hg rfl)) ?_
 refine Wn 0 rfl rfl rfl (fun hg => Ff) ?_
 refine Wn 0 rfl rfl rfl (fun hg => Uc 7 0) ?_
 refine Wn 0 rfl rfl rfl (fun hg => Fk) ?_
 refine Wn 0 rfl rfl rfl (fun hg => Ja3 (eg_ hg rfl) (Jc0 hg rfl) rfl) ?_
 refine Wn 0 rfl rfl rfl (fun hg => Jdp (eg_ hg rfl) (Jh1 hg rfl) rfl) ?_
 refine Wf 0 rfl rfl (fun hg => Ja3 (eg_ hg rfl) (Jc0 hg rfl) rfl) ?_
 refine Wk 1 Po ?_
 refine Wt 0 rfl rfl (fun hg => Cb rfl rfl Jft (fun u hu => Jbu u g (hW.st hu))) ?_
 refine Wk 1 Pa ?_
 refine Wd (Qc (Cr ?_))
 exact out1 rfl rfl (Jab (by
    by_cases hT : (Jb3 G.p l.l).1 = 0
    ·
     have h9 := Jru hE hT
     have h8 := List.length_eq_zero_iff (l := l.l)
     simp [hT]; grind
    simp [hT]))
end Go.Proofs.YtohneogdekdboaaGreatDoor
