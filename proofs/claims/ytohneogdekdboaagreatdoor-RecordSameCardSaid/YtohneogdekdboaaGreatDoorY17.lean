/- Merged texts of this proof (walks and plain laws), printed by a program of the prover. -/
import Derived.Test.YtohneogdekdboaaGreatDoorY0
import Derived.Test.YtohneogdekdboaaGreatDoorY2
import Derived.Test.YtohneogdekdboaaGreatDoorY3
import Derived.Test.YtohneogdekdboaaGreatDoorY4
import Derived.Test.YtohneogdekdboaaGreatDoorY5
import Derived.Test.YtohneogdekdboaaGreatDoorY7
import Derived.Test.YtohneogdekdboaaGreatDoorY12
import Derived.Test.YtohneogdekdboaaGreatDoorY14
import Derived.Test.YtohneogdekdboaaGreatDoorZb
import Derived.Test.YtohneogdekdboaaGreatDoorProg
import Derived.KernelRfl
import Derived.Test.YtohneogdekdboaaGreatDoorZc
import Derived.Test.YtohneogdekdboaaGreatDoorZn
import Derived.Test.YtohneogdekdboaaGreatDoorZk
import Derived.Test.YtohneogdekdboaaGreatDoorZo
import Derived.Test.YtohneogdekdboaaGreatDoorZp
import Derived.Test.YtohneogdekdboaaGreatDoorZg
import Derived.Test.YtohneogdekdboaaGreatDoorXa
namespace Go.Proofs.YtohneogdekdboaaGreatDoor
set_option linter.unusedVariables false
set_option linter.unusedSimpArgs false
open Go.RowKit
section
variable {P : Program} {n0 : Nat} {w0 : World} {L : List SA} {l : List Value} {fn : Func}
theorem Jpy {b t t2 t3 : Nat} {ty : TypeId} {v v2 v3 : Value} (h : fn.results = #[.cell t ty, .tmp t2, .tmp t3]) (h1 : Rv P n0 w0 L l b t ty v) (h2 : l[t2]? = some v2) (h3 : l[t3]? = some v3) : Res P fn l L n0 w0 (.tuple #[v, v2, v3]) := fun u hu => by
 obtain ⟨a1, a2⟩ := Jlz h1 hu
 simp only [results, h]
 simp [Sem.run_bind, Result.andThen, a1, a2, h2, h3]
end
end Go.Proofs.YtohneogdekdboaaGreatDoor
namespace Go.Proofs.YtohneogdekdboaaGreatDoor
open Go.Proofs
theorem Kbk : Ent Tryz.prog 31 := Jac Tryz.func31 (by kernel_rfl) rfl
end Go.Proofs.YtohneogdekdboaaGreatDoor
set_option maxHeartbeats 8000000
namespace Go.Proofs.YtohneogdekdboaaGreatDoor
open Go.RowKit Go.Proofs
set_option maxRecDepth 100000
set_option linter.unusedVariables false
set_option linter.unusedSimpArgs false
theorem Jxw (p : Pos) (w : World) (hp : PosOk w p) (hm : (p.st.ths.l.length ≤ 1000000 ∧ p.st.prs.l.length ≤ 1000000 ∧ p.st.pls.l.length ≤ 1000000) ∧ p.rd.l.length ≤ 1000000) :
  Calls Tryz.prog 59 #[.agg #[p.st.ths.v, p.st.prs.v, p.st.pls.v, p.rd.v]] w (RetP w p.x fun v => v) := by
 refine Calls.mono (Jme p w hp hm) ?_
 rintro e u ⟨⟨y, v⟩, ⟨⟨hyx, uy, hyok⟩, hv⟩, h⟩
 have h2 : RetF w (.agg #[y.ths.v, y.prs.v, y.pls.v, v]) (roS fun u => PosOk u ⟨y, ⟨v, p.rd.l⟩⟩) e u := h.toRo fun S u h => ⟨Star.ro (L := [roS fun u => SttOk u y, oT cBool 4 v p.rd.l]) (j := 0) rfl h.1, J4y (Star.osl (L := [roS fun u => SttOk u y, oT cBool 4 v p.rd.l]) (j := 1) rfl h.1)⟩
 exact ⟨⟨y, ⟨v, p.rd.l⟩⟩, ⟨by simp [Pos.x, hyx], u, h2.now⟩, h2⟩
def Jnk (G : GP) : List Move → Int → PX → Int × Int × PX
 | [], _, x => (0, 0, x)
 | m :: ms, i, x => if (Jaf G x m).1 = 0 then Jnk G ms (i + 1) (Jaf G x m).2 else ((Jaf G x m).1, i, noP)
def Jku (G : GP) (x : PX) (ms : List Move) : Int × Int × PX := if posG G x = 0 then if 500 < ms.length then (2, 0, noP) else Jnk G ms 0 x else (posG G x, 0, noP)
theorem J8d (G : Game) (w : World) (hG : GameOk w G) (hn : NearG G) (p : Pos) (hp : PosOk w p) (ms : Sl Move) (hk : SlT cMove w ms) :
  Calls Tryz.prog 31 #[.agg #[G.rm.pls.v, G.rm.ths.v, G.rm.prs.v, G.rm.wys.v, G.rm.acs.v, G.rm.aus.v, .int .i64 G.rm.ply, G.rm.gl.v, G.lks.v, G.cds.v, G.nts.v, .int .i64 G.tr], .agg #[p.st.ths.v, p.st.prs.v, p.st.pls.v, p.rd.v], ms.v] w (RetP w (Jku G.p p.x ms.l).2.2 fun v => .tuple #[v, .int .i64 (Jku G.p p.x ms.l).2.1, .int .i64 (Jku G.p p.x ms.l).1]) := by
 have lms := hk.le
 refine enter Tryz.func31 rfl rfl (Nat.le_of_ble_eq_true rfl) ?_
 refine Nz 0 ?_
 refine Wb 0 rfl rfl (fun _ => rfl) (fun _ => rfl) fun b3 hb3 => ?_
 refine Wb 0 rfl rfl (fun _ => rfl) (fun _ => rfl) fun b4 hb4 => ?_
 refine Wl 2 zv61 (fun _ => rfl) (fun _ => rfl) fun b6 hb6 => ?_
 refine Wd (Qc (Nz 0 ?_))
 refine Wk 0 (Bb 2) ?_
 refine Wk 0 (Bb 1) ?_
 refine Wk 1 (Cb rfl rfl J88 (fun u hu => J2k G u (hG.st hu) hn p (hp.toSt hu))) ?_
 refine Wd (Qc (Cs (Nz 2 ?_)))
 refine Wd (Qc (CS.cond rfl ?_ ?_))<;>intro hc1<;>try simp only [bq] at hc1
 ·
  have hS : ¬ posG G.p p.x = 0 := hc1
  refine Nz 0 ?_
  refine Wk 1 (Db Jd1 zv61) ?_
  refine Wv 2 0 ?_
  refine Wd (Qc (Cr (Qr ?_)))
  exact outR (Jpy rfl (Jam (j := 0) rfl rfl tk61) rfl rfl) (by
    have hv : Jku G.p p.x ms.l = (posG G.p p.x, 0, noP) := if_neg hS
    rw [hv]
    exact fun u hu => Jjn (f := fun v => .tuple #[v, .int .i64 (0), .int .i64 (posG G.p p.x)]) hu)
 have hS : posG G.p p.x = 0 := hc1
 have hP := Jed hS
 refine Ck (Qc (Cs (Nz 1 ?_)))
 refine Wk 1 Nc ?_
 refine Wd (Qc (CS.cond rfl ?_ ?_))<;>intro hc2<;>try simp only [bq] at hc2
 ·
  refine Nz 0 ?_
  refine Wk 0 (Db Jd1 zv61) ?_
  refine Wv 2 0 ?_
  refine Wd (Qc (Cr (Qr ?_)))
  exact outR (Jpy rfl (Jam (j := 0) rfl rfl tk61) rfl rfl) (by
    have hv : Jku G.p p.x ms.l = (2, 0, noP) := (if_pos hS).trans (if_pos (by omega))
    rw [hv]
    exact fun u hu => Jjn (f := fun v => .tuple #[v, .int .i64 (0), .int .i64 (2)]) hu)
 refine Ck (Qc (Nz 0 ?_))
 refine Wk 0 (Bb 1) ?_
 refine Wc rfl rfl J90 (fun u hu => Jxw p u (hp.toSt hu) hP.small) (fun _ => rfl) ?_; rintro y ⟨hyx, uy, hyok⟩
 obtain ⟨hya, hyb, hyc⟩ := hyok.st.ones
 have hyd := Sl.one hyok.rd
 refine Wl 0 zv61 (fun _ => rfl) (fun _ => rfl) fun b10 hb10 => ?_
 refine Wv 0 0 ?_
 refine Wd (Qc (Cs (Nz 1 ?_)))
 refine Wd (Qc (Ce ?_))
 refine CS.sel [1, 0, 0, 0, 0] rfl ?_
 refine CS.loopM (σ := Int × Pos) [7, 8, 12, 13, 27, 28, 29, 30, 31, 32, 33, 34, 35, 36, 37, 38, 39, 40, 41, 42, 43, 44, 45, 46, 47, 48] (fun s => [(11, .int .i64 s.1)]) (fun s => [roS fun u => PosOk u s.2, blk b10 [s.2.st.ths.v, s.2.st.prs.v, s.2.st.pls.v, s.2.rd.v] 61, blk b6 [.slice none 0 0, .slice none 0 0, .slice none 0 0, .slice none 0 0] 61, blk b4 [p.st.ths.v, p.st.prs.v, p.st.pls.v, p.rd.v] 61, blk b3 [G.rm.pls.v, G.rm.ths.v, G.rm.prs.v, G.rm.wys.v, G.rm.acs.v, G.rm.aus.v, .int .i64 G.rm.ply, G.rm.gl.v, G.lks.v, G.cds.v, G.nts.v, .int .i64 G.tr] 36]) (fun s => 0 ≤ s.1 ∧ s.1 ≤ ms.l.length ∧ (∃ u0, PosOk u0 s.2) ∧ Jku G.p p.x ms.l = Jnk G.p (ms.l.drop s.1.toNat) s.1 s.2.x) (fun s => (ms.l.length - s.1).toNat) (0, y) (fun _ _ => rfl) rfl rfl ⟨by simp, by simp, ⟨_, hyok⟩, by rw [hyx]; exact (if_pos hS).trans (if_neg (by omega))⟩ ?_
 intro s t hs
 obtain ⟨hs1, hs2, ⟨us, hsok⟩, hs4⟩ := hs
 obtain ⟨hsa, hsb, hsc⟩ := hsok.st.ones
 have hsd := Sl.one hsok.rd
 refine Cs (Nz 2 ?_)
 refine Wk 1 Nc ?_
 refine Wd (Qc (CS.cond rfl ?_ ?_))<;>intro hc3<;>try simp only [bq] at hc3
 ·
  refine Ck (Qc (Cs (Ce (Cs ?_))))
  refine CS.drawnAll (k := 13) Jai rfl rfl ?_
  refine Ak 0 [] rfl (Bb 4) ?_
  refine Ak 1 [2,3] rfl (Bb 1) ?_
  refine Ak 4 [] rfl Xc ?_
  refine Ak 5 [] rfl Ua ?_
  refine AS.two (i := 6) (j := 10) (by kernel_rfl) rfl rfl (by first | exact fun _ h => h | exact fun _ h => h.sub (by repeat first | exact List.Sublist.refl _ | apply List.Sublist.cons_cons | apply List.Sublist.cons)) rfl rfl ?_ ?_
  ·
   refine Wc rfl rfl Ju8 (fun u hu => Jjb G u (hG.st hu) hn s.2 (hu.ro (j := 0) rfl) (nth ms.l s.1)) (fun _ => rfl) ?_; rintro t2 ⟨ht2x, ut2, ht2ok⟩
   obtain ⟨ht2a, ht2b, ht2c⟩ := ht2ok.st.ones
   have ht2d := Sl.one ht2ok.rd
   refine Wd (Qa ?_)
   refine Ar [7,8,9] ?_
   refine Ao 10 rfl ?_
   refine Wl 0 zv61 (fun _ => rfl) (fun _ => rfl) fun b12 hb12 => ?_
   refine Wd (Qa ?_)
   refine Ao 11 rfl ?_
   refine Wv 0 0 ?_
   refine Wd (Qa ?_)
   refine Ar [12] ?_
   refine Ae ?_
   refine Qc (Cs (Nz 2 ?_))
   refine Wd (Qc (CS.cond rfl ?_ ?_))<;>intro hc4<;>try simp only [bq] at hc4
   ·
    have hE := hc4
    refine Nz 0 ?_
    refine Wk 2 (Db Jd1 zv61) ?_
    refine Wv 2 4 ?_
    refine Wd (Qc (Cr (Qr (Qs (Qr (Qr (Qs (Qr ?_))))))))
    exact outR (Jpy rfl (Jam (j := 4) rfl rfl tk61) rfl rfl) (by
      have hv : Jku G.p p.x ms.l = ((Jaf G.p s.2.x (nth ms.l s.1)).1, s.1, noP) := by rw [hs4, Jav hs1 (by omega), Jnk, if_neg hE]
      rw [hv]
      exact fun u hu => Jjn (f := fun v => .tuple #[v, .int .i64 (s.1), .int .i64 ((Jaf G.p s.2.x (nth ms.l s.1)).1)]) hu)
   have hE := hc4
   refine Ck (Qc (Ny 0 ?_))
   refine Wk 0 (Bb 0) ?_
   refine Wv 0 3 ?_
   refine Wd (Qb (Qc (Ny 1 ?_)))
   refine Wk 1 Za ?_
   refine Wd ?_
   refine QS.sel [1, 2, 2, 2, 2] rfl ?_
   skip
   exact QS.head ((s.1 + 1, t2)) rfl rfl ⟨⟨by simp; omega, by simp; omega, ⟨_, ht2ok⟩, by
       rw [hs4, Jav hs1 (by omega), Jnk, if_pos hE, ht2x]⟩, by simp; omega⟩
  refine Wl 0 zv61 (fun _ => rfl) (fun _ => rfl) fun b12 hb12 => ?_
  refine Wd (Qa ?_)
  refine Ao 6 rfl ?_
  refine Wc rfl rfl Ju8 (fun u hu => Jjb G u (hG.st hu) hn s.2 (hu.ro (j := 1) rfl) (nth ms.l s.1)) (fun _ => rfl) ?_; rintro t2 ⟨ht2x, ut2, ht2ok⟩
  obtain ⟨ht2a, ht2b, ht2c⟩ := ht2ok.st.ones
  have ht2d := Sl.one ht2ok.rd
  refine Wd (Qa ?_)
  refine Ar [7,8,9] ?_
  refine Ao 11 rfl ?_
  refine Wv 0 1 ?_
  refine Wd (Qa ?_)
  refine Ar [12] ?_
  refine Ae ?_
  refine Qc (Cs (Nz 2 ?_))
  refine Wd (Qc (CS.cond rfl ?_ ?_))<;>intro hc5<;>try simp only [bq] at hc5
  ·
   have hE := hc5
   refine Nz 0 ?_
   refine Wk 2 (Db Jd1 zv61) ?_
   refine Wv 2 4 ?_
   refine Wd (Qc (Cr (Qr (Qs (Qr (Qr (Qs (Qr ?_))))))))
   exact outR (Jpy rfl (Jam (j := 4) rfl rfl tk61) rfl rfl) (by
     have hv : Jku G.p p.x ms.l = ((Jaf G.p s.2.x (nth ms.l s.1)).1, s.1, noP) := by rw [hs4, Jav hs1 (by omega), Jnk, if_neg hE]
     rw [hv]
     exact fun u hu => Jjn (f := fun v => .tuple #[v, .int .i64 (s.1), .int .i64 ((Jaf G.p s.2.x (nth ms.l s.1)).1)]) hu)
  have hE := hc5
  refine Ck (Qc (Ny 0 ?_))
  refine Wk 0 (Bb 1) ?_
  refine Wv 0 3 ?_
  refine Wd (Qb (Qc (Ny 1 ?_)))
  refine Wk 1 Za ?_
  refine Wd ?_
  refine QS.sel [0, 2, 2, 2, 2] rfl ?_
  skip
  exact QS.head ((s.1 + 1, t2)) rfl rfl ⟨⟨by simp; omega, by simp; omega, ⟨_, ht2ok⟩, by
      rw [hs4, Jav hs1 (by omega), Jnk, if_pos hE, ht2x]⟩, by simp; omega⟩
 refine Cv (Qe (Qe (Qx (Qc (Nz 0 ?_)))))
 refine Wk 0 (Bb 1) ?_
 refine Wv 2 2 ?_
 refine Wd (Qc (Cr ?_))
 exact outR (Jpy rfl (Jam (j := 2) rfl rfl tk61) rfl rfl) (by
   have hv : Jku G.p p.x ms.l = (0, 0, s.2.x) := by rw [hs4, List.drop_of_length_le (by omega)]; rfl
   rw [hv]
   exact fun u hu => Jql (f := fun v => .tuple #[v, .int .i64 0, .int .i64 0]) (j := 0) rfl rfl hu)
theorem Jl1 {G : GP} : ∀ (l : List Entr) (i last : Int) (f f' : Film), Jb1 G l i last f = .ok f' → ∀ e ∈ l, Jco e = true
 | [], _, _, _, _, _ => fun e he => by cases he
 | x :: l, i, last, f, f', h => by
  unfold Jb1 at h
  split at h
  ·
   cases hs : Jaz G f x with
   | none => rw [hs] at h; cases h
   | some f1 =>
    rw [hs] at h
    intro e he
    rcases List.mem_cons.1 he with rfl | he
    ·
     exact (Jcr hs).1
    exact Jl1 l (i + 1) x.t f1 f' h e he
  cases h
theorem Jvk {l : List Entr} (hf : ∀ e ∈ l, Jco e = true) (h : ∀ e ∈ l, ¬ (e.k = 2 ∨ e.k = 3 ∨ e.k = 4)) : Jgk l = l := by
 unfold Jgk
 rw [List.filter_eq_self]
 intro e he
 have h1 := Jnp (hf e he)
 have h2 := h e he
 simp only [Bool.or_eq_true, decide_eq_true_eq]
 omega
theorem Jm2 {G : GP} : ∀ (l : List Entr) (i last j : Int) (f f' : Film), Jb1 G l i last f = .ok f' → Jnk G ((Jay l).map Timed.m) j f.x = (0, 0, f'.x)
 | [], _, _, _, f, f', h => by cases h; rfl
 | e :: l, i, last, j, f, f', h => by
  unfold Jb1 at h
  split at h
  ·
   cases hs : Jaz G f e with
   | none => rw [hs] at h; cases h
   | some f1 =>
    rw [hs] at h
    by_cases h1 : e.k = 1
    ·
     have ih := Jm2 l (i + 1) e.t (j + 1) f1 f' h
     have hm : Jay (e :: l) = ⟨e.t, e.m⟩ :: Jay l := by unfold Jay; rw [List.filter_cons, if_pos (decide_eq_true h1), List.map_cons]
     rw [hm, List.map_cons, Jnk]
     obtain ⟨_, q | q | q | q | q⟩ := Jcr hs
     ·
      rw [if_pos q.2.2.1]
      rw [q.2.2.2] at ih
      exact ih
     all_goals (have := q.1; omega)
    have ih := Jm2 l (i + 1) e.t j f1 f' h
    have hm : Jay (e :: l) = Jay l := by unfold Jay; rw [List.filter_cons, if_neg (by rw [decide_eq_false h1]; decide)]
    have hx : f1.x = f.x := by
     obtain ⟨_, q | q | q | q | q⟩ := Jcr hs
     ·
      exact absurd q.1 h1
     ·
      rw [q.2.2.2]
     ·
      rw [q.2.2]
     ·
      rw [q.2.2]
     rw [q.2.2]
    rw [hm, ← hx]; exact ih
  cases h
theorem Juh {G : Game} {l : List Entr} (h : (Jaj G.p l).1 = 0) (hl : l.length ≤ 500) : Jku G.p (Jah G.p).2 ((Jay l).map Timed.m) = (0, 0, (Ja2 G.p l).2.2) := by
 obtain ⟨hb, _, f, hr, hv⟩ := Jeq h
 have hm := Jj4 (l := l)
 unfold Jku Ja2
 rw [if_pos (Jb8 hb), if_neg (by rw [List.length_map]; omega), hv, if_pos rfl]
 exact Jm2 l 0 0 0 (Jax G.p) f hr
end Go.Proofs.YtohneogdekdboaaGreatDoor
