/- Merged texts of this proof (walks and plain laws), printed by a program of the prover. -/
import Derived.Test.YtohneogdekdboaaGreatDoorY1
import Derived.Test.YtohneogdekdboaaGreatDoorY2
import Derived.Test.YtohneogdekdboaaGreatDoorZb
import Derived.Test.YtohneogdekdboaaGreatDoorProg
import Derived.KernelRfl
import Derived.Test.YtohneogdekdboaaGreatDoorZc
import Derived.Test.YtohneogdekdboaaGreatDoorXa
import Derived.Test.YtohneogdekdboaaGreatDoorXb
import Derived.Test.YtohneogdekdboaaGreatDoorXc
import Derived.Test.YtohneogdekdboaaGreatDoorXd
namespace Go.Proofs.YtohneogdekdboaaGreatDoor
open Go.Proofs
theorem Ka6 : zv Tryz.prog 111 = some [.slice none 0 0, .slice none 0 0, .slice none 0 0, .slice none 0 0, .slice none 0 0, .slice none 0 0, .int .i64 0, .slice none 0 0, .slice none 0 0, .slice none 0 0, .slice none 0 0, .int .i64 0, .slice none 0 0, .slice none 0 0, .slice none 0 0, .slice none 0 0, .bool false, .int .i64 0] := by kernel_rfl
theorem J84 : plc Tryz.prog 111 = some [(0, 12), (12, 4), (16, 1), (17, 1)] := by kernel_rfl
theorem Jxl : Ent Tryz.prog 17 := Jac Tryz.func17 (by kernel_rfl) rfl
theorem J3m : Ent Tryz.prog 44 := Jac Tryz.func44 (by kernel_rfl) rfl
theorem J3u : Ent Tryz.prog 45 := Jac Tryz.func45 (by kernel_rfl) rfl
theorem Kap : Ent Tryz.prog 69 := Jac Tryz.func69 (by kernel_rfl) rfl
theorem Jzy : Ent Tryz.prog 94 := Jac Tryz.func94 (by kernel_rfl) rfl
end Go.Proofs.YtohneogdekdboaaGreatDoor
set_option maxHeartbeats 8000000
namespace Go.Proofs.YtohneogdekdboaaGreatDoor
open Go.RowKit Go.Proofs
set_option maxRecDepth 100000
set_option linter.unusedVariables false
set_option linter.unusedSimpArgs false
theorem Jfi (x : Entr) (w : World) :
  Calls Tryz.prog 94 #[.agg #[.int .i64 x.t, .int .i64 x.k, .int .i64 x.m.p, .int .i64 x.m.k, .int .i64 x.m.n, .int .i64 x.a, .int .i64 x.b]] w (RetB w (.bool (decide (x.m = mv0)))) := by
 refine enter Tryz.func94 rfl rfl (Nat.le_of_ble_eq_true rfl) ?_
 refine Nz 0 ?_
 refine Wb 1 rfl rfl (fun _ => rfl) (fun _ => rfl) fun b1 hb1 => ?_
 refine Wd (Qc (Nz 1 ?_))
 refine Wk 0 (Bc 0) ?_
 refine Wk 0 (Db J1k zv71) ?_
 refine Wk 1 (Jpb J2g rfl rfl (Jtn x.m mv0)) ?_
 exact Wd (Qc (Cr (out1 rfl rfl (Jab rfl))))
theorem J02 (x : Entr) (w : World) :
  Calls Tryz.prog 69 #[.agg #[.int .i64 x.t, .int .i64 x.k, .int .i64 x.m.p, .int .i64 x.m.k, .int .i64 x.m.n, .int .i64 x.a, .int .i64 x.b]] w (RetB w (.bool (Jco x))) := by
 refine enter Tryz.func69 rfl rfl (Nat.le_of_ble_eq_true rfl) ?_
 refine Nz 0 ?_
 refine Wb 1 rfl rfl (fun _ => rfl) (fun _ => rfl) fun b1 hb1 => ?_
 refine Wd (Qc (Cs (Nz 1 ?_)))
 refine Wk 0 (Ba 0) ?_
 refine Wd (Qc (Ce (Nz 2 ?_)))
 refine Wd (Qc (CS.cond rfl ?_ ?_))<;>intro hc1<;>try simp only [bq] at hc1
 ·
  refine Nz 1 ?_
  refine Wk 2 (Ba 0) ?_
  refine Wt 0 rfl rfl (fun hg => Ff) ?_
  refine Wt 0 rfl rfl (fun hg => Ba 0) ?_
  refine Wt 0 rfl rfl (fun hg => Fq) ?_
  refine Wk 1 Pa ?_
  exact Wd (Qc (Cr (Qs (Qr (out1 rfl rfl (Jab (by unfold Jco; grind)))))))
 refine Nz 2 ?_
 refine Wd (Qc (CS.cond rfl ?_ ?_))<;>intro hc2<;>try simp only [bq] at hc2
 ·
  refine Nz 0 ?_
  refine Wk 0 (Bb 0) ?_
  refine Wk 1 (Cb rfl rfl Jzy (fun u hu => Jfi x u)) ?_
  refine Wt 0 rfl rfl (fun hg => Ff) ?_
  refine Wt 0 rfl rfl (fun hg => Ba 0) ?_
  refine Wt 0 rfl rfl (fun hg => Fq) ?_
  refine Wk 1 Pa ?_
  exact Wd (Qc (Cr (Qs (Qr (out1 rfl rfl (Jab (by unfold Jco; grind)))))))
 refine Cs (Nz 2 ?_)
 refine Wd (Qc (CS.cond rfl ?_ ?_))<;>intro hc3<;>try simp only [bq] at hc3
 ·
  refine Ck (Qc (CS.cond rfl ?_ ?_))<;>intro hc4<;>try simp only [bq] at hc4
  ·
   refine Nz 0 ?_
   refine Wk 0 (Bb 0) ?_
   refine Wk 1 (Cb rfl rfl Jzy (fun u hu => Jfi x u)) ?_
   refine Wt 0 rfl rfl (fun hg => Ff) ?_
   refine Wt 0 rfl rfl (fun hg => Ba 0) ?_
   refine Wt 0 rfl rfl (fun hg => Fq) ?_
   refine Wk 1 Pa ?_
   refine Wt 0 rfl rfl (fun hg => Ff) ?_
   refine Wt 0 rfl rfl (fun hg => Ba 0) ?_
   refine Wt 0 rfl rfl (fun hg => Fq) ?_
   refine Wk 1 Pa ?_
   exact Wd (Qc (Cr (Qs (Qr (out1 rfl rfl (Jab (by unfold Jco; grind)))))))
  refine Nz 2 ?_
  refine Wd (Qc (CS.cond rfl ?_ ?_))<;>intro hc5<;>try simp only [bq] at hc5
  ·
   refine Nz 0 ?_
   refine Wk 0 (Bb 0) ?_
   refine Wk 1 (Cb rfl rfl Jzy (fun u hu => Jfi x u)) ?_
   exact Wd (Qc (Cr (Qs (Qr (out1 rfl rfl (Jab (by unfold Jco; grind)))))))
  refine Ck (Qb (Qc (Nz 1 ?_)))
  exact Wd (Qc (Cr (out1 rfl rfl (Jab (by unfold Jco; grind)))))
 refine Ny 2 ?_
 refine Wd (Qc (CS.cond rfl ?_ ?_))<;>intro hc6<;>try simp only [bq] at hc6
 ·
  refine Nz 0 ?_
  refine Wk 0 (Bb 0) ?_
  refine Wk 1 (Cb rfl rfl Jzy (fun u hu => Jfi x u)) ?_
  refine Wt 0 rfl rfl (fun hg => Ff) ?_
  refine Wt 0 rfl rfl (fun hg => Ba 0) ?_
  refine Wt 0 rfl rfl (fun hg => Fq) ?_
  refine Wk 1 Pa ?_
  refine Wt 0 rfl rfl (fun hg => Ff) ?_
  refine Wt 0 rfl rfl (fun hg => Ba 0) ?_
  refine Wt 0 rfl rfl (fun hg => Fq) ?_
  refine Wk 1 Pa ?_
  exact Wd (Qc (Cr (Qs (Qr (out1 rfl rfl (Jab (by unfold Jco; grind)))))))
 refine Nz 2 ?_
 refine Wd (Qc (CS.cond rfl ?_ ?_))<;>intro hc7<;>try simp only [bq] at hc7
 ·
  refine Nz 0 ?_
  refine Wk 0 (Bb 0) ?_
  refine Wk 1 (Cb rfl rfl Jzy (fun u hu => Jfi x u)) ?_
  exact Wd (Qc (Cr (Qs (Qr (out1 rfl rfl (Jab (by unfold Jco; grind)))))))
 refine Ck (Qb (Qc (Nz 1 ?_)))
 exact Wd (Qc (Cr (out1 rfl rfl (Jab (by unfold Jco; grind)))))
theorem Jnu {G : GP} {f : Film} {x : Entr} (hf : Jco x = true) (hk : x.k = 1) : Jaz G f x = if f.st = false ∧ (Jaf G f.x x.m).1 = 0 then some { f with x := (Jaf G f.x x.m).2, en := if f.en < 0 ∧ Jdk G (Jaf G f.x x.m).2 = true then x.t - f.pa else f.en } else none := by
 unfold Jaz; rw [if_pos hf, if_pos hk]
theorem Jxy {G : GP} {f : Film} {x : Entr} (hf : Jco x = true) (hk : x.k = 2) : Jaz G f x = if f.st = false ∧ 0 ≤ x.a ∧ x.a ≤ 1000 then some { f with hi := if f.en < 0 then f.hi + 1 else f.hi } else none := by
 unfold Jaz; rw [if_pos hf, if_neg (by omega), if_pos hk]
theorem Jzf {G : GP} {f : Film} {x : Entr} (hf : Jco x = true) (hk : x.k = 3) : Jaz G f x = if f.st = false then some { f with st := true, si := x.t } else none := by
 unfold Jaz; rw [if_pos hf, if_neg (by omega), if_neg (by omega), if_pos hk]
theorem Jvt {G : GP} {f : Film} {x : Entr} (hf : Jco x = true) (hk : x.k = 4) : Jaz G f x = if f.st = true then some { f with st := false, pa := f.pa + (x.t - f.si) } else none := by
 unfold Jaz; rw [if_pos hf, if_neg (by omega), if_neg (by omega), if_neg (by omega), if_pos hk]
theorem Jv1 {G : GP} {f : Film} {x : Entr} (hf : Jco x = true) (hk : x.k = 5) : Jaz G f x = if 0 ≤ x.a ∧ x.a ≤ (f.x.1.1.length : Int) - 1 ∧ nth f.x.1.1 x.a = x.b then some f else none := by
 unfold Jaz; rw [if_pos hf, if_neg (by omega), if_neg (by omega), if_neg (by omega), if_neg (by omega)]
theorem Jk3 {G : Game} {f f' : Film} {e : Entr} (hq : posG G.p f.x = 0) (h : Jaz G.p f e = some f') : posG G.p f'.x = 0 := by
 obtain ⟨_, h | h | h | h | h⟩ := Jcr h
 ·
  rw [h.2.2.2]; exact (Jen (p := Jjp f.x) h.2.2.1).2.2
 ·
  rw [h.2.2.2]; exact hq
 ·
  rw [h.2.2]; exact hq
 ·
  rw [h.2.2]; exact hq
 rw [h.2.2]; exact hq
theorem J0i {w u : World} (R : SA) (G : Game) (hG : GameOk w G) (hn : NearG G) (rb : Nat) (y : Pos) (f : Film) (hyx : y.x = f.x) (x : Entr) (last : Int) (hu : St w.heap.size w [blk rb [G.rm.pls.v, G.rm.ths.v, G.rm.prs.v, G.rm.wys.v, G.rm.acs.v, G.rm.aus.v, .int .i64 G.rm.ply, G.rm.gl.v, G.lks.v, G.cds.v, G.nts.v, .int .i64 G.tr, y.st.ths.v, y.st.prs.v, y.st.pls.v, y.rd.v, .bool f.st, .int .i64 last] 111, roS fun u => PosOk u y, R] u) :
  Calls Tryz.prog 45 #[.pointer (some ⟨rb, 0, none⟩), .agg #[.int .i64 x.t, .int .i64 x.k, .int .i64 x.m.p, .int .i64 x.m.k, .int .i64 x.m.n, .int .i64 x.a, .int .i64 x.b]] u (fun e u' => ∃ q : Pos × Film × Int, (q.1.x = q.2.1.x ∧ (∃ u0, PosOk u0 q.1) ∧ ∀ f', Jcc last x = true → (Jaz G.p f x) = some f' → q.2.1 = f' ∧ q.2.2 = x.t) ∧ e = .returned (.bool (Jcc last x && (Jaz G.p f x).isSome)) ∧ St w.heap.size w [blk rb [G.rm.pls.v, G.rm.ths.v, G.rm.prs.v, G.rm.wys.v, G.rm.acs.v, G.rm.aus.v, .int .i64 G.rm.ply, G.rm.gl.v, G.lks.v, G.cds.v, G.nts.v, .int .i64 G.tr, q.1.st.ths.v, q.1.st.prs.v, q.1.st.pls.v, q.1.rd.v, .bool q.2.1.st, .int .i64 q.2.2] 111, roS fun u => PosOk u q.1, R] u') := by
 have hyT := (hu.ro (j := 1) rfl).st.ths
 have hyle := hyT.le
 have hyl : f.x.1.1 = y.st.ths.l := by rw [← hyx]; rfl
 refine Jd2 hu Tryz.func45 rfl rfl (Nat.le_of_ble_eq_true rfl) ?_
 refine Nz 0 ?_
 refine Wb 1 rfl rfl (fun _ => rfl) (fun _ => rfl) fun b3 hb3 => ?_
 refine Wd (Qc (Cs (Cs (Dr Jai 1 ?_))))
 refine Dk 3 (Ba 0) ?_
 refine Dk 0 (Ba 1) ?_
 refine Dk 2 (Cb rfl rfl Jxm (fun u hu => Jln _ _ _ u)) ?_
 refine Df 0 rfl rfl (fun hg => Bb 0) ?_
 refine Df 0 rfl rfl (fun hg => Cb rfl (ec_ (eg_ hg rfl) en_) Kap (fun u hu => J02 x u)) ?_
 refine Df 0 rfl rfl (fun hg => Fn) ?_
 refine Dk 0 Po ?_
 refine Dd (Qc (CS.cond rfl ?_ ?_))<;>intro hc1<;>try simp only [bq] at hc1
 ·
  have hno : Jcc last x = false ∨ Jco x = false := by unfold Jcc; have h9 := hc1; simp at h9 ⊢; grind
  have hv : (Jcc last x && (Jaz G.p f x).isSome) = false := by
   rcases hno with h | h
   ·
    rw [h]; rfl
   unfold Jaz; rw [if_neg (by rw [h]; decide), Bool.and_eq_false_iff]; exact .inr rfl
  have hfal : ∀ f9, Jcc last x = true → Jaz G.p f x = some f9 → False := fun f9 h8 h9 => by rw [h8, h9] at hv; cases hv
  refine Nz 1 ?_
  exact Wd (Qc (Cr (Qr (out1 rfl rfl (fun u hu => ⟨(y, f, last), ⟨hyx, ⟨u, hu.ro (j := 2) rfl⟩, fun f9 h8 h9 ↦ by exact (hfal f9 h8 h9).elim⟩, by rw [hv], hu.sel [1, 1, 1] rfl⟩)))))
 have hTF : Jcc last x = true ∧ Jco x = true := by unfold Jcc; have h9 := hc1; simp at h9 ⊢; grind
 obtain ⟨hT, hFo⟩ := hTF
 have hkk := Jnp hFo
 refine Ck (Qc (Nz 2 ?_))
 refine Wk 2 (Ba 0) ?_
 refine Ws 0 1 ?_
 refine Wd (Qc (Cs (Nz 1 ?_)))
 refine Wk 0 (Ba 0) ?_
 refine Wd (Qc (Ce (Nz 2 ?_)))
 refine Wd (Qc (CS.cond rfl ?_ ?_))<;>intro hc2<;>try simp only [bq] at hc2
 ·
  refine Cs ?_
  refine CS.drawnAll (k := 17) Jai rfl rfl ?_
  refine Ar [0,1,2] ?_
  refine Ak 3 [4,5,6] rfl (Bc 1) ?_
  refine Ak 7 [8] rfl (Bc 1) ?_
  refine Ak 9 [] rfl (Bc 0) ?_
  refine AS.two (i := 10) (j := 14) (by kernel_rfl) rfl rfl (by first | exact fun _ h => h | exact fun _ h => h.sub (by repeat first | exact List.Sublist.refl _ | apply List.Sublist.cons_cons | apply List.Sublist.cons)) rfl rfl ?_ ?_
  ·
   refine Wc rfl rfl Ju8 (fun u hu => (by have q := Jjb G u (hG.st hu) hn y (hu.ro (j := 2) rfl) x.m; rw [hyx] at q; exact q)) (fun _ => rfl) ?_; rintro z ⟨hzx, uz, hzok⟩
   obtain ⟨hza, hzb, hzc⟩ := hzok.st.ones
   have hzd := Sl.one hzok.rd
   refine Wd (Qa ?_)
   refine Ar [11,12,13] ?_
   refine Ao 14 rfl ?_
   refine Wl 0 zv61 (fun _ => rfl) (fun _ => rfl) fun b5 hb5 => ?_
   refine Wd (Qa ?_)
   refine Ao 15 rfl ?_
   refine Wv 0 0 ?_
   refine Wd (Qa ?_)
   refine Ar [16] ?_
   refine Ae ?_
   refine Qc (Cs (Nz 3 ?_))
   refine Wf 0 rfl rfl (fun hg => Fm) ?_
   refine Wf 0 rfl rfl (fun hg => Fc) ?_
   refine Wf 0 rfl rfl (fun hg => Ff) ?_
   refine Wf 0 rfl rfl (fun hg => Ba 3) ?_
   refine Wk 0 Po ?_
   refine Wd (Qc (CS.cond rfl ?_ ?_))<;>intro hc3<;>try simp only [bq] at hc3
   ·
    have hno : Jaz G.p f x = none := by
     rw [Jnu hFo hc2, if_neg (by rintro ⟨h2, h3⟩; simp [h2, h3] at hc3)]
    refine Nz 1 ?_
    exact Wd (Qc (Cr (Qr (Qs (Qr (out1 rfl rfl (fun u hu => ⟨(y, f, x.t), ⟨hyx, ⟨u, hu.ro (j := 4) rfl⟩, fun f9 h8 h9 ↦ by rw [hno] at h9; cases h9⟩, by rw [hT, hno]; rfl, hu.sel [3, 3, 3] rfl⟩)))))))
   have hS : (Jaf G.p f.x x.m).1 = 0 ∧ f.st = false := by have h9 := hc3; first | exact h9 | (simp at h9; grind)
   have hso := (Jnu (G := G.p) (f := f) hFo hc2).trans (if_pos (⟨hS.2, hS.1⟩))
   refine Ck (Qc (Ny 1 ?_))
   refine Wk 2 (Bb 0) ?_
   refine WS.storeP rfl (j := 3) rfl rfl rfl (by simp [hza, hzb, hzc, hzd]) tk61 rfl rfl ?_
   refine WS.sel [3, 1, 3] rfl ?_
   refine Wd (Qb (Qc (Nz 1 ?_)))
   exact Wd (Qc (Cr (out1 rfl rfl (fun u hu => (by first | exact ⟨(z, { f with x := (Jaf G.p f.x x.m).2, en := if f.en < 0 ∧ Jdk G.p (Jaf G.p f.x x.m).2 = true then x.t - f.pa else f.en }, x.t), ⟨hzx, ⟨u, hu.ro (j := 1) rfl⟩, fun f9 h8 h9 ↦ by rw [hso] at h9; exact ⟨Option.some.inj h9, rfl⟩⟩, by rw [hT, hso]; rfl, hu.sel [0, 0, 0] rfl⟩ | exact ⟨(y, { f with st := true, si := x.t }, x.t), ⟨hyx, ⟨u, hu.ro (j := 1) rfl⟩, fun f9 h8 h9 ↦ by rw [hso] at h9; exact ⟨Option.some.inj h9, rfl⟩⟩, by rw [hT, hso]; rfl, hu.sel [0, 0, 0] rfl⟩ | exact ⟨(y, { f with st := false, pa := f.pa + (x.t - f.si) }, x.t), ⟨hyx, ⟨u, hu.ro (j := 1) rfl⟩, fun f9 h8 h9 ↦ by rw [hso] at h9; exact ⟨Option.some.inj h9, rfl⟩⟩, by rw [hT, hso]; rfl, hu.sel [0, 0, 0] rfl⟩)))))
  refine Wl 0 zv61 (fun _ => rfl) (fun _ => rfl) fun b5 hb5 => ?_
  refine Wd (Qa ?_)
  refine Ao 10 rfl ?_
  refine Wc rfl rfl Ju8 (fun u hu => (by have q := Jjb G u (hG.st hu) hn y (hu.ro (j := 3) rfl) x.m; rw [hyx] at q; exact q)) (fun _ => rfl) ?_; rintro z ⟨hzx, uz, hzok⟩
  obtain ⟨hza, hzb, hzc⟩ := hzok.st.ones
  have hzd := Sl.one hzok.rd
  refine Wd (Qa ?_)
  refine Ar [11,12,13] ?_
  refine Ao 15 rfl ?_
  refine Wv 0 1 ?_
  refine Wd (Qa ?_)
  refine Ar [16] ?_
  refine Ae ?_
  refine Qc (Cs (Nz 3 ?_))
  refine Wf 0 rfl rfl (fun hg => Fm) ?_
  refine Wf 0 rfl rfl (fun hg => Fc) ?_
  refine Wf 0 rfl rfl (fun hg => Ff) ?_
  refine Wf 0 rfl rfl (fun hg => Ba 3) ?_
  refine Wk 0 Po ?_
  refine Wd (Qc (CS.cond rfl ?_ ?_))<;>intro hc3<;>try simp only [bq] at hc3
  ·
   have hno : Jaz G.p f x = none := by
    rw [Jnu hFo hc2, if_neg (by rintro ⟨h2, h3⟩; simp [h2, h3] at hc3)]
   refine Nz 1 ?_
   exact Wd (Qc (Cr (Qr (Qs (Qr (out1 rfl rfl (fun u hu => ⟨(y, f, x.t), ⟨hyx, ⟨u, hu.ro (j := 4) rfl⟩, fun f9 h8 h9 ↦ by rw [hno] at h9; cases h9⟩, by rw [hT, hno]; rfl, hu.sel [3, 3, 3] rfl⟩)))))))
  have hS : (Jaf G.p f.x x.m).1 = 0 ∧ f.st = false := by have h9 := hc3; first | exact h9 | (simp at h9; grind)
  have hso := (Jnu (G := G.p) (f := f) hFo hc2).trans (if_pos (⟨hS.2, hS.1⟩))
  refine Ck (Qc (Ny 1 ?_))
  refine Wk 2 (Bb 1) ?_
  refine WS.storeP rfl (j := 3) rfl rfl rfl (by simp [hza, hzb, hzc, hzd]) tk61 rfl rfl ?_
  refine WS.sel [3, 0, 3] rfl ?_
  refine Wd (Qb (Qc (Nz 1 ?_)))
  exact Wd (Qc (Cr (out1 rfl rfl (fun u hu => (by first | exact ⟨(z, { f with x := (Jaf G.p f.x x.m).2, en := if f.en < 0 ∧ Jdk G.p (Jaf G.p f.x x.m).2 = true then x.t - f.pa else f.en }, x.t), ⟨hzx, ⟨u, hu.ro (j := 1) rfl⟩, fun f9 h8 h9 ↦ by rw [hso] at h9; exact ⟨Option.some.inj h9, rfl⟩⟩, by rw [hT, hso]; rfl, hu.sel [0, 0, 0] rfl⟩ | exact ⟨(y, { f with st := true, si := x.t }, x.t), ⟨hyx, ⟨u, hu.ro (j := 1) rfl⟩, fun f9 h8 h9 ↦ by rw [hso] at h9; exact ⟨Option.some.inj h9, rfl⟩⟩, by rw [hT, hso]; rfl, hu.sel [0, 0, 0] rfl⟩ | exact ⟨(y, { f with st := false, pa := f.pa + (x.t - f.si) }, x.t), ⟨hyx, ⟨u, hu.ro (j := 1) rfl⟩, fun f9 h8 h9 ↦ by rw [hso] at h9; exact ⟨Option.some.inj h9, rfl⟩⟩, by rw [hT, hso]; rfl, hu.sel [0, 0, 0] rfl⟩)))))
 refine Nz 2 ?_
 refine Wd (Qc (CS.cond rfl ?_ ?_))<;>intro hc4<;>try simp only [bq] at hc4
 ·
  refine Nz 3 ?_
  refine Wk 2 (Ba 1) ?_
  refine Wt 0 rfl rfl (fun hg => Ff) ?_
  refine Wt 0 rfl rfl (fun hg => Ba 0) ?_
  refine Wt 0 rfl rfl (fun hg => Cb rfl (ec_ (eg_ hg rfl) (ec_ rfl (ec_ rfl en_))) Jxm (fun u hu => Jln _ _ _ u)) ?_
  refine Wk 1 Pa ?_
  exact Wd (Qc (Cr (Qs (Qr (out1 rfl rfl (fun u hu => ⟨(y, { f with hi := if f.en < 0 then f.hi + 1 else f.hi }, x.t), ⟨hyx, ⟨u, hu.ro (j := 2) rfl⟩, fun f9 h8 h9 ↦ by rw [Jxy hFo hc4] at h9; split at h9; exact ⟨Option.some.inj h9, rfl⟩; cases h9⟩, by rw [hT, Bool.true_and, Jxy hFo hc4]; exact congrArg (fun b ↦ Ending.returned (Value.bool b)) (by rw [Jdq, Bool.eq_iff_iff]; simp <;> grind), hu.sel [1, 1, 1] rfl⟩))))))
 refine Nz 2 ?_
 refine Wd (Qc (CS.cond rfl ?_ ?_))<;>intro hc5<;>try simp only [bq] at hc5
 ·
  refine Cs (Nz 3 ?_)
  refine Wk 0 (Ba 1) ?_
  refine Wd (Qc (CS.cond rfl ?_ ?_))<;>intro hc6<;>try simp only [bq] at hc6
  ·
   have hno : Jaz G.p f x = none := by
    rw [Jzf hFo hc5, if_neg (by intro h; rw [h] at hc6; cases hc6)]
   refine Nz 1 ?_
   exact Wd (Qc (Cr (Qr (Qs (Qr (out1 rfl rfl (fun u hu => ⟨(y, f, x.t), ⟨hyx, ⟨u, hu.ro (j := 2) rfl⟩, fun f9 h8 h9 ↦ by rw [hno] at h9; cases h9⟩, by rw [hT, hno]; rfl, hu.sel [1, 1, 1] rfl⟩)))))))
  have hso := (Jzf (G := G.p) (f := f) hFo hc5).trans (if_pos (hc6))
  refine Ck (Qc (Ny 3 ?_))
  refine Ws 0 1 ?_
  refine Wd (Qb (Qc (Nz 1 ?_)))
  exact Wd (Qc (Cr (out1 rfl rfl (fun u hu => (by first | exact ⟨(z, { f with x := (Jaf G.p f.x x.m).2, en := if f.en < 0 ∧ Jdk G.p (Jaf G.p f.x x.m).2 = true then x.t - f.pa else f.en }, x.t), ⟨hzx, ⟨u, hu.ro (j := 2) rfl⟩, fun f9 h8 h9 ↦ by rw [hso] at h9; exact ⟨Option.some.inj h9, rfl⟩⟩, by rw [hT, hso]; rfl, hu.sel [1, 1, 1] rfl⟩ | exact ⟨(y, { f with st := true, si := x.t }, x.t), ⟨hyx, ⟨u, hu.ro (j := 2) rfl⟩, fun f9 h8 h9 ↦ by rw [hso] at h9; exact ⟨Option.some.inj h9, rfl⟩⟩, by rw [hT, hso]; rfl, hu.sel [1, 1, 1] rfl⟩ | exact ⟨(y, { f with st := false, pa := f.pa + (x.t - f.si) }, x.t), ⟨hyx, ⟨u, hu.ro (j := 2) rfl⟩, fun f9 h8 h9 ↦ by rw [hso] at h9; exact ⟨Option.some.inj h9, rfl⟩⟩, by rw [hT, hso]; rfl, hu.sel [1, 1, 1] rfl⟩)))))
 refine Nz 2 ?_
 refine Wd (Qc (CS.cond rfl ?_ ?_))<;>intro hc7<;>try simp only [bq] at hc7
 ·
  refine Cs (Nz 3 ?_)
  refine Wk 1 (Ba 1) ?_
  refine Wd (Qc (CS.cond rfl ?_ ?_))<;>intro hc8<;>try simp only [bq] at hc8
  ·
   have hno : Jaz G.p f x = none := by
    rw [Jvt hFo hc7, if_neg (by intro h; rw [h] at hc8; cases hc8)]
   refine Nz 1 ?_
   exact Wd (Qc (Cr (Qr (Qs (Qr (out1 rfl rfl (fun u hu => ⟨(y, f, x.t), ⟨hyx, ⟨u, hu.ro (j := 2) rfl⟩, fun f9 h8 h9 ↦ by rw [hno] at h9; cases h9⟩, by rw [hT, hno]; rfl, hu.sel [1, 1, 1] rfl⟩)))))))
  have hso := (Jvt (G := G.p) (f := f) hFo hc7).trans (if_pos (by first | exact hc8 | simpa using hc8))
  refine Ck (Qc (Ny 3 ?_))
  refine Ws 0 1 ?_
  refine Wd (Qb (Qc (Nz 1 ?_)))
  exact Wd (Qc (Cr (out1 rfl rfl (fun u hu => (by first | exact ⟨(z, { f with x := (Jaf G.p f.x x.m).2, en := if f.en < 0 ∧ Jdk G.p (Jaf G.p f.x x.m).2 = true then x.t - f.pa else f.en }, x.t), ⟨hzx, ⟨u, hu.ro (j := 2) rfl⟩, fun f9 h8 h9 ↦ by rw [hso] at h9; exact ⟨Option.some.inj h9, rfl⟩⟩, by rw [hT, hso]; rfl, hu.sel [1, 1, 1] rfl⟩ | exact ⟨(y, { f with st := true, si := x.t }, x.t), ⟨hyx, ⟨u, hu.ro (j := 2) rfl⟩, fun f9 h8 h9 ↦ by rw [hso] at h9; exact ⟨Option.some.inj h9, rfl⟩⟩, by rw [hT, hso]; rfl, hu.sel [1, 1, 1] rfl⟩ | exact ⟨(y, { f with st := false, pa := f.pa + (x.t - f.si) }, x.t), ⟨hyx, ⟨u, hu.ro (j := 2) rfl⟩, fun f9 h8 h9 ↦ by rw [hso] at h9; exact ⟨Option.some.inj h9, rfl⟩⟩, by rw [hT, hso]; rfl, hu.sel [1, 1, 1] rfl⟩)))))
 refine Nz 2 ?_
 refine Wd (Qc (CS.cond rfl ?_ ?_))<;>intro hc9<;>try simp only [bq] at hc9
 ·
  refine Cs (Dr Jai 1 ?_)
  refine Dk 5 (Ba 0) ?_
  refine Dk 0 (Ba 1) ?_
  refine Dk 0 (Jda (s := y.st.ths) sl56 rfl hyT) ?_
  refine Dk 0 Zb ?_
  refine Dk 1 (Cb rfl rfl Jxm (fun u hu => Jln _ _ _ u)) ?_
  refine Dt 0 rfl rfl (fun hg => Ff) ?_
  refine Dt 0 rfl rfl (fun hg => Ba 0) ?_
  refine Dt 0 rfl rfl (fun hg => Fm) ?_
  refine Dt 0 rfl rfl (fun hg => Fc) ?_
  refine Dt 0 rfl rfl (fun hg => Ff) ?_
  refine Dt 0 rfl rfl (fun hg => Ff) ?_
  refine Dt 0 rfl rfl (fun hg => Ff) ?_
  refine Dt 0 rfl rfl (fun hg => Ba 1) ?_
  refine Dt 0 rfl rfl (fun hg => Ff) ?_
  refine Dt 0 rfl rfl (fun hg => Ba 0) ?_
  refine Dt 0 rfl rfl (fun hg => Jbi (s := y.st.ths) sl56 (eg_ hg rfl) (eg_ hg rfl) hyT rfl (by (try simp only [bq] at hg); omega) (by (try simp only [bq] at hg); omega)) ?_
  refine Dt 0 rfl rfl (fun hg => Jd8 2 (s := y.st.ths) rfl (fun _ h ↦ h.st.ths) (eg_ hg rfl) rfl ⟨by (try simp only [bq] at hg); omega, by (try simp only [bq] at hg); omega⟩ rfl tk3) ?_
  refine Dt 0 rfl rfl (fun hg => Fq) ?_
  refine Dk 1 Pa ?_
  exact Dd (Qc (Cr (Qs (Qr (out1 rfl rfl (fun u hu => ⟨(y, f, x.t), ⟨hyx, ⟨u, hu.ro (j := 2) rfl⟩, fun f9 h8 h9 ↦ by rw [Jv1 hFo hc9] at h9; split at h9; exact ⟨Option.some.inj h9, rfl⟩; cases h9⟩, by rw [hT, Bool.true_and, Jv1 hFo hc9, hyl]; exact congrArg (fun b ↦ Ending.returned (Value.bool b)) (by rw [Jdq, Bool.eq_iff_iff]; simp <;> grind), hu.sel [1, 1, 1] rfl⟩))))))
 exfalso; omega
theorem Jkk {w u : World} (A B : List SA) (G : Game) (hG : GameOk w G) (hn : NearG G) (rb : Nat) (y : Pos) (f : Film) (hyx : y.x = f.x) (x : Entr) (last : Int) (hu : St w.heap.size w (A ++ [blk rb [G.rm.pls.v, G.rm.ths.v, G.rm.prs.v, G.rm.wys.v, G.rm.acs.v, G.rm.aus.v, .int .i64 G.rm.ply, G.rm.gl.v, G.lks.v, G.cds.v, G.nts.v, .int .i64 G.tr, y.st.ths.v, y.st.prs.v, y.st.pls.v, y.rd.v, .bool f.st, .int .i64 last] 111, roS fun u => PosOk u y] ++ B) u) :
  Calls Tryz.prog 45 #[.pointer (some ⟨rb, 0, none⟩), .agg #[.int .i64 x.t, .int .i64 x.k, .int .i64 x.m.p, .int .i64 x.m.k, .int .i64 x.m.n, .int .i64 x.a, .int .i64 x.b]] u (fun e u' => ∃ q : Pos × Film × Int, (q.1.x = q.2.1.x ∧ (∃ u0, PosOk u0 q.1) ∧ ∀ f', Jcc last x = true → (Jaz G.p f x) = some f' → q.2.1 = f' ∧ q.2.2 = x.t) ∧ e = .returned (.bool (Jcc last x && (Jaz G.p f x).isSome)) ∧ St w.heap.size w (A ++ [blk rb [G.rm.pls.v, G.rm.ths.v, G.rm.prs.v, G.rm.wys.v, G.rm.acs.v, G.rm.aus.v, .int .i64 G.rm.ply, G.rm.gl.v, G.lks.v, G.cds.v, G.nts.v, .int .i64 G.tr, q.1.st.ths.v, q.1.st.prs.v, q.1.st.pls.v, q.1.rd.v, .bool q.2.1.st, .int .i64 q.2.2] 111, roS fun u => PosOk u q.1] ++ B) u') := by
 refine Calls.mono (J0i (star (A ++ B)) G hG hn rb y f hyx x last hu.out2) ?_
 rintro e u' ⟨z, h1, h2, h3⟩
 exact ⟨z, h1, h2, h3.in2⟩
theorem J1t {G : GP} {e : Entr} {last : Int} {f : Film} (h : (Jcc last e && (Jaz G f e).isSome) = true) : Jcc last e = true ∧ ∃ f', Jaz G f e = some f' := by
 rw [Bool.and_eq_true, Option.isSome_iff_exists] at h; exact h
theorem Jnx (G : Game) (w : World) (hG : GameOk w G) (hn : NearG G) :
  Calls Tryz.prog 44 #[.agg #[G.rm.pls.v, G.rm.ths.v, G.rm.prs.v, G.rm.wys.v, G.rm.acs.v, G.rm.aus.v, .int .i64 G.rm.ply, G.rm.gl.v, G.lks.v, G.cds.v, G.nts.v, .int .i64 G.tr]] w (fun e w' => ∃ x : Nat × Pos, (x.2.x = (Jah G.p).2 ∧ ∃ u0, PosOk u0 x.2) ∧ RetF w (.tuple #[.pointer (some ⟨x.1, 0, none⟩), .int .i64 (Jah G.p).1]) (star [blk x.1 [G.rm.pls.v, G.rm.ths.v, G.rm.prs.v, G.rm.wys.v, G.rm.acs.v, G.rm.aus.v, .int .i64 G.rm.ply, G.rm.gl.v, G.lks.v, G.cds.v, G.nts.v, .int .i64 G.tr, x.2.st.ths.v, x.2.st.prs.v, x.2.st.pls.v, x.2.rd.v, .bool false, .int .i64 0] 111, roS fun u => PosOk u x.2]) e w') := by
 have o1 := Sl.one hG.rm.pls
 have o2 := Sl.one hG.rm.ths
 have o3 := Sl.one hG.rm.prs
 have o4 := Sl.one hG.rm.wys
 have o5 := Sl.one hG.rm.acs
 have o6 := Sl.one hG.rm.aus
 have o7 := Sl.one hG.rm.gl
 have o8 := Sl.one hG.lks
 have o9 := Sl.one hG.cds
 have o10 := Sl.one hG.nts
 refine enter Tryz.func44 rfl rfl (Nat.le_of_ble_eq_true rfl) ?_
 refine Nz 0 ?_
 refine Wb 2 rfl rfl (fun _ => rfl) (fun _ => rfl) fun b1 hb1 => ?_
 refine Wd (Qc (Nz 0 ?_))
 refine Wk 0 (Bb 0) ?_
 refine Wc rfl rfl Juq (fun u hu => Jhc G u (hG.st hu) hn) (fun _ => rfl) ?_; rintro y ⟨hyx, uy, hyok⟩
 obtain ⟨hya, hyb, hyc⟩ := hyok.st.ones
 have hyd := Sl.one hyok.rd
 refine Wz 3 ?_
 refine Wl 0 zv61 (fun _ => rfl) (fun _ => rfl) fun b4 hb4 => ?_
 refine Wv 1 0 ?_
 refine Wd (Qc (Nz 0 ?_))
 refine Wk 0 (Bb 2) ?_
 refine Wk 0 (Bb 0) ?_
 refine Wk 0 (Jas J84 Ka6 (pcs := [(0, [G.rm.pls.v, G.rm.ths.v, G.rm.prs.v, G.rm.wys.v, G.rm.acs.v, G.rm.aus.v, .int .i64 G.rm.ply, G.rm.gl.v, G.lks.v, G.cds.v, G.nts.v, .int .i64 G.tr]), (1, [y.st.ths.v, y.st.prs.v, y.st.pls.v, y.rd.v])]) rfl (CellsOf.agg (CellsOf.agg CellsOf.nil)) rfl) ?_
 refine Wb 3 rfl rfl (fun _ => rfl) (fun _ => rfl) fun b14 hb14 => ?_
 exact Wd (Qc (Cr (out2 rfl rfl rfl (fun u hu => ⟨(b14, y), ⟨hyx, uy, hyok⟩, Jkz (hu.sel [0, 1] rfl) (List.Perm.refl _)⟩))))
theorem Jel (G : Game) (w : World) (hG : GameOk w G) (hn : NearG G) (l : Sl Entr) (hk : SlT cEntry w l) :
  Calls Tryz.prog 17 #[.agg #[G.rm.pls.v, G.rm.ths.v, G.rm.prs.v, G.rm.wys.v, G.rm.acs.v, G.rm.aus.v, .int .i64 G.rm.ply, G.rm.gl.v, G.lks.v, G.cds.v, G.nts.v, .int .i64 G.tr], l.v] w (RetB w (.tuple #[.int .i64 (Jaj G.p l.l).2.1, .int .i64 (Jaj G.p l.l).1])) := by
 have lls := hk.le
 refine enter Tryz.func17 rfl rfl (Nat.le_of_ble_eq_true rfl) ?_
 refine Nz 0 ?_
 refine Wb 2 rfl rfl (fun _ => rfl) (fun _ => rfl) fun b2 hb2 => ?_
 refine Wd (Qc (Nz 0 ?_))
 refine Wk 0 (Bb 0) ?_
 refine Wc rfl rfl J3m (fun u hu => Jnx G u (hG.st hu) hn) (fun _ => rfl) ?_; rintro ⟨rb, y⟩ ⟨hyx, uy, hyok⟩
 refine WS.unpack ?_
 refine Wz 5 ?_
 refine Wd (Qc (Cs (Nz 2 ?_)))
 refine Wd (Qc (CS.cond rfl ?_ ?_))<;>intro hc1<;>try simp only [bq] at hc1
 ·
  refine Nz 3 ?_
  exact Wd (Qc (Cr (Qr (out2 rfl rfl rfl (Jab (by rw [Jr0 hc1]))))))
 have hB : (Jah G.p).1 = 0 := hc1
 refine Ck (Qc (Cs (Nz 1 ?_)))
 refine Wk 1 Nc ?_
 refine Wd (Qc (CS.cond rfl ?_ ?_))<;>intro hc2<;>try simp only [bq] at hc2
 ·
  refine Nz 2 ?_
  exact Wd (Qc (Cr (Qr (out2 rfl rfl rfl (Jab (by rw [Jqc hB (by omega)]))))))
 have hL : ¬ 500 < (l.l.length : Int) := by omega
 refine Ck (Qc (Cs (Nz 1 ?_)))
 refine Wd (Qc (Ce ?_))
 refine CS.loopM (σ := Int × Pos × Film × Int × Unit) [4, 5, 20, 21, 22, 23, 24, 25, 26, 27, 28, 29, 30, 31, 32, 33] (fun s => [(8, .int .i64 s.1)]) (fun s => [blk rb [G.rm.pls.v, G.rm.ths.v, G.rm.prs.v, G.rm.wys.v, G.rm.acs.v, G.rm.aus.v, .int .i64 G.rm.ply, G.rm.gl.v, G.lks.v, G.cds.v, G.nts.v, .int .i64 G.tr, s.2.1.st.ths.v, s.2.1.st.prs.v, s.2.1.st.pls.v, s.2.1.rd.v, .bool s.2.2.1.st, .int .i64 s.2.2.2.1] 111, roS fun u => PosOk u s.2.1, blk b2 [G.rm.pls.v, G.rm.ths.v, G.rm.prs.v, G.rm.wys.v, G.rm.acs.v, G.rm.aus.v, .int .i64 G.rm.ply, G.rm.gl.v, G.lks.v, G.cds.v, G.nts.v, .int .i64 G.tr] 36]) (fun s => 0 ≤ s.1 ∧ s.1 ≤ l.l.length ∧ (∃ u0, PosOk u0 s.2.1) ∧ s.2.1.x = s.2.2.1.x ∧ posG G.p s.2.2.1.x = 0 ∧ Jb1 G.p l.l 0 0 (Jax G.p) = Jb1 G.p (l.l.drop s.1.toNat) s.1 s.2.2.2.1 s.2.2.1) (fun s => (l.l.length - s.1).toNat) (0, y, Jax G.p, 0, ()) (fun _ _ => rfl) rfl rfl ⟨by simp, by simp, ⟨_, hyok⟩, hyx, Jb8 hB, by simp⟩ ?_
 intro s t hs
 obtain ⟨hs1, hs2, ⟨us, hsok⟩, hs4, hs5, hs6⟩ := hs
 refine Cs (Nz 2 ?_)
 refine Wk 1 Nc ?_
 refine Wd (Qc (CS.cond rfl ?_ ?_))<;>intro hc3<;>try simp only [bq] at hc3
 ·
  refine Ck (Qc (Cs (Ce (Nz 3 ?_))))
  refine Wk 0 Xc ?_
  refine Wk 0 Ua ?_
  refine WS.callS rfl rfl J3u (fun u hu => Jkk [] [_] G hG hn rb s.2.1 s.2.2.1 hs4 (nth l.l s.1) s.2.2.2.1 hu) (fun _ => rfl) ?_; rintro ⟨y2, f2, t2⟩ ⟨hy2x, ⟨uy2, hy2ok⟩, hf2⟩
  dsimp only at hf2 hy2x hy2ok
  refine Wz 1 ?_
  refine Wd (Qc (CS.cond rfl ?_ ?_))<;>intro hc4<;>try simp only [bq] at hc4
  ·
   have hbd : (Jcc s.2.2.2.1 (nth l.l s.1) && (Jaz G.p s.2.2.1 (nth l.l s.1)).isSome) = false := by rw [Bool.and_eq_false_iff]; exact hc4
   refine Nz 3 ?_
   exact Wd (Qc (Cr (Qs (Qr (Qr (Qs (Qr (out2 rfl rfl rfl (Jab (by rw [Jk4 hB hL (by rw [hs6, Jav hs1 (by omega), Jgs hbd])]))))))))))
  have hgd : (Jcc s.2.2.2.1 (nth l.l s.1) && (Jaz G.p s.2.2.1 (nth l.l s.1)).isSome) = true := by first | exact hc4 | simpa using hc4
  obtain ⟨hT, f3, hf3⟩ := J1t hgd
  obtain ⟨rfl, rfl⟩ := hf2 f3 hT hf3
  refine Ck (Qb (Qc (Ny 1 ?_)))
  refine Wk 1 Za ?_
  exact Wd (QS.head ((s.1 + 1, y2, f2, (nth l.l s.1).t, ())) rfl rfl ⟨⟨by simp; omega, by simp; omega, ⟨_, hy2ok⟩, hy2x, Jk3 hs5 hf3, by rw [hs6, Jav hs1 (by omega), Jef hT hf3]⟩, by simp; omega⟩)
 refine Cv (Qe (Qe (Qx (Qc (Nz 2 ?_)))))
 exact Wd (Qc (Cr (out2 rfl rfl rfl (Jab (by rw [Jq7 hB hL (by rw [hs6, List.drop_of_length_le (by omega), Jb1])])))))
end Go.Proofs.YtohneogdekdboaaGreatDoor
