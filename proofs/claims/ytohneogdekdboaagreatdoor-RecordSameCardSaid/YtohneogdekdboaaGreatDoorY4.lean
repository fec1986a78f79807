/- Merged texts of this proof (walks and plain laws), printed by a program of the prover. -/
import Derived.Test.YtohneogdekdboaaGreatDoorZb
import Derived.Test.YtohneogdekdboaaGreatDoorProg
import Derived.KernelRfl
import Derived.Test.YtohneogdekdboaaGreatDoorZc
import Derived.Test.YtohneogdekdboaaGreatDoorZz
import Derived.Test.YtohneogdekdboaaGreatDoorXa
import Derived.Test.YtohneogdekdboaaGreatDoorXc
import Derived.Test.YtohneogdekdboaaGreatDoorXd
import Derived.Test.YtohneogdekdboaaGreatDoorXe
namespace Go.Proofs.YtohneogdekdboaaGreatDoor
set_option linter.unusedVariables false
set_option linter.unusedSimpArgs false
open Go.RowKit
def Jc7 (G : GP) : List Entr → Film → List (List Int)
 | [], _ => []
 | e :: l, f => match Jaz G f e with
  | some f' => if e.k = 1 then f'.x.1.1 :: Jc7 G l f' else Jc7 G l f'
  | none => []
end Go.Proofs.YtohneogdekdboaaGreatDoor
namespace Go.Proofs.YtohneogdekdboaaGreatDoor
open Go.Proofs
theorem zv88 : zv Tryz.prog 88 = some [.pointer none] := by kernel_rfl
theorem Jpv : Ent Tryz.prog 48 := Jac Tryz.func48 (by kernel_rfl) rfl
theorem J55 : Ent Tryz.prog 49 := Jac Tryz.func49 (by kernel_rfl) rfl
theorem J5z : Ent Tryz.prog 73 := Jac Tryz.func73 (by kernel_rfl) rfl
end Go.Proofs.YtohneogdekdboaaGreatDoor
set_option maxHeartbeats 8000000
namespace Go.Proofs.YtohneogdekdboaaGreatDoor
open Go.RowKit Go.Proofs
set_option maxRecDepth 100000
set_option linter.unusedVariables false
set_option linter.unusedSimpArgs false
theorem Jeq {G : GP} {l : List Entr} (h : (Jaj G l).1 = 0) : (Jah G).1 = 0 ∧ ¬ 500 < (l.length : Int) ∧ ∃ f, Jb1 G l 0 0 (Jax G) = .ok f ∧ Jaj G l = (0, 0, f) := by
 unfold Jaj at h ⊢
 by_cases hb : (Jah G).1 = 0
 ·
  rw [if_pos hb] at h ⊢
  by_cases hl : 500 < (l.length : Int)
  ·
   rw [if_pos hl] at h; cases h
  rw [if_neg hl] at h ⊢
  cases hr : Jb1 G l 0 0 (Jax G) with
  | ok f => exact ⟨hb, hl, f, rfl, rfl⟩
  | error i => rw [hr] at h; cases h
 rw [if_neg hb] at h; exact absurd h hb
theorem Jx8 {G : GP} {e : Entr} {l : List Entr} {f f' : Film} (h : Jaz G f e = some f') (hk : e.k = 1) : Jc7 G (e :: l) f = f'.x.1.1 :: Jc7 G l f' := by
 rw [Jc7, h]; exact if_pos hk
theorem Jyy {G : GP} {e : Entr} {l : List Entr} {f f' : Film} (h : Jaz G f e = some f') (hk : ¬ e.k = 1) : Jc7 G (e :: l) f = Jc7 G l f' := by
 rw [Jc7, h]; exact if_neg hk
section
variable {P : Program} {C : World → Prop} {l : List Value} {d : Option Tmp} {ty : TypeId} {ps : String} {af : Array Edge} {g : Option (Nat × Bool)}
theorem J0m {T T' : TypeId} {x y : Operand} {fn : Go.Fn} {a c : Array Value} {qs rs : Array TypeId} {vd : Bool} (hx : evo l x = some (.func fn a c)) (hy : evo l y = some .nilFunc) (hT : P.underlying T = some (.func qs rs vd)) :
  Det P C ⟨d, .binOp .neq T x y T', ty, ps, af, g⟩ l (.bool true) := fun u _ => by
 (replace hx := Jat hx; replace hy := Jat hy)
 have h : ∀ d : Nat, (Op.equalIn (d + 1) T (.func fn a c) .nilFunc).run P u = .ok false u := fun d => by simp [Op.equalIn, run_underlying hT]
 simp [execOp, Jau, hx, hy, eqGuard, binOp, Op.equal, Op.maxDepth, h 9999]
end
theorem J20 {w u : World} (R : SA) (Z : List (List Int) → SA) (G : Game) (hG : GameOk w G) (hn : NearG G) (g : Sl ByteArray) (hW : GOk w g) (fb : Nat) (y : Pos) (hyx : y.x = (Jah G.p).2) (hB : (Jah G.p).1 = 0) (l : Sl Entr) (hk : SlT cEntry w l) (fn : FuncId) (cap : List Value) (hent : Ent Tryz.prog fn) (hmv : ∀ (acc : List (List Int)) (y : Pos) (f : Film) (u : World), y.x = f.x → posG G.p f.x = 0 → acc.length ≤ 1000 → St w.heap.size w [blk fb [G.rm.pls.v, G.rm.ths.v, G.rm.prs.v, G.rm.wys.v, G.rm.acs.v, G.rm.aus.v, .int .i64 G.rm.ply, G.rm.gl.v, G.lks.v, G.cds.v, G.nts.v, .int .i64 G.tr, y.st.ths.v, y.st.prs.v, y.st.pls.v, y.rd.v, .bool f.st, .int .i64 f.si, .int .i64 f.pa, .int .i64 f.en, .int .i64 f.hi] 94, roS fun u => PosOk u y, Z acc, R] u → Calls Tryz.prog fn cap.toArray u (fun e u' => e = .returned (.tuple #[]) ∧ St w.heap.size w [blk fb [G.rm.pls.v, G.rm.ths.v, G.rm.prs.v, G.rm.wys.v, G.rm.acs.v, G.rm.aus.v, .int .i64 G.rm.ply, G.rm.gl.v, G.lks.v, G.cds.v, G.nts.v, .int .i64 G.tr, y.st.ths.v, y.st.prs.v, y.st.pls.v, y.rd.v, .bool f.st, .int .i64 f.si, .int .i64 f.pa, .int .i64 f.en, .int .i64 f.hi] 94, roS fun u => PosOk u y, Z (acc ++ [f.x.1.1]), R] u')) (hu : St w.heap.size w [blk fb [G.rm.pls.v, G.rm.ths.v, G.rm.prs.v, G.rm.wys.v, G.rm.acs.v, G.rm.aus.v, .int .i64 G.rm.ply, G.rm.gl.v, G.lks.v, G.cds.v, G.nts.v, .int .i64 G.tr, y.st.ths.v, y.st.prs.v, y.st.pls.v, y.rd.v, .bool (Jax G.p).st, .int .i64 (Jax G.p).si, .int .i64 (Jax G.p).pa, .int .i64 (Jax G.p).en, .int .i64 (Jax G.p).hi] 94, roS fun u => PosOk u y, Z [], R] u) :
  Calls Tryz.prog 43 #[.pointer (some ⟨fb, 0, none⟩), l.v, .func (.func fn) #[] cap.toArray] u (fun e u' => ∃ q : Pos × Film × List (List Int), (q.1.x = q.2.1.x ∧ (∃ u0, PosOk u0 q.1) ∧ ((Jaj G.p l.l).1 = 0 → q.2.1 = (Jaj G.p l.l).2.2 ∧ q.2.2 = Jc7 G.p l.l (Jax G.p))) ∧ e = .returned (.tuple #[.int .i64 (Jaj G.p l.l).2.1, .int .i64 (Jaj G.p l.l).1]) ∧ St w.heap.size w [blk fb [G.rm.pls.v, G.rm.ths.v, G.rm.prs.v, G.rm.wys.v, G.rm.acs.v, G.rm.aus.v, .int .i64 G.rm.ply, G.rm.gl.v, G.lks.v, G.cds.v, G.nts.v, .int .i64 G.tr, q.1.st.ths.v, q.1.st.prs.v, q.1.st.pls.v, q.1.rd.v, .bool q.2.1.st, .int .i64 q.2.1.si, .int .i64 q.2.1.pa, .int .i64 q.2.1.en, .int .i64 q.2.1.hi] 94, roS fun u => PosOk u q.1, Z q.2.2, R] u') := by
 have lls := hk.le
 have hyok : PosOk u y := hu.ro (j := 1) rfl
 refine Jd2 hu Tryz.func43 rfl rfl (Nat.le_of_ble_eq_true rfl) ?_
 refine Nz 2 ?_
 refine Wd (Qc (Cs (Nz 1 ?_)))
 refine Wk 1 Nc ?_
 refine Wd (Qc (CS.cond rfl ?_ ?_))<;>intro hc1<;>try simp only [bq] at hc1
 ·
  have hfv : (Jaj G.p l.l) = (2, 0, Jax G.p) := Jqc hB (by omega)
  refine Nz 2 ?_
  exact Wd (Qc (Cr (Qr (out2 rfl rfl rfl (fun u hu => ⟨(y, (Jax G.p), []), ⟨hyx, ⟨u, hu.ro (j := 1) rfl⟩, fun h9 ↦ by rw [hfv] at h9; simp at h9⟩, by rw [hfv], hu.sel [0, 0, 0, 0] rfl⟩)))))
 have hL : ¬ 500 < (l.l.length : Int) := by omega
 refine Ck (Qc (Nz 1 ?_))
 refine Wd (Qc (Cs (Nz 1 ?_)))
 refine Wk 1 Nc ?_
 refine Wd (Qc (Ce ?_))
 refine CS.loopM (σ := Int × Pos × Film × Int × List (List Int)) [6, 7, 9, 10, 17, 18, 19, 20, 21, 22, 23, 24, 25, 26, 27, 28, 29, 30, 31, 32, 33, 34, 35, 36, 37, 38, 39, 40, 41, 42, 43, 44] (fun s => [(16, .int .i64 s.1), (8, .int .i64 s.2.2.2.1)]) (fun s => [blk fb [G.rm.pls.v, G.rm.ths.v, G.rm.prs.v, G.rm.wys.v, G.rm.acs.v, G.rm.aus.v, .int .i64 G.rm.ply, G.rm.gl.v, G.lks.v, G.cds.v, G.nts.v, .int .i64 G.tr, s.2.1.st.ths.v, s.2.1.st.prs.v, s.2.1.st.pls.v, s.2.1.rd.v, .bool s.2.2.1.st, .int .i64 s.2.2.1.si, .int .i64 s.2.2.1.pa, .int .i64 s.2.2.1.en, .int .i64 s.2.2.1.hi] 94, roS fun u => PosOk u s.2.1, Z s.2.2.2.2, R]) (fun s => 0 ≤ s.1 ∧ s.1 ≤ l.l.length ∧ (∃ u0, PosOk u0 s.2.1) ∧ s.2.1.x = s.2.2.1.x ∧ FilmOk G s.2.2.1 s.2.2.2.1 s.1 ∧ Jb1 G.p l.l 0 0 (Jax G.p) = Jb1 G.p (l.l.drop s.1.toNat) s.1 s.2.2.2.1 s.2.2.1 ∧ Jc7 G.p l.l (Jax G.p) = s.2.2.2.2 ++ Jc7 G.p (l.l.drop s.1.toNat) s.2.2.1 ∧ s.2.2.2.2.length ≤ s.1.toNat) (fun s => (l.l.length - s.1).toNat) (0, y, Jax G.p, 0, []) (fun _ _ => rfl) rfl rfl ⟨by simp, by simp, ⟨_, hyok⟩, hyx, Jgw hB, by simp, by simp, by simp⟩ ?_
 intro s t hs
 obtain ⟨hs1, hs2, ⟨us, hsok⟩, hs4, hs5, hs6, hs7, hs8⟩ := hs
 refine Nz 1 ?_
 refine Wd (Qc (Cs (CS.cond rfl ?_ ?_)))<;>intro hc2<;>try simp only [bq] at hc2
 ·
  refine Ck (Qc (Cs (Ce (Nz 1 ?_))))
  refine Wk 0 Xc ?_
  refine Wk 0 Ua ?_
  refine Wl 1 zv73 (fun _ => rfl) (fun _ => rfl) fun b10 hb10 => ?_
  refine Wv 0 0 ?_
  refine Wd (Qc (Cs (Cs ?_)))
  rcases Bool.eq_false_or_eq_true (!(decide (s.2.2.2.1 ≤ (nth l.l s.1).t) && decide ((nth l.l s.1).t ≤ 1000000))) with hb | hb
  ·
   refine Ny 1 ?_
   refine Wk 1 (Ba 0) ?_
   refine Wk 1 (Cb rfl rfl Jnt (fun u hu => Jdh _ _ _ u)) ?_
   refine Wk 0 (Jcd (v := .bool true) (congrArg (fun b => some (Value.bool b)) hb)) ?_
   refine Wf 0 rfl rfl (fun hg => Fy_ (by cases hg)) ?_
   refine Wf 0 rfl rfl (fun hg => Fy_ (by cases hg)) ?_
   refine Wf 0 rfl rfl (fun hg => Fy_ (by cases hg)) ?_
   refine Wf 0 rfl rfl (fun hg => Fz_ (by cases hg)) ?_
   refine Wk 0 Po ?_
   refine Wd (Qc (CS.cond rfl ?_ ?_))<;>intro hc3<;>try simp only [bq] at hc3
   ·
    have hTn : Jcc s.2.2.2.1 (nth l.l s.1) = false := by unfold Jcc; simp at hb ⊢; omega
    have hbd : (Jcc s.2.2.2.1 (nth l.l s.1) && (Jaz G.p s.2.2.1 (nth l.l s.1)).isSome) = false := by rw [hTn]; rfl
    have hfv : (Jaj G.p l.l) = (120, s.1, Jax G.p) := Jk4 hB hL (by rw [hs6, Jav hs1 (by omega), Jgs hbd])
    refine Nz 3 ?_
    exact Wd (Qc (Cr (Qr (Qs (Qr (Qr (Qs (Qr (out2 rfl rfl rfl (fun u hu => (by first | exact ⟨(s.2.1, s.2.2.1, s.2.2.2.2), ⟨hs4, ⟨u, hu.ro (j := 2) rfl⟩, fun h9 ↦ by rw [hfv] at h9; simp at h9⟩, by rw [hfv], hu.sel [1, 1, 1, 1] rfl⟩ | exact ⟨(y2, f2, s.2.2.2.2), ⟨hy2x, ⟨u, hu.ro (j := 2) rfl⟩, fun h9 ↦ by rw [hfv] at h9; simp at h9⟩, by rw [hfv], hu.sel [1, 1, 1, 1] rfl⟩)))))))))))
   exact absurd hc3 (by simp)
  have hT : Jcc s.2.2.2.1 (nth l.l s.1) = true := by unfold Jcc; simpa using hb
  refine Ny 1 ?_
  refine Wk 1 (Ba 0) ?_
  refine Wk 1 (Cb rfl rfl Jnt (fun u hu => Jdh _ _ _ u)) ?_
  refine Wk 0 (Jcd (v := .bool false) (congrArg (fun b => some (Value.bool b)) hb)) ?_
  refine Wf 0 rfl rfl (fun hg => Fm) ?_
  refine Wf 0 rfl rfl (fun hg => Bb 0) ?_
  refine WS.callSg (want := false) (j := 5) rfl rfl rfl J6g (fun u hu => Js2 [_] [_, _] G hG hn g hW fb s.2.1 s.2.2.1 hs4 (nth l.l s.1) s.2.2.2.1 s.1 hs5 hT (by omega) hu) (fun _ => rfl) ?_; rintro ⟨y2, f2⟩ ⟨hy2x, ⟨uy2, hy2ok⟩, hf2⟩
  dsimp only at hf2 hy2x hy2ok
  refine Wf 0 rfl rfl (fun hg => Fn) ?_
  refine Wk 0 Po ?_
  refine Wd (Qc (CS.cond rfl ?_ ?_))<;>intro hc3<;>try simp only [bq] at hc3
  ·
   have hbd : (Jcc s.2.2.2.1 (nth l.l s.1) && (Jaz G.p s.2.2.1 (nth l.l s.1)).isSome) = false := by rw [hT, Bool.true_and]; simpa using hc3
   have hfv : (Jaj G.p l.l) = (120, s.1, Jax G.p) := Jk4 hB hL (by rw [hs6, Jav hs1 (by omega), Jgs hbd])
   refine Nz 3 ?_
   exact Wd (Qc (Cr (Qr (Qs (Qr (Qr (Qs (Qr (out2 rfl rfl rfl (fun u hu => (by first | exact ⟨(s.2.1, s.2.2.1, s.2.2.2.2), ⟨hs4, ⟨u, hu.ro (j := 2) rfl⟩, fun h9 ↦ by rw [hfv] at h9; simp at h9⟩, by rw [hfv], hu.sel [1, 1, 1, 1] rfl⟩ | exact ⟨(y2, f2, s.2.2.2.2), ⟨hy2x, ⟨u, hu.ro (j := 2) rfl⟩, fun h9 ↦ by rw [hfv] at h9; simp at h9⟩, by rw [hfv], hu.sel [1, 1, 1, 1] rfl⟩)))))))))))
  have hgd : (Jaz G.p s.2.2.1 (nth l.l s.1)).isSome = true := by first | exact hc3 | simpa using hc3
  obtain ⟨f3, hf3⟩ := Option.isSome_iff_exists.1 hgd
  obtain rfl := hf2 f3 hf3
  have hF2 := hs5.next hT hf3
  refine Ck (Qc (Nz 1 ?_))
  refine Wk 1 (Ba 0) ?_
  refine Wd (Qc (Nz 1 ?_))
  refine Wk 2 (Ba 0) ?_
  refine Wt 0 rfl rfl (fun hg => Fm) ?_
  refine Wt 0 rfl rfl (fun hg => J0m (eg_ hg rfl) rfl Tryz.underlying1) ?_
  refine Wk 0 Pa ?_
  refine Wd (Qc (CS.cond rfl ?_ ?_))<;>intro hc4<;>try simp only [bq] at hc4
  ·
   have hk1 : (nth l.l s.1).k = 1 := by first | exact hc4 | simpa using hc4
   refine Ny 1 ?_
   refine WS.sel [1, 1, 1, 1] rfl ?_
   refine WS.callS (β := Unit) (p := fun _ => True) (v := fun _ => .tuple #[]) (L' := fun _ => [blk fb [G.rm.pls.v, G.rm.ths.v, G.rm.prs.v, G.rm.wys.v, G.rm.acs.v, G.rm.aus.v, .int .i64 G.rm.ply, G.rm.gl.v, G.lks.v, G.cds.v, G.nts.v, .int .i64 G.tr, y2.st.ths.v, y2.st.prs.v, y2.st.pls.v, y2.rd.v, .bool f2.st, .int .i64 f2.si, .int .i64 f2.pa, .int .i64 f2.en, .int .i64 f2.hi] 94, roS fun u => PosOk u y2, Z (s.2.2.2.2 ++ [f2.x.1.1]), R]) rfl rfl hent (fun u hu => Calls.mono (hmv s.2.2.2.2 y2 f2 u hy2x hF2.pos (by omega) hu) fun e u2 h => ⟨(), trivial, h.1, h.2⟩) (fun _ => rfl) ?_; rintro ⟨⟩ -
   refine Wd (Qb (Qc (Ny 0 ?_)))
   refine Wk 1 Za ?_
   exact Wd (QS.head ((s.1 + 1, y2, f2, (nth l.l s.1).t, s.2.2.2.2 ++ [f2.x.1.1])) rfl rfl ⟨⟨by simp; omega, by simp; omega, ⟨_, hy2ok⟩, hy2x, hF2, by rw [hs6, Jav hs1 (by omega), Jef hT hf3], by rw [hs7, Jav hs1 (by omega), Jx8 hf3 hk1, List.append_assoc]; rfl, by simp; omega⟩, by simp; omega⟩)
  have hk1 : ¬ (nth l.l s.1).k = 1 := by first | exact hc4 | simpa using hc4
  refine Ck (Qb (Qc (Ny 0 ?_)))
  refine Wk 1 Za ?_
  refine Wd ?_
  refine QS.sel [1, 1, 1, 1] rfl ?_
  exact QS.head ((s.1 + 1, y2, f2, (nth l.l s.1).t, s.2.2.2.2)) rfl rfl ⟨⟨by simp; omega, by simp; omega, ⟨_, hy2ok⟩, hy2x, hF2, by rw [hs6, Jav hs1 (by omega), Jef hT hf3], by rw [hs7, Jav hs1 (by omega), Jyy hf3 hk1], by simp; omega⟩, by simp; omega⟩
 have hrl : Jb1 G.p l.l 0 0 (Jax G.p) = .ok s.2.2.1 := by rw [hs6, List.drop_of_length_le (by omega), Jb1]
 have hfv : (Jaj G.p l.l) = (0, 0, s.2.2.1) := Jq7 hB hL hrl
 refine Cv (Qe (Qe (Qx (Qc (Nz 2 ?_)))))
 exact Wd (Qc (Cr (out2 rfl rfl rfl (fun u hu => ⟨(s.2.1, s.2.2.1, s.2.2.2.2), ⟨hs4, ⟨u, hu.ro (j := 1) rfl⟩, fun h9 ↦ by rw [hfv]; exact ⟨rfl, by rw [hs7, List.drop_of_length_le (by omega), Jc7, List.append_nil]⟩⟩, by rw [hfv], hu.sel [0, 0, 0, 0] rfl⟩))))
theorem Jti {w u : World} (Z : List (List Int) → SA) (R : SA) (G : Game) (fb b5 b8 : Nat) (y : Pos) (f : Film) (hyx : y.x = f.x) (hq : posG G.p f.x = 0) (acc : List (List Int)) (hac : acc.length ≤ 1000) (fn : FuncId) (cap : List Value) (hent : Ent Tryz.prog fn) (hmv : ∀ (R : SA) (fb : Nat) (acc : List (List Int)) (y : Pos) (f : Film) (u : World), y.x = f.x → posG G.p f.x = 0 → acc.length ≤ 1000 → St w.heap.size w [blk fb [G.rm.pls.v, G.rm.ths.v, G.rm.prs.v, G.rm.wys.v, G.rm.acs.v, G.rm.aus.v, .int .i64 G.rm.ply, G.rm.gl.v, G.lks.v, G.cds.v, G.nts.v, .int .i64 G.tr, y.st.ths.v, y.st.prs.v, y.st.pls.v, y.rd.v, .bool f.st, .int .i64 f.si, .int .i64 f.pa, .int .i64 f.en, .int .i64 f.hi] 94, roS fun u => PosOk u y, Z acc, R] u → Calls Tryz.prog fn (.pointer (some ⟨fb, 0, none⟩) :: cap).toArray u (fun e u' => e = .returned (.tuple #[]) ∧ St w.heap.size w [blk fb [G.rm.pls.v, G.rm.ths.v, G.rm.prs.v, G.rm.wys.v, G.rm.acs.v, G.rm.aus.v, .int .i64 G.rm.ply, G.rm.gl.v, G.lks.v, G.cds.v, G.nts.v, .int .i64 G.tr, y.st.ths.v, y.st.prs.v, y.st.pls.v, y.rd.v, .bool f.st, .int .i64 f.si, .int .i64 f.pa, .int .i64 f.en, .int .i64 f.hi] 94, roS fun u => PosOk u y, Z (acc ++ [f.x.1.1]), R] u')) (hu : St w.heap.size w [blk fb [G.rm.pls.v, G.rm.ths.v, G.rm.prs.v, G.rm.wys.v, G.rm.acs.v, G.rm.aus.v, .int .i64 G.rm.ply, G.rm.gl.v, G.lks.v, G.cds.v, G.nts.v, .int .i64 G.tr, y.st.ths.v, y.st.prs.v, y.st.pls.v, y.rd.v, .bool f.st, .int .i64 f.si, .int .i64 f.pa, .int .i64 f.en, .int .i64 f.hi] 94, roS fun u => PosOk u y, Z acc, star [blk b8 [.pointer (some ⟨fb, 0, none⟩)] 88, blk b5 [.func (.func fn) #[] cap.toArray] 108, R]] u) :
  Calls Tryz.prog 73 #[.pointer (some ⟨b5, 0, none⟩), .pointer (some ⟨b8, 0, none⟩)] u (fun e u' => e = .returned (.tuple #[]) ∧ St w.heap.size w [blk fb [G.rm.pls.v, G.rm.ths.v, G.rm.prs.v, G.rm.wys.v, G.rm.acs.v, G.rm.aus.v, .int .i64 G.rm.ply, G.rm.gl.v, G.lks.v, G.cds.v, G.nts.v, .int .i64 G.tr, y.st.ths.v, y.st.prs.v, y.st.pls.v, y.rd.v, .bool f.st, .int .i64 f.si, .int .i64 f.pa, .int .i64 f.en, .int .i64 f.hi] 94, roS fun u => PosOk u y, Z (acc ++ [f.x.1.1]), star [blk b8 [.pointer (some ⟨fb, 0, none⟩)] 88, blk b5 [.func (.func fn) #[] cap.toArray] 108, R]] u') := by
 refine Jd2 (hu.sel [3, 0, 0, 0] rfl).unpack Tryz.func73 rfl rfl (Nat.le_of_ble_eq_true rfl) ?_
 refine Ny 0 ?_
 refine Wk 0 (Ba 1) ?_
 refine Wk 0 (Ba 0) ?_
 refine WS.callS (β := Unit) (p := fun _ => True) (v := fun _ => .tuple #[]) (L' := fun _ => [blk fb [G.rm.pls.v, G.rm.ths.v, G.rm.prs.v, G.rm.wys.v, G.rm.acs.v, G.rm.aus.v, .int .i64 G.rm.ply, G.rm.gl.v, G.lks.v, G.cds.v, G.nts.v, .int .i64 G.tr, y.st.ths.v, y.st.prs.v, y.st.pls.v, y.rd.v, .bool f.st, .int .i64 f.si, .int .i64 f.pa, .int .i64 f.en, .int .i64 f.hi] 94, roS fun u => PosOk u y, Z (acc ++ [f.x.1.1]), star [blk b8 [.pointer (some ⟨fb, 0, none⟩)] 88, blk b5 [.func (.func fn) #[] cap.toArray] 108, R]]) rfl rfl hent (fun u hu => Calls.mono (hmv _ fb acc y f u hyx hq hac ((St.pack (L1 := [_, _, _]) hu).sel [1, 1, 1, 0] rfl)) fun e u2 h => ⟨(), trivial, h.1, h.2⟩) (fun _ => rfl) ?_; rintro ⟨⟩ -
 exact Wd (out0 (Or.inr rfl) rfl (fun u hu => ⟨rfl, hu⟩))
theorem Jv3 {w u : World} (Z : List (List Int) → SA) (R : SA) (G : Game) (hG : GameOk w G) (hn : NearG G) (g : Sl ByteArray) (hW : GOk w g) (l : Sl Entr) (hk : SlT cEntry w l) (fn : FuncId) (cap : List Value) (hent : Ent Tryz.prog fn) (hmv : ∀ (R : SA) (fb : Nat) (acc : List (List Int)) (y : Pos) (f : Film) (u : World), y.x = f.x → posG G.p f.x = 0 → acc.length ≤ 1000 → St w.heap.size w [blk fb [G.rm.pls.v, G.rm.ths.v, G.rm.prs.v, G.rm.wys.v, G.rm.acs.v, G.rm.aus.v, .int .i64 G.rm.ply, G.rm.gl.v, G.lks.v, G.cds.v, G.nts.v, .int .i64 G.tr, y.st.ths.v, y.st.prs.v, y.st.pls.v, y.rd.v, .bool f.st, .int .i64 f.si, .int .i64 f.pa, .int .i64 f.en, .int .i64 f.hi] 94, roS fun u => PosOk u y, Z acc, R] u → Calls Tryz.prog fn (.pointer (some ⟨fb, 0, none⟩) :: cap).toArray u (fun e u' => e = .returned (.tuple #[]) ∧ St w.heap.size w [blk fb [G.rm.pls.v, G.rm.ths.v, G.rm.prs.v, G.rm.wys.v, G.rm.acs.v, G.rm.aus.v, .int .i64 G.rm.ply, G.rm.gl.v, G.lks.v, G.cds.v, G.nts.v, .int .i64 G.tr, y.st.ths.v, y.st.prs.v, y.st.pls.v, y.rd.v, .bool f.st, .int .i64 f.si, .int .i64 f.pa, .int .i64 f.en, .int .i64 f.hi] 94, roS fun u => PosOk u y, Z (acc ++ [f.x.1.1]), R] u')) (hE : (Jaj G.p l.l).1 = 0) (hu : St w.heap.size w [Z [], R] u) :
  Calls Tryz.prog 48 #[.agg #[G.rm.pls.v, G.rm.ths.v, G.rm.prs.v, G.rm.wys.v, G.rm.acs.v, G.rm.aus.v, .int .i64 G.rm.ply, G.rm.gl.v, G.lks.v, G.cds.v, G.nts.v, .int .i64 G.tr], l.v, .func (.func fn) #[] cap.toArray] u (fun e u' => ∃ x : Nat × Pos, (x.2.x = (Jaj G.p l.l).2.2.x ∧ ∃ u0, PosOk u0 x.2) ∧ e = .returned (.tuple #[.pointer (some ⟨x.1, 0, none⟩), .int .i64 0]) ∧ St w.heap.size w ([blk x.1 [G.rm.pls.v, G.rm.ths.v, G.rm.prs.v, G.rm.wys.v, G.rm.acs.v, G.rm.aus.v, .int .i64 G.rm.ply, G.rm.gl.v, G.lks.v, G.cds.v, G.nts.v, .int .i64 G.tr, x.2.st.ths.v, x.2.st.prs.v, x.2.st.pls.v, x.2.rd.v, .bool (Jaj G.p l.l).2.2.st, .int .i64 (Jaj G.p l.l).2.2.si, .int .i64 (Jaj G.p l.l).2.2.pa, .int .i64 (Jaj G.p l.l).2.2.en, .int .i64 (Jaj G.p l.l).2.2.hi] 94, roS fun u => PosOk u x.2, Z (Jc7 G.p l.l (Jax G.p)), R]) u') := by
 have hB := (Jeq hE).1
 refine Jd2 hu Tryz.func48 rfl rfl (Nat.le_of_ble_eq_true rfl) ?_
 refine Nz 0 ?_
 refine Wb 0 rfl rfl (fun _ => rfl) (fun _ => rfl) fun b3 hb3 => ?_
 refine Wb 2 rfl rfl (fun _ => rfl) (fun _ => rfl) fun b5 hb5 => ?_
 refine Wd (Qc (Nz 0 ?_))
 refine Wk 0 (Bb 1) ?_
 refine Wc rfl rfl Jre (fun u hu => Jii G u (hG.st hu) hn g (hW.st hu) hB) (fun _ => rfl) ?_; rintro ⟨fb, y⟩ ⟨hyx, uy, hyok⟩
 refine WS.unpack ?_
 refine Wz 3 ?_
 refine Wl 0 zv88 (fun _ => rfl) (fun _ => rfl) fun b8 hb8 => ?_
 refine Ws 1 0 ?_
 refine Wd (Qc (Cs (Nz 2 ?_)))
 refine Wd (Qc (CS.cond rfl ?_ ?_))<;>intro hc1<;>try simp only [bq] at hc1
 ·
  exact absurd trivial hc1
 refine Ck (Qc (Cs (Nz 0 ?_)))
 refine Wk 1 (Ba 0) ?_
 refine Wk 0 (Jaq rfl) ?_
 refine WS.sel [4, 5, 1, 1, 2, 0, 0] rfl ?_
 refine WS.weak (fun u hu => St.pack (L1 := [_, _]) hu) ?_
 refine WS.sel [4, 4, 0, 0, 0, 0] rfl ?_
 refine WS.weak (fun u hu => St.pack (L1 := [_, _, _]) hu) ?_
 refine WS.sel [1, 1, 1, 0] rfl ?_
 refine WS.callS rfl rfl J5t (fun u hu => J20 _ Z G hG hn g hW fb y hyx hB l hk 73 [.pointer (some ⟨b5, 0, none⟩), .pointer (some ⟨b8, 0, none⟩)] J5z (fun acc y f u hyx hq hac hu => Jti Z _ G fb b5 b8 y f hyx hq acc hac fn cap hent hmv hu) hu) (fun _ => rfl) ?_; rintro ⟨y2, f2, rows⟩ ⟨hy2x, ⟨uy2, hy2ok⟩, hfin⟩
 dsimp only at hfin hy2x hy2ok
 refine WS.sel [3, 0, 0, 0] rfl ?_
 refine WS.unpack ?_
 refine Wz 5 ?_
 refine Wd (Qc (Nz 2 ?_))
 refine Wd (Qc (CS.cond rfl ?_ ?_))<;>intro hc2<;>try simp only [bq] at hc2
 ·
  exact absurd hE hc2
 obtain ⟨rfl, rfl⟩ := hfin hE
 refine Ck (Qc (Nz 0 ?_))
 refine Wk 2 (Ba 0) ?_
 exact Wd (Qc (Cr (out2 rfl rfl rfl (fun u hu => ⟨(fb, y2), ⟨hy2x, uy2, hy2ok⟩, rfl, (((hu.sel [2, 2, 2, 2] rfl).unpack).sel [2, 2, 2, 1] rfl)⟩))))
theorem Jum {w u : World} (Z : List (List Int) → SA) (R : SA) (G : Game) (hG : GameOk w G) (hn : NearG G) (g : Sl ByteArray) (hW : GOk w g) (l : Sl Entr) (hk : SlT cEntry w l) (fn : FuncId) (cap : List Value) (hent : Ent Tryz.prog fn) (hmv : ∀ (R : SA) (fb : Nat) (acc : List (List Int)) (y : Pos) (f : Film) (u : World), y.x = f.x → posG G.p f.x = 0 → acc.length ≤ 1000 → St w.heap.size w [blk fb [G.rm.pls.v, G.rm.ths.v, G.rm.prs.v, G.rm.wys.v, G.rm.acs.v, G.rm.aus.v, .int .i64 G.rm.ply, G.rm.gl.v, G.lks.v, G.cds.v, G.nts.v, .int .i64 G.tr, y.st.ths.v, y.st.prs.v, y.st.pls.v, y.rd.v, .bool f.st, .int .i64 f.si, .int .i64 f.pa, .int .i64 f.en, .int .i64 f.hi] 94, roS fun u => PosOk u y, Z acc, R] u → Calls Tryz.prog fn (.pointer (some ⟨fb, 0, none⟩) :: cap).toArray u (fun e u' => e = .returned (.tuple #[]) ∧ St w.heap.size w [blk fb [G.rm.pls.v, G.rm.ths.v, G.rm.prs.v, G.rm.wys.v, G.rm.acs.v, G.rm.aus.v, .int .i64 G.rm.ply, G.rm.gl.v, G.lks.v, G.cds.v, G.nts.v, .int .i64 G.tr, y.st.ths.v, y.st.prs.v, y.st.pls.v, y.rd.v, .bool f.st, .int .i64 f.si, .int .i64 f.pa, .int .i64 f.en, .int .i64 f.hi] 94, roS fun u => PosOk u y, Z (acc ++ [f.x.1.1]), R] u')) (hE : ¬ (Jaj G.p l.l).1 = 0) (hB : (Jah G.p).1 = 0) (hu : St w.heap.size w [Z [], R] u) :
  Calls Tryz.prog 48 #[.agg #[G.rm.pls.v, G.rm.ths.v, G.rm.prs.v, G.rm.wys.v, G.rm.acs.v, G.rm.aus.v, .int .i64 G.rm.ply, G.rm.gl.v, G.lks.v, G.cds.v, G.nts.v, .int .i64 G.tr], l.v, .func (.func fn) #[] cap.toArray] u (fun e u' => ∃ acc : List (List Int), True ∧ e = .returned (.tuple #[.pointer none, .int .i64 (Jaj G.p l.l).1]) ∧ St w.heap.size w ([Z acc, R]) u') := by
 refine Jd2 hu Tryz.func48 rfl rfl (Nat.le_of_ble_eq_true rfl) ?_
 refine Nz 0 ?_
 refine Wb 0 rfl rfl (fun _ => rfl) (fun _ => rfl) fun b3 hb3 => ?_
 refine Wb 2 rfl rfl (fun _ => rfl) (fun _ => rfl) fun b5 hb5 => ?_
 refine Wd (Qc (Nz 0 ?_))
 refine Wk 0 (Bb 1) ?_
 refine Wc rfl rfl Jre (fun u hu => Jii G u (hG.st hu) hn g (hW.st hu) hB) (fun _ => rfl) ?_; rintro ⟨fb, y⟩ ⟨hyx, uy, hyok⟩
 refine WS.unpack ?_
 refine Wz 3 ?_
 refine Wl 0 zv88 (fun _ => rfl) (fun _ => rfl) fun b8 hb8 => ?_
 refine Ws 1 0 ?_
 refine Wd (Qc (Cs (Nz 2 ?_)))
 refine Wd (Qc (CS.cond rfl ?_ ?_))<;>intro hc1<;>try simp only [bq] at hc1
 ·
  exact absurd trivial hc1
 refine Ck (Qc (Cs (Nz 0 ?_)))
 refine Wk 1 (Ba 0) ?_
 refine Wk 0 (Jaq rfl) ?_
 refine WS.sel [4, 5, 1, 1, 2, 0, 0] rfl ?_
 refine WS.weak (fun u hu => St.pack (L1 := [_, _]) hu) ?_
 refine WS.sel [4, 4, 0, 0, 0, 0] rfl ?_
 refine WS.weak (fun u hu => St.pack (L1 := [_, _, _]) hu) ?_
 refine WS.sel [1, 1, 1, 0] rfl ?_
 refine WS.callS rfl rfl J5t (fun u hu => J20 _ Z G hG hn g hW fb y hyx hB l hk 73 [.pointer (some ⟨b5, 0, none⟩), .pointer (some ⟨b8, 0, none⟩)] J5z (fun acc y f u hyx hq hac hu => Jti Z _ G fb b5 b8 y f hyx hq acc hac fn cap hent hmv hu) hu) (fun _ => rfl) ?_; rintro ⟨y2, f2, rows⟩ ⟨hy2x, ⟨uy2, hy2ok⟩, hfin⟩
 dsimp only at hfin hy2x hy2ok
 refine WS.sel [3, 0, 0, 0] rfl ?_
 refine WS.unpack ?_
 refine Wz 5 ?_
 refine Wd (Qc (Nz 2 ?_))
 refine Wd (Qc (CS.cond rfl ?_ ?_))<;>intro hc2<;>try simp only [bq] at hc2
 ·
  refine Nz 3 ?_
  exact Wd (Qc (Cr (Qr (out2 rfl rfl rfl (fun u hu => ⟨rows, trivial, rfl, ((((hu.sel [2, 2, 2, 2] rfl).unpack).sel [2, 2, 2, 1] rfl)).sel [2, 2] rfl⟩)))))
 exact absurd hc2 hE
theorem Jvf {w u : World} (Z : List (List Int) → SA) (R : SA) (G : Game) (hG : GameOk w G) (hn : NearG G) (g : Sl ByteArray) (hW : GOk w g) (l : Sl Entr) (hk : SlT cEntry w l) (fn : FuncId) (cap : List Value) (hent : Ent Tryz.prog fn) (hmv : ∀ (R : SA) (fb : Nat) (acc : List (List Int)) (y : Pos) (f : Film) (u : World), y.x = f.x → posG G.p f.x = 0 → acc.length ≤ 1000 → St w.heap.size w [blk fb [G.rm.pls.v, G.rm.ths.v, G.rm.prs.v, G.rm.wys.v, G.rm.acs.v, G.rm.aus.v, .int .i64 G.rm.ply, G.rm.gl.v, G.lks.v, G.cds.v, G.nts.v, .int .i64 G.tr, y.st.ths.v, y.st.prs.v, y.st.pls.v, y.rd.v, .bool f.st, .int .i64 f.si, .int .i64 f.pa, .int .i64 f.en, .int .i64 f.hi] 94, roS fun u => PosOk u y, Z acc, R] u → Calls Tryz.prog fn (.pointer (some ⟨fb, 0, none⟩) :: cap).toArray u (fun e u' => e = .returned (.tuple #[]) ∧ St w.heap.size w [blk fb [G.rm.pls.v, G.rm.ths.v, G.rm.prs.v, G.rm.wys.v, G.rm.acs.v, G.rm.aus.v, .int .i64 G.rm.ply, G.rm.gl.v, G.lks.v, G.cds.v, G.nts.v, .int .i64 G.tr, y.st.ths.v, y.st.prs.v, y.st.pls.v, y.rd.v, .bool f.st, .int .i64 f.si, .int .i64 f.pa, .int .i64 f.en, .int .i64 f.hi] 94, roS fun u => PosOk u y, Z (acc ++ [f.x.1.1]), R] u')) (hB : ¬ (Jah G.p).1 = 0) (hu : St w.heap.size w [Z [], R] u) :
  Calls Tryz.prog 48 #[.agg #[G.rm.pls.v, G.rm.ths.v, G.rm.prs.v, G.rm.wys.v, G.rm.acs.v, G.rm.aus.v, .int .i64 G.rm.ply, G.rm.gl.v, G.lks.v, G.cds.v, G.nts.v, .int .i64 G.tr], l.v, .func (.func fn) #[] cap.toArray] u (fun e u' => ∃ acc : List (List Int), True ∧ e = .returned (.tuple #[.pointer none, .int .i64 (Jaj G.p l.l).1]) ∧ St w.heap.size w ([Z acc, R]) u') := by
 refine Jd2 hu Tryz.func48 rfl rfl (Nat.le_of_ble_eq_true rfl) ?_
 refine Nz 0 ?_
 refine Wb 0 rfl rfl (fun _ => rfl) (fun _ => rfl) fun b3 hb3 => ?_
 refine Wb 2 rfl rfl (fun _ => rfl) (fun _ => rfl) fun b5 hb5 => ?_
 refine Wd (Qc (Nz 0 ?_))
 refine Wk 0 (Bb 1) ?_
 refine Wk 3 (Cb rfl rfl Jre (fun u hu => Jk9 G u (hG.st hu) hn g (hW.st hu) hB)) ?_
 refine Wl 0 zv88 (fun _ => rfl) (fun _ => rfl) fun b8 hb8 => ?_
 refine Ws 1 0 ?_
 refine Wd (Qc (Cs (Nz 2 ?_)))
 refine Wd (Qc (CS.cond rfl ?_ ?_))<;>intro hc1<;>try simp only [bq] at hc1
 ·
  refine Nz 3 ?_
  exact Wd (Qc (Cr (Qr (out2 rfl rfl rfl (fun u hu => ⟨[], trivial, by rw [Jr0 hB], hu.sel [3, 3] rfl⟩)))))
 exact absurd hc1 hB
theorem Jy8 (fb : Nat) (w : World) : Calls Tryz.prog 49 #[.pointer (some ⟨fb, 0, none⟩)] w (RetB w (.tuple #[])) := by
 refine enter Tryz.func49 rfl rfl (Nat.le_of_ble_eq_true rfl) ?_
 exact Ck (out0 (Or.inr rfl) rfl retB)
section
variable {n0 : Nat} {w0 u : World} {L : List SA} {a t z : SA}
theorem St.rest1 (h : St n0 w0 (a :: L) u) : St n0 w0 [a, Go.Proofs.YtohneogdekdboaaGreatDoor.star L] u := by
 have h1 : St n0 w0 (L ++ [a]) u := h.perm (List.perm_append_comm (l₁ := [a]))
 exact h1.pack.perm (List.Perm.swap _ _ _)
theorem St.unrest1 (h : St n0 w0 [a, Go.Proofs.YtohneogdekdboaaGreatDoor.star L] u) : St n0 w0 (a :: L) u := by
 have h1 : St n0 w0 (Go.Proofs.YtohneogdekdboaaGreatDoor.star L :: [a]) u := h.perm (List.Perm.swap _ _ _)
 exact h1.unpack.perm List.perm_append_comm
theorem St.unrest3 (h : St n0 w0 [t, a, z, Go.Proofs.YtohneogdekdboaaGreatDoor.star L] u) : St n0 w0 (t :: a :: z :: L) u := by
 have h1 : St n0 w0 (Go.Proofs.YtohneogdekdboaaGreatDoor.star L :: [t, a, z]) u := h.perm (List.perm_append_comm (l₁ := [t, a, z]) (l₂ := [Go.Proofs.YtohneogdekdboaaGreatDoor.star L]))
 exact h1.unpack.perm List.perm_append_comm
end
theorem Jl4 {w u : World} (Z : List (List Int) → SA) (G : Game) (hG : GameOk w G) (hn : NearG G) (g : Sl ByteArray) (hW : GOk w g) (l : Sl Entr) (hk : SlT cEntry w l) (fn : FuncId) (cap : List Value) (hent : Ent Tryz.prog fn) (hmv : ∀ (R : SA) (fb : Nat) (acc : List (List Int)) (y : Pos) (f : Film) (u : World), y.x = f.x → posG G.p f.x = 0 → acc.length ≤ 1000 → St w.heap.size w [blk fb [G.rm.pls.v, G.rm.ths.v, G.rm.prs.v, G.rm.wys.v, G.rm.acs.v, G.rm.aus.v, .int .i64 G.rm.ply, G.rm.gl.v, G.lks.v, G.cds.v, G.nts.v, .int .i64 G.tr, y.st.ths.v, y.st.prs.v, y.st.pls.v, y.rd.v, .bool f.st, .int .i64 f.si, .int .i64 f.pa, .int .i64 f.en, .int .i64 f.hi] 94, roS fun u => PosOk u y, Z acc, R] u → Calls Tryz.prog fn (.pointer (some ⟨fb, 0, none⟩) :: cap).toArray u (fun e u' => e = .returned (.tuple #[]) ∧ St w.heap.size w [blk fb [G.rm.pls.v, G.rm.ths.v, G.rm.prs.v, G.rm.wys.v, G.rm.acs.v, G.rm.aus.v, .int .i64 G.rm.ply, G.rm.gl.v, G.lks.v, G.cds.v, G.nts.v, .int .i64 G.tr, y.st.ths.v, y.st.prs.v, y.st.pls.v, y.rd.v, .bool f.st, .int .i64 f.si, .int .i64 f.pa, .int .i64 f.en, .int .i64 f.hi] 94, roS fun u => PosOk u y, Z (acc ++ [f.x.1.1]), R] u')) (L : List SA) (hE : (Jaj G.p l.l).1 = 0) (hu : St w.heap.size w (Z [] :: L) u) : Calls Tryz.prog 48 #[.agg #[G.rm.pls.v, G.rm.ths.v, G.rm.prs.v, G.rm.wys.v, G.rm.acs.v, G.rm.aus.v, .int .i64 G.rm.ply, G.rm.gl.v, G.lks.v, G.cds.v, G.nts.v, .int .i64 G.tr], l.v, .func (.func fn) #[] cap.toArray] u (fun e u' => ∃ x : Nat × Pos, (x.2.x = (Jaj G.p l.l).2.2.x ∧ ∃ u0, PosOk u0 x.2) ∧ e = .returned (.tuple #[.pointer (some ⟨x.1, 0, none⟩), .int .i64 0]) ∧ St w.heap.size w (blk x.1 [G.rm.pls.v, G.rm.ths.v, G.rm.prs.v, G.rm.wys.v, G.rm.acs.v, G.rm.aus.v, .int .i64 G.rm.ply, G.rm.gl.v, G.lks.v, G.cds.v, G.nts.v, .int .i64 G.tr, x.2.st.ths.v, x.2.st.prs.v, x.2.st.pls.v, x.2.rd.v, .bool (Jaj G.p l.l).2.2.st, .int .i64 (Jaj G.p l.l).2.2.si, .int .i64 (Jaj G.p l.l).2.2.pa, .int .i64 (Jaj G.p l.l).2.2.en, .int .i64 (Jaj G.p l.l).2.2.hi] 94 :: (roS fun u => PosOk u x.2) :: Z (Jc7 G.p l.l (Jax G.p)) :: L) u') := by
 refine Calls.mono (Jv3 Z (Go.Proofs.YtohneogdekdboaaGreatDoor.star L) G hG hn g hW l hk fn cap hent hmv hE hu.rest1) ?_
 rintro e u' ⟨x, h1, h2, h3⟩
 exact ⟨x, h1, h2, h3.unrest3⟩
theorem Jmf {w u : World} (Z : List (List Int) → SA) (G : Game) (hG : GameOk w G) (hn : NearG G) (g : Sl ByteArray) (hW : GOk w g) (l : Sl Entr) (hk : SlT cEntry w l) (fn : FuncId) (cap : List Value) (hent : Ent Tryz.prog fn) (hmv : ∀ (R : SA) (fb : Nat) (acc : List (List Int)) (y : Pos) (f : Film) (u : World), y.x = f.x → posG G.p f.x = 0 → acc.length ≤ 1000 → St w.heap.size w [blk fb [G.rm.pls.v, G.rm.ths.v, G.rm.prs.v, G.rm.wys.v, G.rm.acs.v, G.rm.aus.v, .int .i64 G.rm.ply, G.rm.gl.v, G.lks.v, G.cds.v, G.nts.v, .int .i64 G.tr, y.st.ths.v, y.st.prs.v, y.st.pls.v, y.rd.v, .bool f.st, .int .i64 f.si, .int .i64 f.pa, .int .i64 f.en, .int .i64 f.hi] 94, roS fun u => PosOk u y, Z acc, R] u → Calls Tryz.prog fn (.pointer (some ⟨fb, 0, none⟩) :: cap).toArray u (fun e u' => e = .returned (.tuple #[]) ∧ St w.heap.size w [blk fb [G.rm.pls.v, G.rm.ths.v, G.rm.prs.v, G.rm.wys.v, G.rm.acs.v, G.rm.aus.v, .int .i64 G.rm.ply, G.rm.gl.v, G.lks.v, G.cds.v, G.nts.v, .int .i64 G.tr, y.st.ths.v, y.st.prs.v, y.st.pls.v, y.rd.v, .bool f.st, .int .i64 f.si, .int .i64 f.pa, .int .i64 f.en, .int .i64 f.hi] 94, roS fun u => PosOk u y, Z (acc ++ [f.x.1.1]), R] u')) (L : List SA) (hE : ¬ (Jaj G.p l.l).1 = 0) (hu : St w.heap.size w (Z [] :: L) u) : Calls Tryz.prog 48 #[.agg #[G.rm.pls.v, G.rm.ths.v, G.rm.prs.v, G.rm.wys.v, G.rm.acs.v, G.rm.aus.v, .int .i64 G.rm.ply, G.rm.gl.v, G.lks.v, G.cds.v, G.nts.v, .int .i64 G.tr], l.v, .func (.func fn) #[] cap.toArray] u (fun e u' => ∃ acc : List (List Int), True ∧ e = .returned (.tuple #[.pointer none, .int .i64 (Jaj G.p l.l).1]) ∧ St w.heap.size w (Z acc :: L) u') := by
 by_cases hB : (Jah G.p).1 = 0
 ·
  refine Calls.mono (Jum Z (Go.Proofs.YtohneogdekdboaaGreatDoor.star L) G hG hn g hW l hk fn cap hent hmv hE hB hu.rest1) ?_
  rintro e u' ⟨x, h1, h2, h3⟩
  exact ⟨x, h1, h2, h3.unrest1⟩
 refine Calls.mono (Jvf Z (Go.Proofs.YtohneogdekdboaaGreatDoor.star L) G hG hn g hW l hk fn cap hent hmv hB hu.rest1) ?_
 rintro e u' ⟨x, h1, h2, h3⟩
 exact ⟨x, h1, h2, h3.unrest1⟩
theorem Jnw {w u : World} (L : List SA) (G : Game) (hG : GameOk w G) (hn : NearG G) (g : Sl ByteArray) (hW : GOk w g) (l : Sl Entr) (hk : SlT cEntry w l) (hE : (Jaj G.p l.l).1 = 0) (hu : St w.heap.size w (Go.Proofs.YtohneogdekdboaaGreatDoor.osl 0 1 (.slice none 0 0) 0 [] :: L) u) : Calls Tryz.prog 48 #[.agg #[G.rm.pls.v, G.rm.ths.v, G.rm.prs.v, G.rm.wys.v, G.rm.acs.v, G.rm.aus.v, .int .i64 G.rm.ply, G.rm.gl.v, G.lks.v, G.cds.v, G.nts.v, .int .i64 G.tr], l.v, .func (.func 49) #[] #[]] u (fun e u' => ∃ x : Nat × Pos, (x.2.x = (Jaj G.p l.l).2.2.x ∧ ∃ u0, PosOk u0 x.2) ∧ e = .returned (.tuple #[.pointer (some ⟨x.1, 0, none⟩), .int .i64 0]) ∧ St w.heap.size w (blk x.1 [G.rm.pls.v, G.rm.ths.v, G.rm.prs.v, G.rm.wys.v, G.rm.acs.v, G.rm.aus.v, .int .i64 G.rm.ply, G.rm.gl.v, G.lks.v, G.cds.v, G.nts.v, .int .i64 G.tr, x.2.st.ths.v, x.2.st.prs.v, x.2.st.pls.v, x.2.rd.v, .bool (Jaj G.p l.l).2.2.st, .int .i64 (Jaj G.p l.l).2.2.si, .int .i64 (Jaj G.p l.l).2.2.pa, .int .i64 (Jaj G.p l.l).2.2.en, .int .i64 (Jaj G.p l.l).2.2.hi] 94 :: (roS fun u => PosOk u x.2) :: Go.Proofs.YtohneogdekdboaaGreatDoor.osl 0 1 (.slice none 0 0) 0 [] :: L) u') :=
 Jl4 (fun _ => Go.Proofs.YtohneogdekdboaaGreatDoor.osl 0 1 (.slice none 0 0) 0 []) G hG hn g hW l hk 49 [] J55 (fun R fb acc y f u hyx hq hac hu => Calls.mono (Jy8 fb u) fun e u2 h => ⟨h.1, hu.ext h.2⟩) L hE hu
theorem Joc {w u : World} (L : List SA) (G : Game) (hG : GameOk w G) (hn : NearG G) (g : Sl ByteArray) (hW : GOk w g) (l : Sl Entr) (hk : SlT cEntry w l) (hE : ¬ (Jaj G.p l.l).1 = 0) (hu : St w.heap.size w (Go.Proofs.YtohneogdekdboaaGreatDoor.osl 0 1 (.slice none 0 0) 0 [] :: L) u) : Calls Tryz.prog 48 #[.agg #[G.rm.pls.v, G.rm.ths.v, G.rm.prs.v, G.rm.wys.v, G.rm.acs.v, G.rm.aus.v, .int .i64 G.rm.ply, G.rm.gl.v, G.lks.v, G.cds.v, G.nts.v, .int .i64 G.tr], l.v, .func (.func 49) #[] #[]] u (fun e u' => ∃ acc : List (List Int), True ∧ e = .returned (.tuple #[.pointer none, .int .i64 (Jaj G.p l.l).1]) ∧ St w.heap.size w (Go.Proofs.YtohneogdekdboaaGreatDoor.osl 0 1 (.slice none 0 0) 0 [] :: L) u') :=
 Jmf (fun _ => Go.Proofs.YtohneogdekdboaaGreatDoor.osl 0 1 (.slice none 0 0) 0 []) G hG hn g hW l hk 49 [] J55 (fun R fb acc y f u hyx hq hac hu => Calls.mono (Jy8 fb u) fun e u2 h => ⟨h.1, hu.ext h.2⟩) L hE hu
end Go.Proofs.YtohneogdekdboaaGreatDoor
