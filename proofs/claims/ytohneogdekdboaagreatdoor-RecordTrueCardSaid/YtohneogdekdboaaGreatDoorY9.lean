/- Merged texts of this proof (walks and plain laws), printed by a program of the prover. -/
import Derived.Test.YtohneogdekdboaaGreatDoorY3
import Derived.Test.YtohneogdekdboaaGreatDoorZb
import Derived.Test.YtohneogdekdboaaGreatDoorProg
import Derived.KernelRfl
import Derived.Test.YtohneogdekdboaaGreatDoorZc
import Derived.Test.YtohneogdekdboaaGreatDoorXd
import Derived.Test.YtohneogdekdboaaGreatDoorXe
namespace Go.Proofs.YtohneogdekdboaaGreatDoor
open Go.Proofs
theorem J7h : Ent Tryz.prog 16 := Jac Tryz.func16 (by kernel_rfl) rfl
end Go.Proofs.YtohneogdekdboaaGreatDoor
set_option maxHeartbeats 8000000
namespace Go.Proofs.YtohneogdekdboaaGreatDoor
open Go.RowKit Go.Proofs
set_option maxRecDepth 100000
set_option linter.unusedVariables false
set_option linter.unusedSimpArgs false
section
variable {P : Program} {C : World → Prop} {l : List Value} {d : Option Tmp} {ty : TypeId} {ps : String} {af : Array Edge} {g : Option (Nat × Bool)}
theorem Jvn {T T' : TypeId} {x y : Operand} {qs rs : Array TypeId} {vd : Bool} (hx : evo l x = some .nilFunc) (hy : evo l y = some .nilFunc) (hT : P.underlying T = some (.func qs rs vd)) :
  Det P C ⟨d, .binOp .neq T x y T', ty, ps, af, g⟩ l (.bool false) := fun u _ => by
 (replace hx := Jat hx; replace hy := Jat hy)
 have h : ∀ d : Nat, (Op.equalIn (d + 1) T .nilFunc .nilFunc).run P u = .ok true u := fun d => by simp [Op.equalIn, run_underlying hT]
 simp [execOp, Jau, hx, hy, eqGuard, binOp, Op.equal, Op.maxDepth, h 9999]
end
theorem J72 {w u : World} (R : SA) (G : Game) (hG : GameOk w G) (hn : NearG G) (g : Sl ByteArray) (hW : GOk w g) (fb : Nat) (y : Pos) (hyx : y.x = (Jah G.p).2) (hB : (Jah G.p).1 = 0) (l : Sl Entr) (hk : SlT cEntry w l) (hu : St w.heap.size w [blk fb [G.rm.pls.v, G.rm.ths.v, G.rm.prs.v, G.rm.wys.v, G.rm.acs.v, G.rm.aus.v, .int .i64 G.rm.ply, G.rm.gl.v, G.lks.v, G.cds.v, G.nts.v, .int .i64 G.tr, y.st.ths.v, y.st.prs.v, y.st.pls.v, y.rd.v, .bool (Jax G.p).st, .int .i64 (Jax G.p).si, .int .i64 (Jax G.p).pa, .int .i64 (Jax G.p).en, .int .i64 (Jax G.p).hi] 94, roS fun u => PosOk u y, R] u) :
  Calls Tryz.prog 43 #[.pointer (some ⟨fb, 0, none⟩), l.v, .nilFunc] u (fun e u' => ∃ q : Pos × Film, (q.1.x = q.2.x ∧ (∃ u0, PosOk u0 q.1) ∧ ((Jaj G.p l.l).1 = 0 → q.2 = (Jaj G.p l.l).2.2)) ∧ e = .returned (.tuple #[.int .i64 (Jaj G.p l.l).2.1, .int .i64 (Jaj G.p l.l).1]) ∧ St w.heap.size w [blk fb [G.rm.pls.v, G.rm.ths.v, G.rm.prs.v, G.rm.wys.v, G.rm.acs.v, G.rm.aus.v, .int .i64 G.rm.ply, G.rm.gl.v, G.lks.v, G.cds.v, G.nts.v, .int .i64 G.tr, q.1.st.ths.v, q.1.st.prs.v, q.1.st.pls.v, q.1.rd.v, .bool q.2.st, .int .i64 q.2.si, .int .i64 q.2.pa, .int .i64 q.2.en, .int .i64 q.2.hi] 94, roS fun u => PosOk u q.1, R] u') := by
 have lls := hk.le
 have hyok : PosOk u y := hu.ro (j := 1) rfl
 refine Jd2 hu Tryz.func43 rfl rfl (Nat.le_of_ble_eq_true rfl) ?_
 refine Nz 2 ?_
 refine Wd (Qc (Cs (Nz 1 ?_)))
 refine Wk 1 Nc ?_
 refine Wd (Qc (CS.cond rfl ?_ ?_))<;>intro hc1<;>try simp only [bq] at hc1
 ·
  have hfv : (Jaj G.p l.l) = (2, 0, Jax G.p) := Jqc hB (by omega)
  refine Nz 2 ?_
  exact Wd (Qc (Cr (Qr (out2 rfl rfl rfl (fun u hu => ⟨(y, (Jax G.p)), ⟨hyx, ⟨u, hu.ro (j := 1) rfl⟩, fun h9 ↦ by rw [hfv] at h9; simp at h9⟩, by rw [hfv], hu.sel [0, 0, 0] rfl⟩)))))
 have hL : ¬ 500 < (l.l.length : Int) := by omega
 refine Ck (Qc (Nz 1 ?_))
 refine Wd (Qc (Cs (Nz 1 ?_)))
 refine Wk 1 Nc ?_
 refine Wd (Qc (Ce ?_))
 refine CS.loopM (σ := Int × Pos × Film × Int × Unit) [6, 7, 9, 10, 17, 18, 19, 20, 21, 22, 23, 24, 25, 26, 27, 28, 29, 30, 31, 32, 33, 34, 35, 36, 37, 38, 39, 40, 41, 42, 43, 44] (fun s => [(16, .int .i64 s.1), (8, .int .i64 s.2.2.2.1)]) (fun s => [blk fb [G.rm.pls.v, G.rm.ths.v, G.rm.prs.v, G.rm.wys.v, G.rm.acs.v, G.rm.aus.v, .int .i64 G.rm.ply, G.rm.gl.v, G.lks.v, G.cds.v, G.nts.v, .int .i64 G.tr, s.2.1.st.ths.v, s.2.1.st.prs.v, s.2.1.st.pls.v, s.2.1.rd.v, .bool s.2.2.1.st, .int .i64 s.2.2.1.si, .int .i64 s.2.2.1.pa, .int .i64 s.2.2.1.en, .int .i64 s.2.2.1.hi] 94, roS fun u => PosOk u s.2.1, R]) (fun s => 0 ≤ s.1 ∧ s.1 ≤ l.l.length ∧ (∃ u0, PosOk u0 s.2.1) ∧ s.2.1.x = s.2.2.1.x ∧ FilmOk G s.2.2.1 s.2.2.2.1 s.1 ∧ Jb1 G.p l.l 0 0 (Jax G.p) = Jb1 G.p (l.l.drop s.1.toNat) s.1 s.2.2.2.1 s.2.2.1) (fun s => (l.l.length - s.1).toNat) (0, y, Jax G.p, 0, ()) (fun _ _ => rfl) rfl rfl ⟨by simp, by simp, ⟨_, hyok⟩, hyx, Jgw hB, by simp⟩ ?_
 intro s t hs
 obtain ⟨hs1, hs2, ⟨us, hsok⟩, hs4, hs5, hs6⟩ := hs
 refine Nz 1 ?_
 refine Wd (Qc (Cs (CS.cond rfl ?_ ?_)))<;>intro hc2<;>try simp only [bq] at hc2
 ·
  refine Ck (Qc (Cs (Ce (Nz 1 ?_))))
  refine Wk 0 Xc ?_
  refine Wk 0 Ua ?_
  refine Wl 1 zv73 (fun _ => rfl) (fun _ => rfl) fun b10 hb10 => ?_
  refine Wv 0 0 ?_
  refine Wd (Qc (Cs (Cs ?_)))
  rcases Bool.eq_false_or_eq_true (!(decide (s.2.2.2.1 ≤ (nth l.l s.1).t) && decide ((nth l.l s.1).t ≤ 1000000))) with hb | hb
  ·
   refine Ny 1 ?_
   refine Wk 1 (Ba 0) ?_
   refine Wk 1 (Cb rfl rfl Jnt (fun u hu => Jdh _ _ _ u)) ?_
   refine Wk 0 (Jcd (v := .bool true) (congrArg (fun b => some (Value.bool b)) hb)) ?_
   refine Wf 0 rfl rfl (fun hg => Fy_ (by cases hg)) ?_
   refine Wf 0 rfl rfl (fun hg => Fy_ (by cases hg)) ?_
   refine Wf 0 rfl rfl (fun hg => Fy_ (by cases hg)) ?_
   refine Wf 0 rfl rfl (fun hg => Fz_ (by cases hg)) ?_
   refine Wk 0 Po ?_
   refine Wd (Qc (CS.cond rfl ?_ ?_))<;>intro hc3<;>try simp only [bq] at hc3
   ·
    have hTn : Jcc s.2.2.2.1 (nth l.l s.1) = false := by unfold Jcc; simp at hb ⊢; omega
    have hbd : (Jcc s.2.2.2.1 (nth l.l s.1) && (Jaz G.p s.2.2.1 (nth l.l s.1)).isSome) = false := by rw [hTn]; rfl
    have hfv : (Jaj G.p l.l) = (120, s.1, Jax G.p) := Jk4 hB hL (by rw [hs6, Jav hs1 (by omega), Jgs hbd])
    refine Nz 3 ?_
    exact Wd (Qc (Cr (Qr (Qs (Qr (Qr (Qs (Qr (out2 rfl rfl rfl (fun u hu => (by first | exact ⟨(s.2.1, s.2.2.1), ⟨hs4, ⟨u, hu.ro (j := 2) rfl⟩, fun h9 ↦ by rw [hfv] at h9; simp at h9⟩, by rw [hfv], hu.sel [1, 1, 1] rfl⟩ | exact ⟨(y2, f2), ⟨hy2x, ⟨u, hu.ro (j := 2) rfl⟩, fun h9 ↦ by rw [hfv] at h9; simp at h9⟩, by rw [hfv], hu.sel [1, 1, 1] rfl⟩)))))))))))
   exact absurd hc3 (by simp)
  have hT : Jcc s.2.2.2.1 (nth l.l s.1) = true := by unfold Jcc; simpa using hb
  refine Ny 1 ?_
  refine Wk 1 (Ba 0) ?_
  refine Wk 1 (Cb rfl rfl Jnt (fun u hu => Jdh _ _ _ u)) ?_
  refine Wk 0 (Jcd (v := .bool false) (congrArg (fun b => some (Value.bool b)) hb)) ?_
  refine Wf 0 rfl rfl (fun hg => Fm) ?_
  refine Wf 0 rfl rfl (fun hg => Bb 0) ?_
  refine WS.callSg (want := false) (j := 5) rfl rfl rfl J6g (fun u hu => Js2 [_] [_] G hG hn g hW fb s.2.1 s.2.2.1 hs4 (nth l.l s.1) s.2.2.2.1 s.1 hs5 hT (by omega) hu) (fun _ => rfl) ?_; rintro ⟨y2, f2⟩ ⟨hy2x, ⟨uy2, hy2ok⟩, hf2⟩
  dsimp only at hf2 hy2x hy2ok
  refine Wf 0 rfl rfl (fun hg => Fn) ?_
  refine Wk 0 Po ?_
  refine Wd (Qc (CS.cond rfl ?_ ?_))<;>intro hc3<;>try simp only [bq] at hc3
  ·
   have hbd : (Jcc s.2.2.2.1 (nth l.l s.1) && (Jaz G.p s.2.2.1 (nth l.l s.1)).isSome) = false := by rw [hT, Bool.true_and]; simpa using hc3
   have hfv : (Jaj G.p l.l) = (120, s.1, Jax G.p) := Jk4 hB hL (by rw [hs6, Jav hs1 (by omega), Jgs hbd])
   refine Nz 3 ?_
   exact Wd (Qc (Cr (Qr (Qs (Qr (Qr (Qs (Qr (out2 rfl rfl rfl (fun u hu => (by first | exact ⟨(s.2.1, s.2.2.1), ⟨hs4, ⟨u, hu.ro (j := 2) rfl⟩, fun h9 ↦ by rw [hfv] at h9; simp at h9⟩, by rw [hfv], hu.sel [1, 1, 1] rfl⟩ | exact ⟨(y2, f2), ⟨hy2x, ⟨u, hu.ro (j := 2) rfl⟩, fun h9 ↦ by rw [hfv] at h9; simp at h9⟩, by rw [hfv], hu.sel [1, 1, 1] rfl⟩)))))))))))
  have hgd : (Jaz G.p s.2.2.1 (nth l.l s.1)).isSome = true := by first | exact hc3 | simpa using hc3
  obtain ⟨f3, hf3⟩ := Option.isSome_iff_exists.1 hgd
  obtain rfl := hf2 f3 hf3
  have hF2 := hs5.next hT hf3
  refine Ck (Qc (Nz 1 ?_))
  refine Wk 1 (Ba 0) ?_
  refine Wd (Qc (Nz 1 ?_))
  refine Wk 2 (Ba 0) ?_
  refine Wt 0 rfl rfl (fun hg => Fm) ?_
  refine Wt 0 rfl rfl (fun hg => Jvn (eg_ hg rfl) rfl Tryz.underlying1) ?_
  refine Wk 0 Pa ?_
  refine Wd (Qc (CS.cond rfl ?_ ?_))<;>intro hc4<;>try simp only [bq] at hc4
  ·
   exact absurd hc4.2 (by decide)
  refine Ck (Qb (Qc (Ny 0 ?_)))
  refine Wk 1 Za ?_
  refine Wd ?_
  refine QS.sel [1, 1, 1] rfl ?_
  exact QS.head ((s.1 + 1, y2, f2, (nth l.l s.1).t, ())) rfl rfl ⟨⟨by simp; omega, by simp; omega, ⟨_, hy2ok⟩, hy2x, hF2, by rw [hs6, Jav hs1 (by omega), Jef hT hf3]⟩, by simp; omega⟩
 have hrl : Jb1 G.p l.l 0 0 (Jax G.p) = .ok s.2.2.1 := by rw [hs6, List.drop_of_length_le (by omega), Jb1]
 have hfv : (Jaj G.p l.l) = (0, 0, s.2.2.1) := Jq7 hB hL hrl
 refine Cv (Qe (Qe (Qx (Qc (Nz 2 ?_)))))
 exact Wd (Qc (Cr (out2 rfl rfl rfl (fun u hu => ⟨(s.2.1, s.2.2.1), ⟨hs4, ⟨u, hu.ro (j := 1) rfl⟩, fun h9 ↦ by rw [hfv]⟩, by rw [hfv], hu.sel [0, 0, 0] rfl⟩))))
theorem J4h {w u : World} (A B : List SA) (G : Game) (hG : GameOk w G) (hn : NearG G) (g : Sl ByteArray) (hW : GOk w g) (fb : Nat) (y : Pos) (hyx : y.x = (Jah G.p).2) (hB : (Jah G.p).1 = 0) (l : Sl Entr) (hk : SlT cEntry w l) (hu : St w.heap.size w (A ++ [blk fb [G.rm.pls.v, G.rm.ths.v, G.rm.prs.v, G.rm.wys.v, G.rm.acs.v, G.rm.aus.v, .int .i64 G.rm.ply, G.rm.gl.v, G.lks.v, G.cds.v, G.nts.v, .int .i64 G.tr, y.st.ths.v, y.st.prs.v, y.st.pls.v, y.rd.v, .bool (Jax G.p).st, .int .i64 (Jax G.p).si, .int .i64 (Jax G.p).pa, .int .i64 (Jax G.p).en, .int .i64 (Jax G.p).hi] 94, roS fun u => PosOk u y] ++ B) u) :
  Calls Tryz.prog 43 #[.pointer (some ⟨fb, 0, none⟩), l.v, .nilFunc] u (fun e u' => ∃ q : Pos × Film, (q.1.x = q.2.x ∧ (∃ u0, PosOk u0 q.1) ∧ ((Jaj G.p l.l).1 = 0 → q.2 = (Jaj G.p l.l).2.2)) ∧ e = .returned (.tuple #[.int .i64 (Jaj G.p l.l).2.1, .int .i64 (Jaj G.p l.l).1]) ∧ St w.heap.size w (A ++ [blk fb [G.rm.pls.v, G.rm.ths.v, G.rm.prs.v, G.rm.wys.v, G.rm.acs.v, G.rm.aus.v, .int .i64 G.rm.ply, G.rm.gl.v, G.lks.v, G.cds.v, G.nts.v, .int .i64 G.tr, q.1.st.ths.v, q.1.st.prs.v, q.1.st.pls.v, q.1.rd.v, .bool q.2.st, .int .i64 q.2.si, .int .i64 q.2.pa, .int .i64 q.2.en, .int .i64 q.2.hi] 94, roS fun u => PosOk u q.1] ++ B) u') := by
 refine Calls.mono (J72 (star (A ++ B)) G hG hn g hW fb y hyx hB l hk hu.out2) ?_
 rintro e u' ⟨z, h1, h2, h3⟩
 exact ⟨z, h1, h2, h3.in2⟩
theorem Jpt (G : Game) (w : World) (hG : GameOk w G) (hn : NearG G) (g : Sl ByteArray) (hW : GOk w g) (l : Sl Entr) (hk : SlT cEntry w l) (hB : (Jah G.p).1 = 0) :
  Calls Tryz.prog 16 #[.agg #[G.rm.pls.v, G.rm.ths.v, G.rm.prs.v, G.rm.wys.v, G.rm.acs.v, G.rm.aus.v, .int .i64 G.rm.ply, G.rm.gl.v, G.lks.v, G.cds.v, G.nts.v, .int .i64 G.tr], l.v] w (RetB w (.tuple #[.int .i64 (Jaj G.p l.l).2.1, .int .i64 (Jaj G.p l.l).1])) := by
 have lls := hk.le
 refine enter Tryz.func16 rfl rfl (Nat.le_of_ble_eq_true rfl) ?_
 refine Nz 0 ?_
 refine Wb 2 rfl rfl (fun _ => rfl) (fun _ => rfl) fun b2 hb2 => ?_
 refine Wd (Qc (Nz 0 ?_))
 refine Wk 0 (Bb 0) ?_
 refine Wc rfl rfl Jre (fun u hu => Jii G u (hG.st hu) hn g (hW.st hu) hB) (fun _ => rfl) ?_; rintro ⟨fb, y⟩ ⟨hyx, uy, hyok⟩
 refine WS.unpack ?_
 refine Wz 5 ?_
 refine Wd (Qc (Cs (Nz 2 ?_)))
 refine Wd (Qc (CS.cond rfl ?_ ?_))<;>intro hc1<;>try simp only [bq] at hc1
 ·
  exact absurd trivial hc1
 refine Ck (Qc (Nz 2 ?_))
 refine WS.callS rfl rfl J5t (fun u hu => J4h [] [_] G hG hn g hW fb y hyx hB l hk hu) (fun _ => rfl) ?_; rintro ⟨y2, f2⟩ ⟨hy2x, ⟨uy2, hy2ok⟩, hf2⟩
 refine Wz 4 ?_
 exact Wd (Qc (Cr (out2 rfl rfl rfl (retB))))
theorem Jos (G : Game) (w : World) (hG : GameOk w G) (hn : NearG G) (g : Sl ByteArray) (hW : GOk w g) (l : Sl Entr) (hk : SlT cEntry w l) (hB : ¬ (Jah G.p).1 = 0) :
  Calls Tryz.prog 16 #[.agg #[G.rm.pls.v, G.rm.ths.v, G.rm.prs.v, G.rm.wys.v, G.rm.acs.v, G.rm.aus.v, .int .i64 G.rm.ply, G.rm.gl.v, G.lks.v, G.cds.v, G.nts.v, .int .i64 G.tr], l.v] w (RetB w (.tuple #[.int .i64 (Jaj G.p l.l).2.1, .int .i64 (Jaj G.p l.l).1])) := by
 refine enter Tryz.func16 rfl rfl (Nat.le_of_ble_eq_true rfl) ?_
 refine Nz 0 ?_
 refine Wb 2 rfl rfl (fun _ => rfl) (fun _ => rfl) fun b2 hb2 => ?_
 refine Wd (Qc (Nz 0 ?_))
 refine Wk 0 (Bb 0) ?_
 refine Wk 5 (Cb rfl rfl Jre (fun u hu => Jk9 G u (hG.st hu) hn g (hW.st hu) hB)) ?_
 refine Wd (Qc (Cs (Nz 2 ?_)))
 refine Wd (Qc (CS.cond rfl ?_ ?_))<;>intro hc1<;>try simp only [bq] at hc1
 ·
  refine Nz 3 ?_
  exact Wd (Qc (Cr (Qr (out2 rfl rfl rfl (Jab (by rw [Jr0 hB]))))))
 exact absurd hc1 hB
theorem Jlm (G : Game) (w : World) (hG : GameOk w G) (hn : NearG G) (g : Sl ByteArray) (hW : GOk w g) (l : Sl Entr) (hk : SlT cEntry w l) :
  Calls Tryz.prog 16 #[.agg #[G.rm.pls.v, G.rm.ths.v, G.rm.prs.v, G.rm.wys.v, G.rm.acs.v, G.rm.aus.v, .int .i64 G.rm.ply, G.rm.gl.v, G.lks.v, G.cds.v, G.nts.v, .int .i64 G.tr], l.v] w (RetB w (.tuple #[.int .i64 (Jaj G.p l.l).2.1, .int .i64 (Jaj G.p l.l).1])) := by
 by_cases hB : (Jah G.p).1 = 0
 ·
  exact Jpt G w hG hn g hW l hk hB
 exact Jos G w hG hn g hW l hk hB
end Go.Proofs.YtohneogdekdboaaGreatDoor
