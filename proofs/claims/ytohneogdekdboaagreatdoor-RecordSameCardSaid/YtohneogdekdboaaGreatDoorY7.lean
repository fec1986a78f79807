/- Merged texts of this proof (walks and plain laws), printed by a program of the prover. -/
import Derived.Test.YtohneogdekdboaaGreatDoorY3
import Derived.Test.YtohneogdekdboaaGreatDoorY4
import Derived.Test.YtohneogdekdboaaGreatDoorZb
import Derived.Test.YtohneogdekdboaaGreatDoorProg
import Derived.KernelRfl
import Derived.Test.YtohneogdekdboaaGreatDoorZc
import Derived.Test.YtohneogdekdboaaGreatDoorXa
import Derived.Test.YtohneogdekdboaaGreatDoorXb
import Derived.Test.YtohneogdekdboaaGreatDoorXc
import Derived.Test.YtohneogdekdboaaGreatDoorXd
import Derived.Test.YtohneogdekdboaaGreatDoorXe
namespace Go.Proofs.YtohneogdekdboaaGreatDoor
set_option linter.unusedVariables false
set_option linter.unusedSimpArgs false
open Go.RowKit
def Ja2 (G : GP) (l : List Entr) : Int × List (List Int) × PX := if (Jaj G l).1 = 0 then (0, Jc7 G l (Jax G), (Jaj G l).2.2.x) else ((Jaj G l).1, [], noP)
def Jay (l : List Entr) : List Timed := (l.filter fun x => decide (x.k = 1)).map fun x => ⟨x.t, x.m⟩
def Jgk (l : List Entr) : List Entr := l.filter fun x => decide (x.k = 1) || decide (x.k = 5)
def Jet (G : GP) (l : List Entr) : Int × Bool := if (Jaj G l).1 = 0 then (0, decide ((Jaa G (Jay l)).1 = 0) && decide (Jgk l = (Jaa G (Jay l)).2.2)) else ((Jaj G l).1, false)
end Go.Proofs.YtohneogdekdboaaGreatDoor
namespace Go.Proofs.YtohneogdekdboaaGreatDoor
open Go.Proofs
theorem zv33 : zv Tryz.prog 33 = some [.slice none 0 0] := by kernel_rfl
theorem Jrz : Ent Tryz.prog 23 := Jac Tryz.func23 (by kernel_rfl) rfl
theorem J41 : Ent Tryz.prog 25 := Jac Tryz.func25 (by kernel_rfl) rfl
theorem J8k : Ent Tryz.prog 52 := Jac Tryz.func52 (by kernel_rfl) rfl
theorem Ka3 : Ent Tryz.prog 53 := Jac Tryz.func53 (by kernel_rfl) rfl
end Go.Proofs.YtohneogdekdboaaGreatDoor
set_option maxHeartbeats 8000000
namespace Go.Proofs.YtohneogdekdboaaGreatDoor
open Go.RowKit Go.Proofs
set_option maxRecDepth 100000
set_option linter.unusedVariables false
set_option linter.unusedSimpArgs false
theorem Jj4 {l : List Entr} : (Jay l).length ≤ l.length := by
 unfold Jay; rw [List.length_map]; exact List.length_filter_le _ _
theorem J1s (x y : Sl Entr) (w : World) (hx : SlT cEntry w x) (hy : SlT cEntry w y) :
  Calls Tryz.prog 53 #[x.v, y.v] w (RetB w (.bool (decide (x.l = y.l)))) := by
 have lx := hx.le
 have ly := hy.le
 refine enter Tryz.func53 rfl rfl (Nat.le_of_ble_eq_true rfl) ?_
 refine Nz 1 ?_
 refine Wd (Qc (Cs (Nz 1 ?_)))
 refine Wk 1 Nc ?_
 refine Wk 1 Nc ?_
 refine Wd (Qc (CS.cond rfl ?_ ?_))<;>intro hc1<;>try simp only [bq] at hc1
 ·
  refine Nz 1 ?_
  exact Wd (Qc (Cr (Qr (out1 rfl rfl (Jab (Jhg fun h => hc1 (by rw [h])))))))
 refine Ck (Qc (Cs (Nz 1 ?_)))
 refine Wk 1 Nc ?_
 refine Wd (Qc (Ce ?_))
 refine CS.loopM (σ := Int) [4, 5, 14, 15, 16, 17, 18, 19, 20, 21, 22, 23, 24, 25] (fun s => [(13, .int .i64 s)]) (fun _ => _) (fun s => 0 ≤ s ∧ s ≤ x.l.length ∧ ∀ j : Int, 0 ≤ j → j < s → nth x.l j = nth y.l j) (fun s => (x.l.length - s).toNat) 0 (fun _ _ => rfl) rfl rfl ⟨by omega, by omega, fun j _ _ => by omega⟩ ?_
 intro a t hs
 obtain ⟨ha1, ha2, ha3⟩ := hs
 refine Nz 1 ?_
 refine Wd (Qc (Cs (CS.cond rfl ?_ ?_)))<;>intro hc2<;>try simp only [bq] at hc2
 ·
  refine Ck (Qc (Cs (Ce (Nz 2 ?_))))
  refine Wd (Qc (Cs (Dr Jai 2 ?_)))
  refine Dk 0 Xc ?_
  refine Dk 2 Ua ?_
  refine Dk 0 Xc ?_
  refine Dk 0 Ua ?_
  refine Dk 0 (Jek Je2 rfl rfl (Jc3 (nth x.l a) (nth y.l a))) ?_
  refine Dd (Qc (CS.cond rfl ?_ ?_))<;>intro hc3<;>try simp only [bq] at hc3
  ·
   refine Nz 1 ?_
   exact Wd (Qc (Cr (Qs (Qr (Qr (Qs (Qr (out1 rfl rfl (Jab (Jhg fun h => hc3 (by rw [h])))))))))))
  refine Ck (Qb (Qc (Ny 0 ?_)))
  refine Wk 1 Za ?_
  refine Wd ?_
  exact QS.head (a + 1) rfl rfl ⟨⟨by omega, by omega, fun j h0 h1 => by
     rcases (show j < a ∨ j = a by omega) with h | h
     ·
      exact ha3 j h0 h
     rw [h]; exact hc3⟩, by omega⟩
 refine Cv (Qe (Qe (Qx (Qc (Nz 1 ?_)))))
 exact Wd (Qc (Cr (out1 rfl rfl (Jab (Joz (Jkb hc2 (by omega) ha3))))))
def Juv (w : World) (V : Int × List (List Int) × PX) : Ending → World → Prop := fun e w' => ∃ c : Sl (Sl Int) × Pos, (c.1.l.map Sl.l = V.2.1 ∧ c.2.x = V.2.2 ∧ ∃ u0, SlT (cSl cInt) u0 c.1 ∧ PosOk u0 c.2) ∧
 RetF w (.tuple #[c.1.v, .agg #[c.2.st.ths.v, c.2.st.prs.v, c.2.st.pls.v, c.2.rd.v], .int .i64 V.1]) (roS fun u => SlT (cSl cInt) u c.1 ∧ PosOk u c.2) e w'
section
variable {P : Program} {n0 : Nat} {w0 : World} {L : List SA} {l : List Value} {fn : Func}
theorem Jmv {b t b2 t2 t3 : Nat} {ty ty2 : TypeId} {v v2 v3 : Value} (h : fn.results = #[.cell t ty, .cell t2 ty2, .tmp t3]) (h1 : Rv P n0 w0 L l b t ty v) (h2 : Rv P n0 w0 L l b2 t2 ty2 v2) (h3 : l[t3]? = some v3) : Res P fn l L n0 w0 (.tuple #[v, v2, v3]) := fun u hu => by
 obtain ⟨a1, a2⟩ := Jlz h1 hu
 obtain ⟨b1, b2⟩ := Jlz h2 hu
 simp only [results, h]
 simp [Sem.run_bind, Result.andThen, a1, a2, b1, b2, h3]
end
theorem Jxz (u : World) : PosOk u (Jjp noP) := ⟨⟨SlT.nil cInt u, SlT.nil cInt u, SlT.nil cInt u⟩, SlT.nil cBool u⟩
theorem Jrv {w0 : World} {L : List SA} {V : Int × List (List Int) × PX} {v : Value} {acc : List (Sl Int)} {y : Pos} (h1 : acc.map Sl.l = V.2.1) (h2 : y.x = V.2.2) (hp : ∀ S u, Star L S u → SlT (cSl cInt) u ⟨v, acc⟩ ∧ PosOk u y) :
  ∀ u, St w0.heap.size w0 L u → Juv w0 V (.returned (.tuple #[v, .agg #[y.st.ths.v, y.st.prs.v, y.st.pls.v, y.rd.v], .int .i64 V.1])) u := fun u hu =>
 ⟨(⟨v, acc⟩, y), ⟨h1, h2, u, hp _ _ hu.star⟩, retR hp u hu⟩
theorem J26 {w0 : World} {L : List SA} {i : Int} : ∀ u, St w0.heap.size w0 L u → Juv w0 (i, [], noP) (.returned (.tuple #[.slice none 0 0, .agg #[.slice none 0 0, .slice none 0 0, .slice none 0 0, .slice none 0 0], .int .i64 i])) u :=
 Jrv (V := (i, [], noP)) (y := Jjp noP) (acc := []) rfl rfl fun _ u _ => ⟨SlT.nil _ u, Jxz u⟩
theorem Jcm {l : List Entr} {i : Int} (h0 : 0 ≤ i) (h1 : i < l.length) (hk : (nth l i).k = 1) : Jay (l.take (i + 1).toNat) = Jay (l.take i.toNat) ++ [⟨(nth l i).t, (nth l i).m⟩] := by
 rw [Jc4 h0 h1]; unfold Jay; rw [List.filter_append, List.map_append, List.filter_cons, if_pos (decide_eq_true hk)]; rfl
theorem Jdo {l : List Entr} {i : Int} (h0 : 0 ≤ i) (h1 : i < l.length) (hk : ¬ (nth l i).k = 1) : Jay (l.take (i + 1).toNat) = Jay (l.take i.toNat) := by
 rw [Jc4 h0 h1]; unfold Jay; rw [List.filter_append, List.filter_cons, if_neg (by rw [decide_eq_false hk]; decide)]; simp
theorem Jc2 {l : List Entr} {i : Int} (h0 : 0 ≤ i) (h1 : i < l.length) (hk : (nth l i).k = 1 ∨ (nth l i).k = 5) : Jgk (l.take (i + 1).toNat) = Jgk (l.take i.toNat) ++ [nth l i] := by
 rw [Jc4 h0 h1]; unfold Jgk; rw [List.filter_append, List.filter_cons, if_pos (by rw [Bool.or_eq_true, decide_eq_true_eq, decide_eq_true_eq]; exact hk)]; rfl
theorem Jd7 {l : List Entr} {i : Int} (h0 : 0 ≤ i) (h1 : i < l.length) (hk : ¬ ((nth l i).k = 1 ∨ (nth l i).k = 5)) : Jgk (l.take (i + 1).toNat) = Jgk (l.take i.toNat) := by
 rw [Jc4 h0 h1]; unfold Jgk; rw [List.filter_append, List.filter_cons, if_neg (by rw [Bool.or_eq_true, decide_eq_true_eq, decide_eq_true_eq]; exact hk)]; simp
theorem Jys {l : List Entr} : (Jgk l).length ≤ l.length := List.length_filter_le _ _
theorem Jhw {G : GP} {l : List Entr} (h : (Jaj G l).1 = 0) : Jet G l = (0, decide ((Jaa G (Jay l)).1 = 0) && decide (Jgk l = (Jaa G (Jay l)).2.2)) := if_pos h
theorem Jnl {G : GP} {l : List Entr} (h : ¬ (Jaj G l).1 = 0) : Jet G l = ((Jaj G l).1, false) := if_neg h
def Jt2 (b : Nat) (rows : List (List Int)) : SA := exS fun c : Sl (Sl Int) => star [fact (c.l.map Sl.l = rows), blk b [c.v] 33, roS fun u => ∀ x ∈ c.l, SlT cInt u x, oT (cSl cInt) 56 c.v c.l]
theorem St.rowsI {n0 : Nat} {w0 u : World} {L : List SA} {b : Nat} {v : Value} {acc : List (Sl Int)} {rows : List (List Int)} (ha : acc.map Sl.l = rows) (h : St n0 w0 (Go.Proofs.YtohneogdekdboaaGreatDoor.blk b [v] 33 :: (roS fun u => ∀ x ∈ acc, SlT cInt u x) :: oT (cSl cInt) 56 v acc :: L) u) : St n0 w0 (Jt2 b rows :: L) u :=
 St.exI (f := fun c : Sl (Sl Int) => Go.Proofs.YtohneogdekdboaaGreatDoor.star [fact (c.l.map Sl.l = rows), Go.Proofs.YtohneogdekdboaaGreatDoor.blk b [c.v] 33, roS fun u => ∀ x ∈ c.l, SlT cInt u x, oT (cSl cInt) 56 c.v c.l]) ⟨v, acc⟩ (St.pack (L1 := [_, _, _, _]) (St.factI ha h))
theorem St.rows0 {n0 : Nat} {w0 u : World} {L : List SA} {b : Nat} (h : St n0 w0 (Go.Proofs.YtohneogdekdboaaGreatDoor.blk b [.slice none 0 0] 33 :: L) u) : St n0 w0 (Jt2 b [] :: L) u := by
 have h1 := (h.osl0 (e := 56) (size := 1)).perm (List.Perm.swap _ _ _)
 have h2 := (St.roTrue h1 (p := fun u => ∀ x ∈ ([] : List (Sl Int)), SlT cInt u x) (fun u x h => absurd h List.not_mem_nil)).perm (List.Perm.swap _ _ _)
 exact St.rowsI (acc := []) rfl h2
theorem Jpm {w u : World} (R : SA) (G : Game) (hn : NearG G) (b : Nat) (fb : Nat) (acc : List (List Int)) (y : Pos) (f : Film) (hyx : y.x = f.x) (hq : posG G.p f.x = 0) (hac : acc.length ≤ 1000) (hu : St w.heap.size w [blk fb [G.rm.pls.v, G.rm.ths.v, G.rm.prs.v, G.rm.wys.v, G.rm.acs.v, G.rm.aus.v, .int .i64 G.rm.ply, G.rm.gl.v, G.lks.v, G.cds.v, G.nts.v, .int .i64 G.tr, y.st.ths.v, y.st.prs.v, y.st.pls.v, y.rd.v, .bool f.st, .int .i64 f.si, .int .i64 f.pa, .int .i64 f.en, .int .i64 f.hi] 94, roS fun u => PosOk u y, Jt2 b acc, R] u) :
  Calls Tryz.prog 52 #[.pointer (some ⟨fb, 0, none⟩), .pointer (some ⟨b, 0, none⟩)] u (fun e u' => e = .returned (.tuple #[]) ∧ St w.heap.size w [blk fb [G.rm.pls.v, G.rm.ths.v, G.rm.prs.v, G.rm.wys.v, G.rm.acs.v, G.rm.aus.v, .int .i64 G.rm.ply, G.rm.gl.v, G.lks.v, G.cds.v, G.nts.v, .int .i64 G.tr, y.st.ths.v, y.st.prs.v, y.st.pls.v, y.rd.v, .bool f.st, .int .i64 f.si, .int .i64 f.pa, .int .i64 f.en, .int .i64 f.hi] 94, roS fun u => PosOk u y, Jt2 b (acc ++ [f.x.1.1]), R] u') := by
 have hnth := hn.rm.ths
 have hyn : y.st.ths.l.length = G.rm.ths.l.length := by have h9 := Jbm hq; rw [← hyx] at h9; exact h9
 have hyT := (hu.ro (j := 1) rfl).st.ths.ints
 obtain ⟨c, hu2⟩ := (hu.sel [2, 0, 0, 0] rfl).ex
 have hu3 := hu2.unpack
 have hacc : c.l.map Sl.l = acc := hu3.factE (j := 0) rfl
 have hcl : c.l.length = acc.length := by rw [← hacc, List.length_map]
 refine Jd2 hu3 Tryz.func52 rfl rfl (Nat.le_of_ble_eq_true rfl) ?_
 refine CS.drawnTill 9 (k := 11) Jai rfl rfl ?_
 refine Tk 11 0 [1,2,3,4,5] rfl (Ba 1) ?_
 refine Tk 11 6 [] rfl (Ba 4) ?_
 refine To 7 rfl ?_
 refine Wc rfl rfl Jij (fun u hu => Jcn _ _ u ((hu.ro (j := 5) rfl).st.ths.ints) (by omega)) (fun _ => rfl) ?_; intro v10 hv10
 refine Wd (Qt ?_)
 refine To 8 rfl ?_
 refine WS.buildSlice1 sl33 zv56 (vs := [v10]) rfl rfl (by decide) (fun v h => by simp at h; subst h; exact hv10) (fun _ => rfl) ?_; intro v11
 refine Wd (Qt ?_)
 refine To 9 rfl ?_
 refine WS.appendT2 (C := cSl cInt) (a := ⟨v10, y.st.ths.l⟩) (j := 5) (jz := 0) sl33 zv56 rfl (by decide) rfl rfl rfl rfl (fun v h => by simp [cSl] at h; subst h; exact hv10) (by omega) (by omega) (fun _ => rfl) (fun _ => rfl) ?_; intro v12 hv12
 refine Wd (Qt ?_)
 refine To 10 rfl ?_
 refine Ws 0 3 ?_
 refine Wd (Qt ?_)
 refine Te ?_
 exact out0 (Or.inr rfl) rfl (fun u hu => ⟨rfl, by
   have h1 := hu.sel [1, 3, 2, 2, 2, 2, 2] rfl
   have h2 := St.ro2 (A := oints 3 v10 y.st.ths.l) (p := fun u => SlT cInt u ⟨v10, y.st.ths.l⟩) (q := fun u => ∀ x ∈ c.l, SlT cInt u x) (r := fun u => ∀ x ∈ c.l ++ [(⟨v10, y.st.ths.l⟩ : Sl Int)], SlT cInt u x) (fun S u h => SlI.tree (Jbc h.2)) (fun S u h => roS.now h) (fun u hp hq x hx => by
    rcases List.mem_append.1 hx with h | h
    ·
     exact hq x h
    rw [List.mem_singleton.1 h]; exact hp) h1
   have h3 := St.rowsI (rows := acc ++ [f.x.1.1]) (acc := c.l ++ [(⟨v10, y.st.ths.l⟩ : Sl Int)]) (by rw [List.map_append, hacc, ← hyx]; rfl) (h2.sel [1, 0, 0, 0, 0, 0] rfl)
   exact h3.sel [1, 1, 0, 0] rfl⟩)
theorem Jmy (G : Game) (w : World) (hG : GameOk w G) (hn : NearG G) (g : Sl ByteArray) (hW : GOk w g) (l : Sl Entr) (hk : SlT cEntry w l) (hE : (Jaj G.p l.l).1 = 0) :
  Calls Tryz.prog 23 #[.agg #[G.rm.pls.v, G.rm.ths.v, G.rm.prs.v, G.rm.wys.v, G.rm.acs.v, G.rm.aus.v, .int .i64 G.rm.ply, G.rm.gl.v, G.lks.v, G.cds.v, G.nts.v, .int .i64 G.tr], l.v] w (Juv w (Ja2 G.p l.l)) := by
 refine enter Tryz.func23 rfl rfl (Nat.le_of_ble_eq_true rfl) ?_
 refine Nz 0 ?_
 refine Wb 0 rfl rfl (fun _ => rfl) (fun _ => rfl) fun b2 hb2 => ?_
 refine Wl 0 zv33 (fun _ => rfl) (fun _ => rfl) fun b4 hb4 => ?_
 refine Wl 1 zv61 (fun _ => rfl) (fun _ => rfl) fun b5 hb5 => ?_
 refine Wd (Qc (Nz 0 ?_))
 refine Wk 1 (Bb 2) ?_
 refine Wk 0 (Jaq rfl) ?_
 refine WS.sel [1, 0, 0] rfl ?_
 refine WS.weak (fun u hu => St.rows0 hu) ?_
 refine WS.callS rfl rfl Jpv (fun u hu => Jl4 (Jt2 b4) G hG hn g hW l hk 52 [.pointer (some ⟨b4, 0, none⟩)] J8k (fun R fb acc y f u hyx hq hac hu => Jpm R G hn b4 fb acc y f hyx hq hac hu) _ hE hu) (fun _ => rfl) ?_; rintro ⟨fb, y⟩ ⟨hyx, uy, hyok⟩
 dsimp only at hyx hyok
 refine WS.sel [2, 0, 0, 0, 0] rfl ?_
 refine WS.ex ?_; intro c
 refine WS.unpack ?_
 refine WS.factE (j := 0) rfl (fun hacc => ?_)
 refine WS.oc (j := 3) rfl (fun hcv => ?_)
 refine Wz 5 ?_
 refine Wd (Qc (Cs (Nz 2 ?_)))
 refine Wd (Qc (CS.cond rfl ?_ ?_))<;>intro hc1<;>try simp only [bq] at hc1
 ·
  exact absurd trivial hc1
 have hrv : Ja2 G.p l.l = (0, Jc7 G.p l.l (Jax G.p), (Jaj G.p l.l).2.2.x) := if_pos hE
 obtain ⟨hya, hyb, hyc⟩ := hyok.st.ones
 have hyd := Sl.one hyok.rd
 refine Ck (Qc (Cs ?_))
 refine CS.drawnTill 5 (k := 8) Jai rfl rfl ?_
 refine Tk 8 0 [] rfl (Ba 1) ?_
 refine AT.two (i := 1) (j := 5) (by kernel_rfl) rfl rfl (by first | (intro h; exact absurd h (by decide)) | exact fun _ _ h => h | exact fun _ _ h => h.sub (by repeat first | exact List.Sublist.refl _ | apply List.Sublist.cons_cons | apply List.Sublist.cons)) rfl rfl ?_ ?_
 ·
  refine Wz 1 ?_
  refine Wd (Qt ?_)
  refine AT.two (i := 2) (j := 5) (by kernel_rfl) rfl rfl (by first | (intro h; exact absurd h (by decide)) | exact fun _ _ h => h | exact fun _ _ h => h.sub (by repeat first | exact List.Sublist.refl _ | apply List.Sublist.cons_cons | apply List.Sublist.cons)) rfl rfl ?_ ?_
  ·
   refine Wz 1 ?_
   refine Wd (Qt ?_)
   refine AT.two (i := 3) (j := 5) (by kernel_rfl) rfl rfl (by first | (intro h; exact absurd h (by decide)) | exact fun _ _ h => h | exact fun _ _ h => h.sub (by repeat first | exact List.Sublist.refl _ | apply List.Sublist.cons_cons | apply List.Sublist.cons)) rfl rfl ?_ ?_
   ·
    refine Wz 1 ?_
    refine Wd (Qt ?_)
    refine AT.two (i := 4) (j := 5) (by kernel_rfl) rfl rfl (by first | (intro h; exact absurd h (by decide)) | exact fun _ _ h => h | exact fun _ _ h => h.sub (by repeat first | exact List.Sublist.refl _ | apply List.Sublist.cons_cons | apply List.Sublist.cons)) rfl rfl ?_ ?_
    ·
     refine Wk 0 (Bc 4) ?_
     refine Wd (Qt ?_)
     refine To 5 rfl ?_
     refine Ws 0 1 ?_
     refine Wd (Qt ?_)
     refine To 6 rfl ?_
     refine Wv 0 6 ?_
     refine Wd (Qt ?_)
     refine To 7 rfl ?_
     refine Wz 1 ?_
     refine Wd (Qt ?_)
     refine Te ?_
     refine Qc (Cr ?_)
     exact outR (Jmv rfl (Jhp (j := 1) rfl rfl rfl tk33) (Jam (j := 6) rfl rfl tk61) rfl) (by
       rw [hrv]
       exact Jrv (V := (0, Jc7 G.p l.l (Jax G.p), (Jaj G.p l.l).2.2.x)) (acc := c.l) (y := y) hacc hyx (fun S u h => ⟨⟨Star.osl (j := 3) rfl h, Star.ro (j := 2) rfl h⟩, Star.ro (j := 5) rfl h⟩))
    refine Ws 0 1 ?_
    refine Wd (Qt ?_)
    refine To 4 rfl ?_
    refine Wk 0 (Bc 4) ?_
    refine Wd (Qt ?_)
    refine To 6 rfl ?_
    refine Wv 0 6 ?_
    refine Wd (Qt ?_)
    refine To 7 rfl ?_
    refine Wz 1 ?_
    refine Wd (Qt ?_)
    refine Te ?_
    refine Qc (Cr ?_)
    exact outR (Jmv rfl (Jhp (j := 1) rfl rfl rfl tk33) (Jam (j := 6) rfl rfl tk61) rfl) (by
      rw [hrv]
      exact Jrv (V := (0, Jc7 G.p l.l (Jax G.p), (Jaj G.p l.l).2.2.x)) (acc := c.l) (y := y) hacc hyx (fun S u h => ⟨⟨Star.osl (j := 3) rfl h, Star.ro (j := 2) rfl h⟩, Star.ro (j := 5) rfl h⟩))
   refine Ws 0 1 ?_
   refine Wd (Qt ?_)
   refine To 3 rfl ?_
   refine Wz 1 ?_
   refine Wd (Qt ?_)
   refine To 4 rfl ?_
   refine Wk 0 (Bc 4) ?_
   refine Wd (Qt ?_)
   refine To 6 rfl ?_
   refine Wv 0 6 ?_
   refine Wd (Qt ?_)
   refine To 7 rfl ?_
   refine Wz 1 ?_
   refine Wd (Qt ?_)
   refine Te ?_
   refine Qc (Cr ?_)
   exact outR (Jmv rfl (Jhp (j := 1) rfl rfl rfl tk33) (Jam (j := 6) rfl rfl tk61) rfl) (by
     rw [hrv]
     exact Jrv (V := (0, Jc7 G.p l.l (Jax G.p), (Jaj G.p l.l).2.2.x)) (acc := c.l) (y := y) hacc hyx (fun S u h => ⟨⟨Star.osl (j := 3) rfl h, Star.ro (j := 2) rfl h⟩, Star.ro (j := 5) rfl h⟩))
  refine Ws 0 1 ?_
  refine Wd (Qt ?_)
  refine To 2 rfl ?_
  refine Wz 1 ?_
  refine Wd (Qt ?_)
  refine To 3 rfl ?_
  refine Wz 1 ?_
  refine Wd (Qt ?_)
  refine To 4 rfl ?_
  refine Wk 0 (Bc 4) ?_
  refine Wd (Qt ?_)
  refine To 6 rfl ?_
  refine Wv 0 6 ?_
  refine Wd (Qt ?_)
  refine To 7 rfl ?_
  refine Wz 1 ?_
  refine Wd (Qt ?_)
  refine Te ?_
  refine Qc (Cr ?_)
  exact outR (Jmv rfl (Jhp (j := 1) rfl rfl rfl tk33) (Jam (j := 6) rfl rfl tk61) rfl) (by
    rw [hrv]
    exact Jrv (V := (0, Jc7 G.p l.l (Jax G.p), (Jaj G.p l.l).2.2.x)) (acc := c.l) (y := y) hacc hyx (fun S u h => ⟨⟨Star.osl (j := 3) rfl h, Star.ro (j := 2) rfl h⟩, Star.ro (j := 5) rfl h⟩))
 refine Ws 0 1 ?_
 refine Wd (Qt ?_)
 refine To 1 rfl ?_
 refine Wz 1 ?_
 refine Wd (Qt ?_)
 refine To 2 rfl ?_
 refine Wz 1 ?_
 refine Wd (Qt ?_)
 refine To 3 rfl ?_
 refine Wz 1 ?_
 refine Wd (Qt ?_)
 refine To 4 rfl ?_
 refine Wk 0 (Bc 4) ?_
 refine Wd (Qt ?_)
 refine To 6 rfl ?_
 refine Wv 0 6 ?_
 refine Wd (Qt ?_)
 refine To 7 rfl ?_
 refine Wz 1 ?_
 refine Wd (Qt ?_)
 refine Te ?_
 refine Qc (Cr ?_)
 exact outR (Jmv rfl (Jhp (j := 1) rfl rfl rfl tk33) (Jam (j := 6) rfl rfl tk61) rfl) (by
   rw [hrv]
   exact Jrv (V := (0, Jc7 G.p l.l (Jax G.p), (Jaj G.p l.l).2.2.x)) (acc := c.l) (y := y) hacc hyx (fun S u h => ⟨⟨Star.osl (j := 3) rfl h, Star.ro (j := 2) rfl h⟩, Star.ro (j := 5) rfl h⟩))
theorem Jn3 (G : Game) (w : World) (hG : GameOk w G) (hn : NearG G) (g : Sl ByteArray) (hW : GOk w g) (l : Sl Entr) (hk : SlT cEntry w l) (hE : ¬ (Jaj G.p l.l).1 = 0) :
  Calls Tryz.prog 23 #[.agg #[G.rm.pls.v, G.rm.ths.v, G.rm.prs.v, G.rm.wys.v, G.rm.acs.v, G.rm.aus.v, .int .i64 G.rm.ply, G.rm.gl.v, G.lks.v, G.cds.v, G.nts.v, .int .i64 G.tr], l.v] w (Juv w (Ja2 G.p l.l)) := by
 refine enter Tryz.func23 rfl rfl (Nat.le_of_ble_eq_true rfl) ?_
 refine Nz 0 ?_
 refine Wb 0 rfl rfl (fun _ => rfl) (fun _ => rfl) fun b2 hb2 => ?_
 refine Wl 0 zv33 (fun _ => rfl) (fun _ => rfl) fun b4 hb4 => ?_
 refine Wl 1 zv61 (fun _ => rfl) (fun _ => rfl) fun b5 hb5 => ?_
 refine Wd (Qc (Nz 0 ?_))
 refine Wk 1 (Bb 2) ?_
 refine Wk 0 (Jaq rfl) ?_
 refine WS.sel [1, 0, 0] rfl ?_
 refine WS.weak (fun u hu => St.rows0 hu) ?_
 refine WS.callS rfl rfl Jpv (fun u hu => Jmf (Jt2 b4) G hG hn g hW l hk 52 [.pointer (some ⟨b4, 0, none⟩)] J8k (fun R fb acc y f u hyx hq hac hu => Jpm R G hn b4 fb acc y f hyx hq hac hu) _ hE hu) (fun _ => rfl) ?_; rintro acc -
 refine WS.ex ?_; intro c
 refine WS.unpack ?_
 refine WS.factE (j := 0) rfl (fun hacc => ?_)
 refine WS.oc (j := 3) rfl (fun hcv => ?_)
 refine Wz 5 ?_
 refine Wd (Qc (Cs (Nz 2 ?_)))
 refine Wd (Qc (CS.cond rfl ?_ ?_))<;>intro hc1<;>try simp only [bq] at hc1
 ·
  refine Nz 0 ?_
  refine Wk 1 (Db Jd1 zv61) ?_
  refine Ws 0 1 ?_
  refine Wv 1 4 ?_
  refine Wd (Qc (Cr (Qr ?_)))
  exact outR (Jmv rfl (Jhp (j := 1) rfl rfl rfl tk33) (Jam (j := 4) rfl rfl tk61) rfl) (by
    have hrv : Ja2 G.p l.l = ((Jaj G.p l.l).1, [], noP) := if_neg hE
    rw [hrv]
    exact J26)
 exact absurd hc1 hE
theorem Jcu (G : Game) (w : World) (hG : GameOk w G) (hn : NearG G) (g : Sl ByteArray) (hW : GOk w g) (l : Sl Entr) (hk : SlT cEntry w l) :
  Calls Tryz.prog 23 #[.agg #[G.rm.pls.v, G.rm.ths.v, G.rm.prs.v, G.rm.wys.v, G.rm.acs.v, G.rm.aus.v, .int .i64 G.rm.ply, G.rm.gl.v, G.lks.v, G.cds.v, G.nts.v, .int .i64 G.tr], l.v] w (Juv w (Ja2 G.p l.l)) := by
 by_cases hE : (Jaj G.p l.l).1 = 0
 ·
  exact Jmy G w hG hn g hW l hk hE
 exact Jn3 G w hG hn g hW l hk hE
theorem Jyx (G : Game) (w : World) (hG : GameOk w G) (hn : NearG G) (g : Sl ByteArray) (hW : GOk w g) (l : Sl Entr) (hk : SlT cEntry w l) (hE : (Jaj G.p l.l).1 = 0) :
  Calls Tryz.prog 25 #[.agg #[G.rm.pls.v, G.rm.ths.v, G.rm.prs.v, G.rm.wys.v, G.rm.acs.v, G.rm.aus.v, .int .i64 G.rm.ply, G.rm.gl.v, G.lks.v, G.cds.v, G.nts.v, .int .i64 G.tr], l.v] w (RetB w (.tuple #[.bool (Jet G.p l.l).2, .int .i64 (Jet G.p l.l).1])) := by
 have lls := hk.le
 obtain ⟨hB, hL, F, hR, hV⟩ := Jeq hE
 refine enter Tryz.func25 rfl rfl (Nat.le_of_ble_eq_true rfl) ?_
 refine Nz 0 ?_
 refine Wb 2 rfl rfl (fun _ => rfl) (fun _ => rfl) fun b2 hb2 => ?_
 refine Wd (Qc (Cs (Nz 0 ?_)))
 refine Wk 1 (Bb 0) ?_
 refine WS.weak (fun u hu => hu.osl0 (e := 0) (size := 1)) ?_
 refine WS.callS rfl rfl Jpv (fun u hu => Jnw _ G hG hn g hW l hk hE hu) (fun _ => rfl) ?_; rintro ⟨fb, y⟩ ⟨hyx, uy, hyok⟩
 dsimp only at hyx hyok
 refine WS.sel [3] rfl ?_
 refine Wz 5 ?_
 refine Wd (Qc (Nz 2 ?_))
 refine Wd (Qc (CS.cond rfl ?_ ?_))<;>intro hc1<;>try simp only [bq] at hc1
 ·
  exact absurd trivial hc1
 refine Ck (Qc (Nz 1 ?_))
 refine Wd (Qc (Nz 1 ?_))
 refine Wd (Qc (Cs (Nz 1 ?_)))
 refine Wk 1 Nc ?_
 refine Wd (Qc (Ce ?_))
 refine CS.weak (fun _ hu => hu.osl0 (e := 77) (size := 4)) ?_
 refine CS.weak (fun _ hu => hu.osl0 (e := 73) (size := 7)) ?_
 refine CS.loopM (σ := Int × Value × Value) [11, 27, 28, 29, 30, 31, 32, 33, 34, 35, 36, 37, 38, 39, 40, 41, 42, 43, 44, 45, 46, 47, 48, 49, 50, 51, 52, 53] (fun s => [(26, .int .i64 s.1), (8, s.2.1), (9, s.2.2)]) (fun s => [oT cEntry 73 s.2.2 (Jgk (l.l.take s.1.toNat)), oT cTimed 77 s.2.1 (Jay (l.l.take s.1.toNat)), blk b2 [G.rm.pls.v, G.rm.ths.v, G.rm.prs.v, G.rm.wys.v, G.rm.acs.v, G.rm.aus.v, .int .i64 G.rm.ply, G.rm.gl.v, G.lks.v, G.cds.v, G.nts.v, .int .i64 G.tr] 36]) (fun s => 0 ≤ s.1 ∧ s.1 ≤ l.l.length) (fun s => (l.l.length - s.1).toNat) (0, .slice none 0 0, .slice none 0 0) (fun _ _ => rfl) rfl rfl ⟨by simp, by simp⟩ ?_
 intro s t hs
 obtain ⟨hs1, hs2⟩ := hs
 have htl : (l.l.take s.1.toNat).length ≤ l.l.length := List.length_take_le' _ _
 have hmv := Jj4 (l := l.l.take s.1.toNat)
 have how := Jys (l := l.l.take s.1.toNat)
 refine Nz 1 ?_
 refine Wd (Qc (Cs (CS.cond rfl ?_ ?_)))<;>intro hc2<;>try simp only [bq] at hc2
 ·
  refine Ck (Qc (Cs (Ce (Nz 0 ?_))))
  refine Wk 0 Xc ?_
  refine Wk 0 Ua ?_
  refine Wl 0 zv73 (fun _ => rfl) (fun _ => rfl) fun b11 hb11 => ?_
  refine Wv 0 0 ?_
  refine Wd (Qc (Cs (Nz 1 ?_)))
  refine Wk 1 (Ba 0) ?_
  refine Wd (Qc (CS.cond rfl ?_ ?_))<;>intro hc3<;>try simp only [bq] at hc3
  ·
   refine Ny 2 ?_
   refine Wk 1 (Ba 0) ?_
   refine Wk 0 (Bc 0) ?_
   refine Wk 0 (Jas J01 zv77 (pcs := [(0, [.int .i64 (nth l.l s.1).t]), (1, [.int .i64 (nth l.l s.1).m.p, .int .i64 (nth l.l s.1).m.k, .int .i64 (nth l.l s.1).m.n])]) rfl (CellsOf.one rfl (CellsOf.agg CellsOf.nil)) rfl) ?_
   refine WS.buildT1 cTimed (a := (⟨(nth l.l s.1).t, (nth l.l s.1).m⟩ : Timed)) sl37 zv77 rfl (by decide) (fun _ => rfl) ?_; intro v39
   refine WS.appendT1 (C := cTimed) (a := (⟨(nth l.l s.1).t, (nth l.l s.1).m⟩ : Timed)) (j := 3) (jz := 0) sl37 zv77 rfl (by decide) rfl rfl rfl rfl (w := w) trivial (by omega) (by omega) (fun _ => rfl) (fun _ => rfl) ?_; intro v40 hv40
   refine Wz 1 ?_
   refine Wd (Qc (Nz 1 ?_))
   refine Wk 2 (Ba 1) ?_
   refine Wf 0 rfl rfl (fun hg => Ff) ?_
   refine Wf 0 rfl rfl (fun hg => Ba 1) ?_
   refine Wf 0 rfl rfl (fun hg => Fq) ?_
   refine Wk 0 Po ?_
   refine Wd (Qc (CS.cond rfl ?_ ?_))<;>intro hc4<;>try simp only [bq] at hc4
   ·
    have hk4 : (nth l.l s.1).k = 1 ∨ (nth l.l s.1).k = 5 := by have h9 := hc4; first | omega | (simp at h9; omega)
    refine Ny 1 ?_
    refine Wk 0 (Bb 1) ?_
    refine WS.buildT1 cEntry (a := (nth l.l s.1)) sl40 zv73 rfl (by decide) (fun _ => rfl) ?_; intro v51
    refine WS.appendT1 (C := cEntry) (a := (nth l.l s.1)) (j := 3) (jz := 0) sl40 zv73 rfl (by decide) rfl rfl rfl rfl (w := w) trivial (by omega) (by omega) (fun _ => rfl) (fun _ => rfl) ?_; intro v52 hv52
    refine Wz 1 ?_
    refine Wd (Qb (Qc (Ny 0 ?_)))
    refine Wk 1 Za ?_
    refine Wd ?_
    refine QS.sel [3, 3, 3] rfl ?_
    exact QS.head ((s.1 + 1, v40, v52)) rfl (by first | simp only [Jcm hs1 (by omega) hc3, Jc2 hs1 (by omega) hk4] | simp only [Jcm hs1 (by omega) hc3, Jd7 hs1 (by omega) hk4] | simp only [Jdo hs1 (by omega) hc3, Jc2 hs1 (by omega) hk4] | simp only [Jdo hs1 (by omega) hc3, Jd7 hs1 (by omega) hk4]) ⟨⟨by simp; omega, by simp; omega⟩, by simp; omega⟩
   have hk4 : ¬ ((nth l.l s.1).k = 1 ∨ (nth l.l s.1).k = 5) := by have h9 := hc4; first | omega | (simp at h9; omega)
   refine Ck (Qb (Qc (Ny 0 ?_)))
   refine Wk 1 Za ?_
   refine Wd ?_
   refine QS.sel [2, 2, 2] rfl ?_
   exact QS.head ((s.1 + 1, v40, s.2.2)) rfl (by first | simp only [Jcm hs1 (by omega) hc3, Jc2 hs1 (by omega) hk4] | simp only [Jcm hs1 (by omega) hc3, Jd7 hs1 (by omega) hk4] | simp only [Jdo hs1 (by omega) hc3, Jc2 hs1 (by omega) hk4] | simp only [Jdo hs1 (by omega) hc3, Jd7 hs1 (by omega) hk4]) ⟨⟨by simp; omega, by simp; omega⟩, by simp; omega⟩
  refine Ck (Qc (Nz 1 ?_))
  refine Wk 2 (Ba 0) ?_
  refine Wf 0 rfl rfl (fun hg => Ff) ?_
  refine Wf 0 rfl rfl (fun hg => Ba 0) ?_
  refine Wf 0 rfl rfl (fun hg => Fq) ?_
  refine Wk 0 Po ?_
  refine Wd (Qc (CS.cond rfl ?_ ?_))<;>intro hc4<;>try simp only [bq] at hc4
  ·
   have hk4 : (nth l.l s.1).k = 1 ∨ (nth l.l s.1).k = 5 := by have h9 := hc4; first | omega | (simp at h9; omega)
   refine Ny 1 ?_
   refine Wk 0 (Bb 0) ?_
   refine WS.buildT1 cEntry (a := (nth l.l s.1)) sl40 zv73 rfl (by decide) (fun _ => rfl) ?_; intro v51
   refine WS.appendT1 (C := cEntry) (a := (nth l.l s.1)) (j := 2) (jz := 0) sl40 zv73 rfl (by decide) rfl rfl rfl rfl (w := w) trivial (by omega) (by omega) (fun _ => rfl) (fun _ => rfl) ?_; intro v52 hv52
   refine Wz 1 ?_
   refine Wd (Qb (Qc (Ny 0 ?_)))
   refine Wk 1 Za ?_
   refine Wd ?_
   refine QS.sel [2, 2, 2] rfl ?_
   exact QS.head ((s.1 + 1, s.2.1, v52)) rfl (by first | simp only [Jcm hs1 (by omega) hc3, Jc2 hs1 (by omega) hk4] | simp only [Jcm hs1 (by omega) hc3, Jd7 hs1 (by omega) hk4] | simp only [Jdo hs1 (by omega) hc3, Jc2 hs1 (by omega) hk4] | simp only [Jdo hs1 (by omega) hc3, Jd7 hs1 (by omega) hk4]) ⟨⟨by simp; omega, by simp; omega⟩, by simp; omega⟩
  have hk4 : ¬ ((nth l.l s.1).k = 1 ∨ (nth l.l s.1).k = 5) := by have h9 := hc4; first | omega | (simp at h9; omega)
  refine Ck (Qb (Qc (Ny 0 ?_)))
  refine Wk 1 Za ?_
  refine Wd ?_
  refine QS.sel [1, 1, 1] rfl ?_
  exact QS.head ((s.1 + 1, s.2.1, s.2.2)) rfl (by first | simp only [Jcm hs1 (by omega) hc3, Jc2 hs1 (by omega) hk4] | simp only [Jcm hs1 (by omega) hc3, Jd7 hs1 (by omega) hk4] | simp only [Jdo hs1 (by omega) hc3, Jc2 hs1 (by omega) hk4] | simp only [Jdo hs1 (by omega) hc3, Jd7 hs1 (by omega) hk4]) ⟨⟨by simp; omega, by simp; omega⟩, by simp; omega⟩
 have hta : l.l.take s.1.toNat = l.l := List.take_of_length_le (by omega)
 refine Cv (Qe (Qe (Qx (Qc (Nz 0 ?_)))))
 refine Wk 1 (Bb 2) ?_
 refine Wc rfl rfl Jw8 (fun u hu => Jgl G u (hG.st hu) hn g (hW.st hu) ⟨s.2.1, Jay (l.l.take s.1.toNat)⟩ ⟨Jbe hu (j := 1) rfl, fun _ _ ↦ trivial⟩ (by show (Jay (l.l.take s.1.toNat)).length ≤ 1000; omega)) (fun _ => rfl) ?_; rintro v57 ⟨u57, h57⟩
 refine Wz 7 ?_
 refine Wd (Qc (Nz 3 ?_))
 refine Wt 0 rfl rfl (fun hg => Fm) ?_
 refine Wt 0 rfl rfl (fun hg => Fm) ?_
 refine Wt 0 rfl rfl (fun hg => Cb rfl (ec_ (eg_ hg rfl) (ec_ (eg_ hg rfl) en_)) Ka3 (fun u hu => J1s ⟨s.2.2, Jgk (l.l.take s.1.toNat)⟩ ⟨v57, _⟩ u ⟨Jbe hu (j := 1) rfl, fun _ _ ↦ trivial⟩ (hu.ro (j := 0) rfl))) ?_
 refine Wk 2 Pa ?_
 exact Wd (Qc (Cr (out2 rfl rfl rfl (Jab (by rw [Jhw hE, hta])))))
theorem Jx3 (G : Game) (w : World) (hG : GameOk w G) (hn : NearG G) (g : Sl ByteArray) (hW : GOk w g) (l : Sl Entr) (hk : SlT cEntry w l) (hE : ¬ (Jaj G.p l.l).1 = 0) :
  Calls Tryz.prog 25 #[.agg #[G.rm.pls.v, G.rm.ths.v, G.rm.prs.v, G.rm.wys.v, G.rm.acs.v, G.rm.aus.v, .int .i64 G.rm.ply, G.rm.gl.v, G.lks.v, G.cds.v, G.nts.v, .int .i64 G.tr], l.v] w (RetB w (.tuple #[.bool (Jet G.p l.l).2, .int .i64 (Jet G.p l.l).1])) := by
 refine enter Tryz.func25 rfl rfl (Nat.le_of_ble_eq_true rfl) ?_
 refine Nz 0 ?_
 refine Wb 2 rfl rfl (fun _ => rfl) (fun _ => rfl) fun b2 hb2 => ?_
 refine Wd (Qc (Cs (Nz 0 ?_)))
 refine Wk 1 (Bb 0) ?_
 refine WS.weak (fun u hu => hu.osl0 (e := 0) (size := 1)) ?_
 refine WS.callS rfl rfl Jpv (fun u hu => Joc _ G hG hn g hW l hk hE hu) (fun _ => rfl) ?_; rintro acc -
 refine Wz 5 ?_
 refine Wd (Qc (Nz 2 ?_))
 refine Wd (Qc (CS.cond rfl ?_ ?_))<;>intro hc1<;>try simp only [bq] at hc1
 ·
  refine Nz 3 ?_
  exact Wd (Qc (Cr (Qr (out2 rfl rfl rfl (Jab (by rw [Jnl hE]))))))
 exact absurd hc1 hE
theorem Jmz (G : Game) (w : World) (hG : GameOk w G) (hn : NearG G) (g : Sl ByteArray) (hW : GOk w g) (l : Sl Entr) (hk : SlT cEntry w l) :
  Calls Tryz.prog 25 #[.agg #[G.rm.pls.v, G.rm.ths.v, G.rm.prs.v, G.rm.wys.v, G.rm.acs.v, G.rm.aus.v, .int .i64 G.rm.ply, G.rm.gl.v, G.lks.v, G.cds.v, G.nts.v, .int .i64 G.tr], l.v] w (RetB w (.tuple #[.bool (Jet G.p l.l).2, .int .i64 (Jet G.p l.l).1])) := by
 by_cases hE : (Jaj G.p l.l).1 = 0
 ·
  exact Jyx G w hG hn g hW l hk hE
 exact Jx3 G w hG hn g hW l hk hE
end Go.Proofs.YtohneogdekdboaaGreatDoor
