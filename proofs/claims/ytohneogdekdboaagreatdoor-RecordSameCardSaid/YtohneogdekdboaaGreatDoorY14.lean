/- Merged texts of this proof (walks and plain laws), printed by a program of the prover. -/
import Derived.Test.YtohneogdekdboaaGreatDoorY2
import Derived.Test.YtohneogdekdboaaGreatDoorY4
import Derived.Test.YtohneogdekdboaaGreatDoorZb
import Derived.Test.YtohneogdekdboaaGreatDoorProg
import Derived.KernelRfl
import Derived.Test.YtohneogdekdboaaGreatDoorZc
import Derived.Test.YtohneogdekdboaaGreatDoorZz
import Derived.Test.YtohneogdekdboaaGreatDoorXa
import Derived.Test.YtohneogdekdboaaGreatDoorXd
import Derived.Test.YtohneogdekdboaaGreatDoorXe
namespace Go.Proofs.YtohneogdekdboaaGreatDoor
set_option linter.unusedVariables false
set_option linter.unusedSimpArgs false
open Go.RowKit
def Jb3 (G : GP) (l : List Entr) : Int × Int × Int := if (Jaj G l).1 = 0 then if (Jaj G l).2.2.en < 0 then (3, 0, 0) else (0, (Jaj G l).2.2.en, (Jaj G l).2.2.hi) else ((Jaj G l).1, 0, 0)
end Go.Proofs.YtohneogdekdboaaGreatDoor
namespace Go.Proofs.YtohneogdekdboaaGreatDoor
open Go.Proofs
theorem J05 : Ent Tryz.prog 19 := Jac Tryz.func19 (by kernel_rfl) rfl
end Go.Proofs.YtohneogdekdboaaGreatDoor
set_option maxHeartbeats 8000000
namespace Go.Proofs.YtohneogdekdboaaGreatDoor
open Go.RowKit Go.Proofs
set_option maxRecDepth 100000
set_option linter.unusedVariables false
set_option linter.unusedSimpArgs false
theorem J0h {α : Type} [Inhabited α] {e x : α} {l : List α} : nth (e :: x :: l) (((e :: x :: l).length : Int) - 1) = nth (x :: l) (((x :: l).length : Int) - 1) := by
 have h1 : (((e :: x :: l).length : Int) - 1).toNat = l.length + 1 := by simp
 have h2 : (((x :: l).length : Int) - 1).toNat = l.length := by simp
 simp [nth, List.getD, h1, h2]
theorem Jmx {G : Game} : ∀ (l : List Entr) (i last : Int) (f f' : Film), FilmOk G f last i → Jb1 G.p l i last f = .ok f' →
  ∃ last', FilmOk G f' last' (i + l.length) ∧ (l = [] → f' = f) ∧ (l ≠ [] → last' = (nth l ((l.length : Int) - 1)).t)
 | [], i, last, f, f', hf, h => by
  cases h
  exact ⟨last, by simpa using hf, fun _ => rfl, fun h => absurd rfl h⟩
 | e :: l, i, last, f, f', hf, h => by
  unfold Jb1 at h
  split at h
  ·
   rename_i ht
   cases hs : Jaz G.p f e with
   | none => rw [hs] at h; cases h
   | some f1 =>
    rw [hs] at h
    obtain ⟨last', h1, h2, h3⟩ := Jmx l (i + 1) e.t f1 f' (hf.next ht hs) h
    match l, h1, h2, h3, h with
    | [], h1, h2, h3, h =>
     obtain rfl := h2 rfl
     have h9 : Jb1 G.p [] (i + 1) e.t f' = .ok f' := rfl
     refine ⟨e.t, ?_, (fun q => by cases q), fun _ => rfl⟩
     have := hf.next ht hs
     simpa using this
    | x :: l, h1, h2, h3, h =>
     refine ⟨last', ?_, (fun q => by cases q), fun _ => ?_⟩
     ·
      have e1 : i + 1 + ((x :: l).length : Int) = i + ((e :: x :: l).length : Int) := by simp only [List.length_cons]; omega
      rw [← e1]; exact h1
     rw [J0h]; exact h3 (by simp)
  cases h
theorem Jte {G : Game} {l : List Entr} (h0 : (Jaj G.p l).1 = 0) (hn : ¬ (Jaj G.p l).2.2.en < 0) : 0 ≤ (Jaj G.p l).2.2.en ∧ (l = [] → (Jaj G.p l).2.2.en = 0) ∧ (l ≠ [] → (Jaj G.p l).2.2.en ≤ (nth l ((l.length : Int) - 1)).t) ∧ 0 ≤ (Jaj G.p l).2.2.hi ∧ (Jaj G.p l).2.2.hi ≤ l.length := by
 obtain ⟨hb, hl, f, hr, hv⟩ := Jeq h0
 rw [hv] at hn ⊢
 obtain ⟨last', h1, h2, h3⟩ := Jmx l 0 0 _ _ (Jgw hb) hr
 have h4 := h1.en
 have h5 := h1.hi
 refine ⟨by simp only at hn ⊢; omega, fun he => ?_, fun he => ?_, h5.1, by have := h5.2; show f.hi ≤ (l.length : Int); omega⟩
 ·
  obtain rfl := h2 he
  have h6 := (Jgw hb).en
  simp only at hn ⊢
  omega
 rw [← h3 he]
 simp only at hn ⊢
 omega
theorem Jxp {G : GP} {l : List Entr} (h : ¬ (Jaj G l).1 = 0) : Jb3 G l = ((Jaj G l).1, 0, 0) := if_neg h
theorem Jgp {G : GP} {l : List Entr} (h : (Jaj G l).1 = 0) (he : ¬ (Jaj G l).2.2.en < 0) : Jb3 G l = (0, (Jaj G l).2.2.en, (Jaj G l).2.2.hi) := (if_pos h).trans (if_neg he)
theorem Jgz {G : GP} {l : List Entr} (h : (Jaj G l).1 = 0) (he : (Jaj G l).2.2.en < 0) : Jb3 G l = (3, 0, 0) := (if_pos h).trans (if_pos he)
theorem Jrr (G : Game) (w : World) (hG : GameOk w G) (hn : NearG G) (g : Sl ByteArray) (hW : GOk w g) (l : Sl Entr) (hk : SlT cEntry w l) (hE : (Jaj G.p l.l).1 = 0) :
  Calls Tryz.prog 19 #[.agg #[G.rm.pls.v, G.rm.ths.v, G.rm.prs.v, G.rm.wys.v, G.rm.acs.v, G.rm.aus.v, .int .i64 G.rm.ply, G.rm.gl.v, G.lks.v, G.cds.v, G.nts.v, .int .i64 G.tr], l.v] w (RetB w (.tuple #[.int .i64 (Jb3 G.p l.l).2.1, .int .i64 (Jb3 G.p l.l).2.2, .int .i64 (Jb3 G.p l.l).1])) := by
 refine enter Tryz.func19 rfl rfl (Nat.le_of_ble_eq_true rfl) ?_
 refine Nz 0 ?_
 refine Wb 3 rfl rfl (fun _ => rfl) (fun _ => rfl) fun b2 hb2 => ?_
 refine Wd (Qc (Nz 0 ?_))
 refine Wk 1 (Bb 0) ?_
 refine WS.weak (fun u hu => hu.osl0 (e := 0) (size := 1)) ?_
 refine WS.callS rfl rfl Jpv (fun u hu => Jnw _ G hG hn g hW l hk hE hu) (fun _ => rfl) ?_; rintro ⟨fb, y⟩ ⟨hyx, uy, hyok⟩
 dsimp only at hyx hyok
 refine Wz 5 ?_
 refine Wd (Qc (Cs (Nz 2 ?_)))
 refine Wd (Qc (CS.cond rfl ?_ ?_))<;>intro hc1<;>try simp only [bq] at hc1
 ·
  exact absurd trivial hc1
 refine Ck (Qc (Cs (Nz 3 ?_)))
 refine Wk 1 (Ba 0) ?_
 refine Wd (Qc (CS.cond rfl ?_ ?_))<;>intro hc2<;>try simp only [bq] at hc2
 ·
  refine Nz 3 ?_
  exact Wd (Qc (Cr (Qr (out3 rfl rfl rfl rfl (Jab (by rw [Jgz hE hc2]))))))
 refine Ck (Qc (Cs (Dr Jai 3 ?_)))
 refine Dk 3 (Ba 0) ?_
 refine Dk 3 (Ba 0) ?_
 exact Dd (Qc (Cr (out3 rfl rfl rfl rfl (Jab (by rw [Jgp hE (by omega)])))))
theorem Jqo (G : Game) (w : World) (hG : GameOk w G) (hn : NearG G) (g : Sl ByteArray) (hW : GOk w g) (l : Sl Entr) (hk : SlT cEntry w l) (hE : ¬ (Jaj G.p l.l).1 = 0) :
  Calls Tryz.prog 19 #[.agg #[G.rm.pls.v, G.rm.ths.v, G.rm.prs.v, G.rm.wys.v, G.rm.acs.v, G.rm.aus.v, .int .i64 G.rm.ply, G.rm.gl.v, G.lks.v, G.cds.v, G.nts.v, .int .i64 G.tr], l.v] w (RetB w (.tuple #[.int .i64 (Jb3 G.p l.l).2.1, .int .i64 (Jb3 G.p l.l).2.2, .int .i64 (Jb3 G.p l.l).1])) := by
 refine enter Tryz.func19 rfl rfl (Nat.le_of_ble_eq_true rfl) ?_
 refine Nz 0 ?_
 refine Wb 3 rfl rfl (fun _ => rfl) (fun _ => rfl) fun b2 hb2 => ?_
 refine Wd (Qc (Nz 0 ?_))
 refine Wk 1 (Bb 0) ?_
 refine WS.weak (fun u hu => hu.osl0 (e := 0) (size := 1)) ?_
 refine WS.callS rfl rfl Jpv (fun u hu => Joc _ G hG hn g hW l hk hE hu) (fun _ => rfl) ?_; rintro acc -
 refine Wz 5 ?_
 refine Wd (Qc (Cs (Nz 2 ?_)))
 refine Wd (Qc (CS.cond rfl ?_ ?_))<;>intro hc1<;>try simp only [bq] at hc1
 ·
  refine Nz 4 ?_
  exact Wd (Qc (Cr (Qr (out3 rfl rfl rfl rfl (Jab (by rw [Jxp hE]))))))
 exact absurd hc1 hE
theorem Jg8 (G : Game) (w : World) (hG : GameOk w G) (hn : NearG G) (g : Sl ByteArray) (hW : GOk w g) (l : Sl Entr) (hk : SlT cEntry w l) :
  Calls Tryz.prog 19 #[.agg #[G.rm.pls.v, G.rm.ths.v, G.rm.prs.v, G.rm.wys.v, G.rm.acs.v, G.rm.aus.v, .int .i64 G.rm.ply, G.rm.gl.v, G.lks.v, G.cds.v, G.nts.v, .int .i64 G.tr], l.v] w (RetB w (.tuple #[.int .i64 (Jb3 G.p l.l).2.1, .int .i64 (Jb3 G.p l.l).2.2, .int .i64 (Jb3 G.p l.l).1])) := by
 by_cases hE : (Jaj G.p l.l).1 = 0
 ·
  exact Jrr G w hG hn g hW l hk hE
 exact Jqo G w hG hn g hW l hk hE
end Go.Proofs.YtohneogdekdboaaGreatDoor
