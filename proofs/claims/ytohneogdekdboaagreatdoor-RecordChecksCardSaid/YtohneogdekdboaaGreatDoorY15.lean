/- Merged texts of this proof (walks and plain laws), printed by a program of the prover. -/
import Derived.Test.YtohneogdekdboaaGreatDoorY0
import Derived.Test.YtohneogdekdboaaGreatDoorY1
import Derived.Test.YtohneogdekdboaaGreatDoorY2
import Derived.Test.YtohneogdekdboaaGreatDoorY3
import Derived.Test.YtohneogdekdboaaGreatDoorY5
import Derived.Test.YtohneogdekdboaaGreatDoorY6
import Derived.Test.YtohneogdekdboaaGreatDoorY8
import Derived.Test.YtohneogdekdboaaGreatDoorY9
import Derived.Test.YtohneogdekdboaaGreatDoorZb
import Derived.Laws.StructEq
import Derived.ChangeKeysEq
import Derived.Test.YtohneogdekdboaaGreatDoorProg
import Derived.KernelRfl
import Derived.Test.YtohneogdekdboaaGreatDoorZc
import Derived.Test.YtohneogdekdboaaGreatDoorZh
import Derived.Test.YtohneogdekdboaaGreatDoorZg
import Derived.Test.YtohneogdekdboaaGreatDoorZm
import Derived.Test.YtohneogdekdboaaGreatDoorZv
import Derived.Test.YtohneogdekdboaaGreatDoorZw
namespace Go.Proofs.YtohneogdekdboaaGreatDoor
set_option linter.unusedVariables false
set_option linter.unusedSimpArgs false
open Go.RowKit
theorem Jj5 (a : ByteArray) : seq a a = true := by simp [seq]
section
variable {P : Program}
variable {l : List Value} {d : Option Tmp} {ty : TypeId} {ps : String} {af : Array Edge} {g : Option (Nat × Bool)} {C : World → Prop}
theorem Je9 {T T' : TypeId} {x y : Operand} {xs ys : List Value} {b : Bool} {sp : List (Nat × Nat)} (hA : agq P T = some sp) (hx : evo l x = some (.agg xs.toArray)) (hy : evo l y = some (.agg ys.toArray)) (hb : cmps xs ys sp = some b) :
  Det P C ⟨d, .binOp .neq T x y T', ty, ps, af, g⟩ l (.bool (!b)) := fun u _ => by
 (replace hx := Jat hx; replace hy := Jat hy)
 obtain ⟨h1, h2⟩ := Jwd (w := u) hA hb
 simp [execOp, Jau, hx, hy, h1, run_neq_struct, h2]
end
theorem J3g {p : Prop} [Decidable p] : clB p = decide p := by
 by_cases h : p
 ·
  rw [Jd5 h, decide_eq_true h]
 rw [Jcl h, decide_eq_false h]
theorem J4w {p q : Prop} : clB (p ∧ q) = (clB p && clB q) := by
 by_cases hp : p
 ·
  by_cases hq : q
  ·
   rw [Jd5 ⟨hp, hq⟩, Jd5 hp, Jd5 hq]; rfl
  rw [Jcl (fun h => hq h.2), Jcl hq, Bool.and_false]
 rw [Jcl (fun h => hp h.1), Jcl hp, Bool.false_and]
theorem Jgf {a b : ByteArray} : seq a b = true ↔ a = b := by
 unfold seq
 rw [beq_iff_eq, ByteArray.toList_eq, ByteArray.toList_eq]
 constructor
 ·
  intro h
  cases a; cases b
  simp at h
  rw [h]
 rintro rfl; rfl
theorem J57 (a b : ByteArray) : seq a b = clB (a = b) := by
 cases h : seq a b with
 | true => exact (Jd5 (Jgf.1 h)).symm
 | false => exact (Jcl fun e => by rw [Jgf.2 e] at h; cases h).symm
theorem J8y {a b : ByteArray} (h : seq a b = false) : a ≠ b := fun e => by rw [Jgf.2 e] at h; cases h
theorem Jze (x y : Lit) : cmps (cLit.cells x) (cLit.cells y) [(0, 0), (1, 0), (2, 1)] = some (decide (x = y)) := by
 cases x; cases y
 simp only [cmps, cmp1, cLit, List.getElem?_cons_zero, List.getElem?_cons_succ, Lit.mk.injEq]
 rename_i a1 a2 a3 b1 b2 b3
 cases a3 <;> cases b3 <;> simp
theorem J49 (x y : Put) : cmps (cPut.cells x) (cPut.cells y) [(0, 0), (1, 0)] = some (decide (x = y)) := by
 cases x; cases y
 simp only [cmps, cmp1, cPut, List.getElem?_cons_zero, List.getElem?_cons_succ, Put.mk.injEq]
 simp
theorem Jxu (x y : Thing) : cmps (cThing.cells x) (cThing.cells y) [(0, 2), (1, 0), (2, 0), (3, 0)] = some (clB (x = y)) := by
 have e : clB (x = y) = (seq x.nm y.nm && (decide (x.pl = y.pl) && (decide (x.st = y.st) && (decide (x.sr = y.sr) && true)))) := by
  cases x; cases y
  simp only [Thing.mk.injEq, J57, ← J3g]
  simp only [J4w, Bool.and_true]
 rw [e]
 rfl
theorem J5b {a b : Auto} : cmps [.int .i64 a.t, .int .i64 a.s] [.int .i64 b.t, .int .i64 b.s] [(0, 0), (1, 0)] = some (decide (a.t = b.t) && decide (a.s = b.s)) := by
 simp [cmps, cmp1]
theorem sl_e {α : Type} {a b : Sl α} (h : a.l = b.l) : a.e (id : α → α) = b.e id := by unfold Sl.e; rw [h]
theorem J04 {α β : Type} {f : α → β} {a b : Sl α} (h : a.l.map f = b.l.map f) : a.e f = b.e f := by unfold Sl.e; rw [h]
theorem J6k {x y : Pro} (h1 : x.nm = y.nm) (h2 : x.pl = y.pl) (h3 : x.wh.l = y.wh.l) : x.e = y.e := by
 cases x; cases y
 simp only at h1 h2 h3
 subst h1; subst h2
 simp only [Pro.e, sl_e h3]
theorem J65 {x y : Way} (h1 : x.a = y.a) (h2 : x.b = y.b) (h3 : x.wh.l = y.wh.l) : x.e = y.e := by
 cases x; cases y
 simp only at h1 h2 h3
 subst h1; subst h2
 simp only [Way.e, sl_e h3]
theorem J59 {x y : Auto} (h1 : x.t = y.t) (h2 : x.s = y.s) (h3 : x.wh.l = y.wh.l) : x.e = y.e := by
 cases x; cases y
 simp only at h1 h2 h3
 subst h1; subst h2
 simp only [Auto.e, sl_e h3]
theorem Kbg {x y : Actn} (h : AlikeA x y) : x.e = y.e := by
 obtain ⟨h1, h2, h3, h4, h5, h6, h7, h8⟩ := h
 cases x; cases y
 simp only at h1 h2 h3 h4 h5 h6 h7 h8
 subst h1; subst h2; subst h3
 simp only [Actn.e, sl_e h4, sl_e h5, sl_e h6, sl_e h7, sl_e h8]
theorem J6y {a b : Room} (h1 : a.pls.l = b.pls.l) (h2 : a.ths.l = b.ths.l) (h3 : a.prs.l.map Pro.e = b.prs.l.map Pro.e) (h4 : a.wys.l.map Way.e = b.wys.l.map Way.e) (h5 : a.acs.l.map Actn.e = b.acs.l.map Actn.e) (h6 : a.aus.l.map Auto.e = b.aus.l.map Auto.e) (h7 : a.ply = b.ply) (h8 : a.gl.l = b.gl.l) : a.e = b.e := by
 unfold Room.e
 rw [sl_e h1, sl_e h2, J04 h3, J04 h4, J04 h5, J04 h6, h7, sl_e h8]
end Go.Proofs.YtohneogdekdboaaGreatDoor
namespace Go.Proofs.YtohneogdekdboaaGreatDoor
open Go.Proofs
theorem J9g : tk Tryz.prog 131 = some (true, 2) := by kernel_rfl
theorem Ka4 : Ent Tryz.prog 18 := Jac Tryz.func18 (by kernel_rfl) rfl
theorem Ka9 : Ent Tryz.prog 46 := Jac Tryz.func46 (by kernel_rfl) rfl
theorem Kag : Ent Tryz.prog 47 := Jac Tryz.func47 (by kernel_rfl) rfl
theorem Jqz : Ent Tryz.prog 70 := Jac Tryz.func70 (by kernel_rfl) rfl
theorem Kbj : Ent Tryz.prog 71 := Jac Tryz.func71 (by kernel_rfl) rfl
theorem Ka8 : Ent Tryz.prog 72 := Jac Tryz.func72 (by kernel_rfl) rfl
end Go.Proofs.YtohneogdekdboaaGreatDoor
set_option maxHeartbeats 8000000
namespace Go.Proofs.YtohneogdekdboaaGreatDoor
open Go.RowKit Go.Proofs
set_option maxRecDepth 100000
set_option linter.unusedVariables false
set_option linter.unusedSimpArgs false
theorem J86 : agq Tryz.prog 136 = some [(0, 0), (1, 0), (2, 1)] := by kernel_rfl
theorem J80 : agq Tryz.prog 131 = some [(0, 0), (1, 0)] := by kernel_rfl
theorem J5g : agq Tryz.prog 122 = some [(0, 2), (1, 0), (2, 0), (3, 0)] := by kernel_rfl
theorem Jdr (a b : Sl Lit) (w : World) (ha : SlT cLit w a) (hb : SlT cLit w b) :
  Calls Tryz.prog 70 #[a.v, b.v] w (RetB w (.bool (clB (a.l = b.l)))) := by
 have la := ha.le
 have lb := hb.le
 refine enter Tryz.func70 rfl rfl (Nat.le_of_ble_eq_true rfl) ?_
 refine Nz 1 ?_
 refine Wd (Qc (Cs (Nz 1 ?_)))
 refine Wk 1 Nc ?_
 refine Wk 1 Nc ?_
 refine Wd (Qc (CS.cond rfl ?_ ?_))<;>intro hc1<;>try simp only [bq] at hc1
 ·
  refine Nz 1 ?_
  exact Wd (Qc (Cr (Qr (out1 rfl rfl (Jab (by rw [Jcl (fun h => hc1 (by rw [h]))]))))))
 refine Ck (Qc (Cs (Nz 1 ?_)))
 refine Wd (Qc (Ce ?_))
 refine CS.loopM (σ := Int) [4, 11, 12, 13, 14, 15, 16, 17, 18, 19, 20, 21, 22, 23, 24, 25] (fun s => [(5, .int .i64 s)]) (fun _ => _) (fun s => 0 ≤ s ∧ s ≤ a.l.length ∧ ∀ j : Int, 0 ≤ j → j < s → nth a.l j = nth b.l j) (fun s => (a.l.length - s).toNat) 0 (fun _ _ => rfl) rfl rfl ⟨by omega, by omega, fun j _ _ => by omega⟩ ?_
 intro s t hs
 obtain ⟨hs1, hs2, hs3⟩ := hs
 refine Cs (Nz 2 ?_)
 refine Wk 1 Nc ?_
 refine Wd (Qc (CS.cond rfl ?_ ?_))<;>intro hc2<;>try simp only [bq] at hc2
 ·
  refine Ck (Qc (Cs (Ce (Cs (Dr Jai 2 ?_)))))
  refine Dk 0 Xc ?_
  refine Dk 2 Ua ?_
  refine Dk 0 Xc ?_
  refine Dk 0 Ua ?_
  refine Dk 0 (Je9 J86 rfl rfl (Jze (nth a.l s) (nth b.l s))) ?_
  refine Dd (Qc (CS.cond rfl ?_ ?_))<;>intro hc3<;>try simp only [bq] at hc3
  ·
   refine Nz 1 ?_
   exact Wd (Qc (Cr (Qs (Qr (Qr (Qs (Qr (out1 rfl rfl (Jab (by rw [Jcl (fun h => hc3 (by rw [h]))]))))))))))
  refine Ck (Qb (Qc (Ny 1 ?_)))
  refine Wk 1 Za ?_
  refine Wd ?_
  exact QS.head (s + 1) rfl rfl ⟨⟨by omega, by omega, fun j h0 h1 => by
     rcases (show j < s ∨ j = s by omega) with h | h
     ·
      exact hs3 j h0 h
     rw [h]; exact hc3⟩, by omega⟩
 refine Cv (Qe (Qe (Qx (Qc (Nz 1 ?_)))))
 exact Wd (Qc (Cr (out1 rfl rfl (Jab (by rw [Jd5 (Jkb hc2 (by omega) hs3)])))))
theorem Jzk (a b : Actn) (w : World) (ha : ActOk w a) (hb : ActOk w b) :
  Calls Tryz.prog 71 #[.agg #[.string a.nm, .int .i64 a.pl, .int .i64 a.lk, a.us.v, a.wh.v, a.se.v, a.sp.v, a.br.v], .agg #[.string b.nm, .int .i64 b.pl, .int .i64 b.lk, b.us.v, b.wh.v, b.se.v, b.sp.v, b.br.v]] w (RetB w (.bool (clB (a.e = b.e)))) := by
 have aus := ha.us
 have awh := ha.wh
 have ase := ha.se
 have asp := ha.sp
 have abr := ha.br
 have bus := hb.us
 have bwh := hb.wh
 have bse := hb.se
 have bsp := hb.sp
 have bbr := hb.br
 have la := ase.le
 have lb := bse.le
 refine enter Tryz.func71 rfl rfl (Nat.le_of_ble_eq_true rfl) ?_
 refine Nz 0 ?_
 refine Wb 0 rfl rfl (fun _ => rfl) (fun _ => rfl) fun b2 hb2 => ?_
 refine Wb 1 rfl rfl (fun _ => rfl) (fun _ => rfl) fun b3 hb3 => ?_
 refine Wd (Qc (Cs (Nz 1 ?_)))
 refine Wk 0 (Ba 1) ?_
 refine Wk 1 Nc ?_
 refine Wk 0 (Ba 0) ?_
 refine Wk 1 Nc ?_
 refine Wd (Qc (CS.cond rfl ?_ ?_))<;>intro hc1<;>try simp only [bq] at hc1
 ·
  refine Nz 1 ?_
  exact Wd (Qc (Cr (Qr (out1 rfl rfl (Jab (by rw [Jcl (fun h => hc1 (by rw [(Jio h).se]))]))))))
 refine Ck (Qc (Cs (Nz 1 ?_)))
 refine Wd (Qc (Ce ?_))
 refine CS.loopM (σ := Int) [4, 13, 14, 15, 16, 17, 18, 19, 20, 21, 22, 23, 24, 25, 26, 27, 28, 29, 30] (fun s => [(5, .int .i64 s)]) (fun _ => _) (fun s => 0 ≤ s ∧ s ≤ a.se.l.length ∧ ∀ j : Int, 0 ≤ j → j < s → nth a.se.l j = nth b.se.l j) (fun s => (a.se.l.length - s).toNat) 0 (fun _ _ => rfl) rfl rfl ⟨by omega, by omega, fun j _ _ => by omega⟩ ?_
 intro s t hs
 obtain ⟨hs1, hs2, hs3⟩ := hs
 refine Cs (Nz 2 ?_)
 refine Wk 0 (Ba 1) ?_
 refine Wk 1 Nc ?_
 refine Wd (Qc (CS.cond rfl ?_ ?_))<;>intro hc2<;>try simp only [bq] at hc2
 ·
  refine Ck (Qc (Cs (Ce (Cs (Dr Jai 1 ?_)))))
  refine Dk 1 (Ba 1) ?_
  refine Dk 0 Xc ?_
  refine Dk 1 Ua ?_
  refine Dk 1 (Ba 0) ?_
  refine Dk 0 Xc ?_
  refine Dk 0 Ua ?_
  refine Dk 0 (Je9 J80 rfl rfl (J49 (nth a.se.l s) (nth b.se.l s))) ?_
  refine Dd (Qc (CS.cond rfl ?_ ?_))<;>intro hc3<;>try simp only [bq] at hc3
  ·
   refine Nz 1 ?_
   exact Wd (Qc (Cr (Qs (Qr (Qr (Qs (Qr (out1 rfl rfl (Jab (by rw [Jcl (fun h => hc3 (by rw [(Jio h).se]))]))))))))))
  refine Ck (Qb (Qc (Ny 1 ?_)))
  refine Wk 1 Za ?_
  refine Wd ?_
  exact QS.head (s + 1) rfl rfl ⟨⟨by omega, by omega, fun j h0 h1 => by
     rcases (show j < s ∨ j = s by omega) with h | h
     ·
      exact hs3 j h0 h
     rw [h]; exact hc3⟩, by omega⟩
 refine Cv (Qe (Qe (Qx (Qc (Nz 1 ?_)))))
 refine Wk 1 (Ba 1) ?_
 refine Wk 0 (Ba 0) ?_
 refine Wk 1 (Ja5 rfl rfl) ?_
 refine Wt 0 rfl rfl (fun hg => Ff) ?_
 refine Wt 0 rfl rfl (fun hg => Ba 1) ?_
 refine Wt 0 rfl rfl (fun hg => Ff) ?_
 refine Wt 0 rfl rfl (fun hg => Ba 0) ?_
 refine Wt 0 rfl rfl (fun hg => Fq) ?_
 refine Wk 1 Pa ?_
 refine Wt 0 rfl rfl (fun hg => Ff) ?_
 refine Wt 0 rfl rfl (fun hg => Ba 1) ?_
 refine Wt 0 rfl rfl (fun hg => Ff) ?_
 refine Wt 0 rfl rfl (fun hg => Ba 0) ?_
 refine Wt 0 rfl rfl (fun hg => Fq) ?_
 refine Wk 1 Pa ?_
 refine Wt 0 rfl rfl (fun hg => Ff) ?_
 refine Wt 0 rfl rfl (fun hg => Ba 1) ?_
 refine Wt 0 rfl rfl (fun hg => Ff) ?_
 refine Wt 0 rfl rfl (fun hg => Ba 0) ?_
 refine Wt 0 rfl rfl (fun hg => Cb rfl (ec_ (eg_ hg rfl) (ec_ (eg_ hg rfl) en_)) Jjt (fun u hu => Jbz _ _ _ _ u (aus.st hu).ints (bus.st hu).ints)) ?_
 refine Wk 1 Pa ?_
 refine Wt 0 rfl rfl (fun hg => Ff) ?_
 refine Wt 0 rfl rfl (fun hg => Ba 1) ?_
 refine Wt 0 rfl rfl (fun hg => Ff) ?_
 refine Wt 0 rfl rfl (fun hg => Ba 0) ?_
 refine Wt 0 rfl rfl (fun hg => Cb rfl (ec_ (eg_ hg rfl) (ec_ (eg_ hg rfl) en_)) Jqz (fun u hu => Jdr _ _ u (awh.st hu) (bwh.st hu))) ?_
 refine Wk 1 Pa ?_
 refine Wt 0 rfl rfl (fun hg => Ff) ?_
 refine Wt 0 rfl rfl (fun hg => Ba 1) ?_
 refine Wt 0 rfl rfl (fun hg => Ff) ?_
 refine Wt 0 rfl rfl (fun hg => Ba 0) ?_
 refine Wt 0 rfl rfl (fun hg => Cb rfl (ec_ (eg_ hg rfl) (ec_ (eg_ hg rfl) en_)) Jjt (fun u hu => Jbz _ _ _ _ u (asp.st hu).ints (bsp.st hu).ints)) ?_
 refine Wk 1 Pa ?_
 refine Wt 0 rfl rfl (fun hg => Ff) ?_
 refine Wt 0 rfl rfl (fun hg => Ba 1) ?_
 refine Wt 0 rfl rfl (fun hg => Ff) ?_
 refine Wt 0 rfl rfl (fun hg => Ba 0) ?_
 refine Wt 0 rfl rfl (fun hg => Cb rfl (ec_ (eg_ hg rfl) (ec_ (eg_ hg rfl) en_)) Jjt (fun u hu => Jbz _ _ _ _ u (abr.st hu).ints (bbr.st hu).ints)) ?_
 refine Wk 1 Pa ?_
 refine Wd (Qc (Cr ?_))
 exact out1 rfl rfl (Jab (by
    have hse := Jkb hc2 (by omega) hs3
    by_cases h : a.e = b.e
    ·
     have q := Jio h
     rw [Jd5 h, q.nm, q.pl, q.lk, q.us, q.wh, q.sp, q.br, Jj5, Jd5 rfl]; simp
    rw [Jcl h]
    symm
    cases hq : ((((((seq a.nm b.nm && decide (a.pl = b.pl)) && decide (a.lk = b.lk)) && decide (a.us.l = b.us.l)) && clB (a.wh.l = b.wh.l)) && decide (a.sp.l = b.sp.l)) && decide (a.br.l = b.br.l)) with
    | false => rfl
    | true =>
     simp only [Bool.and_eq_true, decide_eq_true_eq, Jb6, Jgf] at hq
     exact (h (Kbg ⟨hq.1.1.1.1.1.1, hq.1.1.1.1.1.2, hq.1.1.1.1.2, hq.1.1.1.2, hq.1.1.2, hse, hq.1.2, hq.2⟩)).elim))
theorem J43 (a b : Room) (w : World) (ha : RoomOk w a) (hb : RoomOk w b) :
  Calls Tryz.prog 46 #[.agg #[a.pls.v, a.ths.v, a.prs.v, a.wys.v, a.acs.v, a.aus.v, .int .i64 a.ply, a.gl.v], .agg #[b.pls.v, b.ths.v, b.prs.v, b.wys.v, b.acs.v, b.aus.v, .int .i64 b.ply, b.gl.v]] w (RetB w (.bool (clB (a.e = b.e)))) := by
 have apls := ha.pls
 have alpls := ha.pls.le
 have aths := ha.ths
 have alths := ha.ths.le
 have aprs := ha.prs
 have alprs := ha.prs.le
 have awys := ha.wys
 have alwys := ha.wys.le
 have aacs := ha.acs
 have alacs := ha.acs.le
 have aaus := ha.aus
 have alaus := ha.aus.le
 have agl := ha.gl
 have algl := ha.gl.le
 have bpls := hb.pls
 have blpls := hb.pls.le
 have bths := hb.ths
 have blths := hb.ths.le
 have bprs := hb.prs
 have blprs := hb.prs.le
 have bwys := hb.wys
 have blwys := hb.wys.le
 have bacs := hb.acs
 have blacs := hb.acs.le
 have baus := hb.aus
 have blaus := hb.aus.le
 have bgl := hb.gl
 have blgl := hb.gl.le
 refine enter Tryz.func46 rfl rfl (Nat.le_of_ble_eq_true rfl) ?_
 refine Nz 0 ?_
 refine Wb 0 rfl rfl (fun _ => rfl) (fun _ => rfl) fun b2 hb2 => ?_
 refine Wb 1 rfl rfl (fun _ => rfl) (fun _ => rfl) fun b3 hb3 => ?_
 refine Wd (Qc (Cs (Nz 1 ?_)))
 refine Wk 0 (Ba 1) ?_
 refine Wk 1 Nc ?_
 refine Wk 0 (Ba 0) ?_
 refine Wk 2 Nc ?_
 refine Wf 0 rfl rfl (fun hg => Ff) ?_
 refine Wf 0 rfl rfl (fun hg => Ba 1) ?_
 refine Wf 0 rfl rfl (fun hg => Nc (eg_ hg rfl)) ?_
 refine Wf 0 rfl rfl (fun hg => Ff) ?_
 refine Wf 0 rfl rfl (fun hg => Ba 0) ?_
 refine Wf 0 rfl rfl (fun hg => Nc (eg_ hg rfl)) ?_
 refine Wf 0 rfl rfl (fun hg => Fr) ?_
 refine Wk 1 Po ?_
 refine Wf 0 rfl rfl (fun hg => Ff) ?_
 refine Wf 0 rfl rfl (fun hg => Ba 1) ?_
 refine Wf 0 rfl rfl (fun hg => Nc (eg_ hg rfl)) ?_
 refine Wf 0 rfl rfl (fun hg => Ff) ?_
 refine Wf 0 rfl rfl (fun hg => Ba 0) ?_
 refine Wf 0 rfl rfl (fun hg => Nc (eg_ hg rfl)) ?_
 refine Wf 0 rfl rfl (fun hg => Fr) ?_
 refine Wk 1 Po ?_
 refine Wf 0 rfl rfl (fun hg => Ff) ?_
 refine Wf 0 rfl rfl (fun hg => Ba 1) ?_
 refine Wf 0 rfl rfl (fun hg => Nc (eg_ hg rfl)) ?_
 refine Wf 0 rfl rfl (fun hg => Ff) ?_
 refine Wf 0 rfl rfl (fun hg => Ba 0) ?_
 refine Wf 0 rfl rfl (fun hg => Nc (eg_ hg rfl)) ?_
 refine Wf 0 rfl rfl (fun hg => Fr) ?_
 refine Wk 1 Po ?_
 refine Wf 0 rfl rfl (fun hg => Ff) ?_
 refine Wf 0 rfl rfl (fun hg => Ba 1) ?_
 refine Wf 0 rfl rfl (fun hg => Nc (eg_ hg rfl)) ?_
 refine Wf 0 rfl rfl (fun hg => Ff) ?_
 refine Wf 0 rfl rfl (fun hg => Ba 0) ?_
 refine Wf 0 rfl rfl (fun hg => Nc (eg_ hg rfl)) ?_
 refine Wf 0 rfl rfl (fun hg => Fr) ?_
 refine Wk 1 Po ?_
 refine Wf 0 rfl rfl (fun hg => Ff) ?_
 refine Wf 0 rfl rfl (fun hg => Ba 1) ?_
 refine Wf 0 rfl rfl (fun hg => Nc (eg_ hg rfl)) ?_
 refine Wf 0 rfl rfl (fun hg => Ff) ?_
 refine Wf 0 rfl rfl (fun hg => Ba 0) ?_
 refine Wf 0 rfl rfl (fun hg => Nc (eg_ hg rfl)) ?_
 refine Wf 0 rfl rfl (fun hg => Fr) ?_
 refine Wk 1 Po ?_
 refine Wf 0 rfl rfl (fun hg => Ff) ?_
 refine Wf 0 rfl rfl (fun hg => Ba 1) ?_
 refine Wf 0 rfl rfl (fun hg => Ff) ?_
 refine Wf 0 rfl rfl (fun hg => Ba 0) ?_
 refine Wf 0 rfl rfl (fun hg => Fr) ?_
 refine Wk 1 Po ?_
 refine Wf 0 rfl rfl (fun hg => Ff) ?_
 refine Wf 0 rfl rfl (fun hg => Ba 1) ?_
 refine Wf 0 rfl rfl (fun hg => Ff) ?_
 refine Wf 0 rfl rfl (fun hg => Ba 0) ?_
 refine Wf 0 rfl rfl (fun hg => Cb rfl (ec_ (eg_ hg rfl) (ec_ (eg_ hg rfl) en_)) Jqz (fun u hu => Jdr _ _ u (agl.st hu) (bgl.st hu))) ?_
 refine Wf 0 rfl rfl (fun hg => Fn) ?_
 refine Wk 0 Po ?_
 refine Wd (Qc (CS.cond rfl ?_ ?_))<;>intro hc1<;>try simp only [bq] at hc1
 ·
  refine Nz 1 ?_
  refine Wd (Qc (Cr (Qr ?_)))
  exact out1 rfl rfl (Jab (by rw [Jcl (fun h => by
     have q := Jjo h
     simp only [q.pls, q.ths, q.lprs, q.lwys, q.lacs, q.laus, q.ply, q.gl, Jd5] at hc1
     simp at hc1)]))
 have hgl := Jb6.1 hc1.2
 refine Ck (Qc (Cs (Nz 1 ?_)))
 refine Wd (Qc (Ce ?_))
 refine CS.loopM (σ := Int) [4, 82, 83, 84, 85, 86, 87, 88, 89, 90, 91, 92, 93, 94, 95, 96, 97, 98, 99] (fun s => [(5, .int .i64 s)]) (fun _ => _) (fun s => 0 ≤ s ∧ s ≤ a.pls.l.length ∧ ∀ j : Int, 0 ≤ j → j < s → nth a.pls.l j = nth b.pls.l j) (fun s => (a.pls.l.length - s).toNat) 0 (fun _ _ => rfl) rfl rfl ⟨by omega, by omega, fun j _ _ => by omega⟩ ?_
 intro a_ t hs
 obtain ⟨ha_1, ha_2, ha_3⟩ := hs
 refine Cs (Nz 2 ?_)
 refine Wk 0 (Ba 1) ?_
 refine Wk 1 Nc ?_
 refine Wd (Qc (CS.cond rfl ?_ ?_))<;>intro hc2<;>try simp only [bq] at hc2
 ·
  refine Ck (Qc (Cs (Ce (Cs (Dr Jai 1 ?_)))))
  refine Dk 1 (Ba 1) ?_
  refine Dk 0 Xc ?_
  refine Dk 1 Ub ?_
  refine Dk 1 (Ba 0) ?_
  refine Dk 0 Xc ?_
  refine Dk 0 Ub ?_
  refine Dk 0 (Je8 rfl rfl) ?_
  refine Dd (Qc (CS.cond rfl ?_ ?_))<;>intro hc3<;>try simp only [bq] at hc3
  ·
   refine Nz 1 ?_
   exact Wd (Qc (Cr (Qs (Qr (Qr (Qs (Qr (out1 rfl rfl (Jab (by rw [Jcl (fun h => J8y hc3 (by rw [(Jjo h).pls]))]))))))))))
  refine Ck (Qb (Qc (Ny 1 ?_)))
  refine Wk 1 Za ?_
  refine Wd ?_
  exact QS.head (a_ + 1) rfl rfl ⟨⟨by omega, by omega, fun j h0 h1 => by
     rcases (show j < a_ ∨ j = a_ by omega) with h | h
     ·
      exact ha_3 j h0 h
     rw [h]; exact Jgf.1 hc3⟩, by omega⟩
 refine Cv (Qe (Qe (Qx (Qc (Cs (Nz 1 ?_))))))
 refine Wd (Qc (Ce ?_))
 refine CS.loopM (σ := Int) [4, 100, 101, 102, 103, 104, 105, 106, 107, 108, 109, 110, 111, 112, 113, 114, 115, 116, 117] (fun s => [(6, .int .i64 s)]) (fun _ => _) (fun s => 0 ≤ s ∧ s ≤ a.ths.l.length ∧ ∀ j : Int, 0 ≤ j → j < s → nth a.ths.l j = nth b.ths.l j) (fun s => (a.ths.l.length - s).toNat) 0 (fun _ _ => rfl) rfl rfl ⟨by omega, by omega, fun j _ _ => by omega⟩ ?_
 intro b_ t hs
 obtain ⟨hb_1, hb_2, hb_3⟩ := hs
 refine Cs (Nz 2 ?_)
 refine Wk 0 (Ba 1) ?_
 refine Wk 1 Nc ?_
 refine Wd (Qc (CS.cond rfl ?_ ?_))<;>intro hc4<;>try simp only [bq] at hc4
 ·
  refine Ck (Qc (Cs (Ce (Cs (Dr Jai 1 ?_)))))
  refine Dk 1 (Ba 1) ?_
  refine Dk 0 Xc ?_
  refine Dk 1 Ua ?_
  refine Dk 1 (Ba 0) ?_
  refine Dk 0 Xc ?_
  refine Dk 0 Ua ?_
  refine Dk 0 (Je9 J5g rfl rfl (Jxu (nth a.ths.l b_) (nth b.ths.l b_))) ?_
  refine Dd (Qc (CS.cond rfl ?_ ?_))<;>intro hc5<;>try simp only [bq] at hc5
  ·
   refine Nz 1 ?_
   exact Wd (Qc (Cr (Qs (Qr (Qr (Qs (Qr (out1 rfl rfl (Jab (by rw [Jcl (fun h => by rw [(Jjo h).ths, Jd5 rfl] at hc5; cases hc5)]))))))))))
  refine Ck (Qb (Qc (Ny 1 ?_)))
  refine Wk 1 Za ?_
  refine Wd ?_
  exact QS.head (b_ + 1) rfl rfl ⟨⟨by omega, by omega, fun j h0 h1 => by
     rcases (show j < b_ ∨ j = b_ by omega) with h | h
     ·
      exact hb_3 j h0 h
     rw [h]; exact Jb6.1 hc5⟩, by omega⟩
 refine Cv (Qe (Qe (Qx (Qc (Cs (Nz 1 ?_))))))
 refine Wd (Qc (Ce ?_))
 refine CS.loopM (σ := Int) [4, 8, 9, 118, 119, 120, 121, 122, 123, 124, 125, 126, 127, 128, 129, 130, 131, 132, 133, 134, 135, 136, 137, 138, 139, 140, 141, 142, 143, 144, 145, 146, 147, 148, 149, 150, 151, 152, 153, 154] (fun s => [(7, .int .i64 s)]) (fun _ => _) (fun s => 0 ≤ s ∧ s ≤ a.prs.l.length ∧ ∀ j : Int, 0 ≤ j → j < s → (nth a.prs.l j).e = (nth b.prs.l j).e) (fun s => (a.prs.l.length - s).toNat) 0 (fun _ _ => rfl) rfl rfl ⟨by omega, by omega, fun j _ _ => by omega⟩ ?_
 intro d t hs
 obtain ⟨hd1, hd2, hd3⟩ := hs
 refine Cs (Nz 2 ?_)
 refine Wk 0 (Ba 1) ?_
 refine Wk 1 Nc ?_
 refine Wd (Qc (CS.cond rfl ?_ ?_))<;>intro hc6<;>try simp only [bq] at hc6
 ·
  have aw : SlT cLit w (nth a.prs.l d).wh := ha.prs.at hd1 (by omega)
  have bw : SlT cLit w (nth b.prs.l d).wh := hb.prs.at hd1 (by omega)
  refine Ck (Qc (Cs (Ce (Cs ?_))))
  refine CS.drawnAll (k := 14) Jai rfl rfl ?_
  refine Ar [0] ?_
  refine Ak 1 [2] rfl (Ba 1) ?_
  refine Ak 3 [] rfl Xc ?_
  refine Ak 4 [5] rfl Ua ?_
  refine Ak 6 [7] rfl (Ba 0) ?_
  refine Ak 8 [] rfl Xc ?_
  refine Ak 9 [] rfl Ua ?_
  refine AS.two (i := 10) (j := 11) (by kernel_rfl) rfl rfl (by first | exact fun _ h => h | exact fun _ h => h.sub (by repeat first | exact List.Sublist.refl _ | apply List.Sublist.cons_cons | apply List.Sublist.cons)) rfl rfl ?_ ?_
  ·
   refine Wl 0 Jk8 (fun _ => rfl) (fun _ => rfl) fun b8 hb8 => ?_
   refine Wd (Qa ?_)
   refine Ao 11 rfl ?_
   refine Wl 0 Jk8 (fun _ => rfl) (fun _ => rfl) fun b9 hb9 => ?_
   refine Wd (Qa ?_)
   refine Ao 12 rfl ?_
   refine Wv 0 1 ?_
   refine Wd (Qa ?_)
   refine Ao 13 rfl ?_
   refine Wv 0 0 ?_
   refine Wd (Qa ?_)
   refine Ae ?_
   refine Qc (Nz 1 ?_)
   refine Wk 1 (Ba 1) ?_
   refine Wk 0 (Ba 0) ?_
   refine Wk 1 (Je8 rfl rfl) ?_
   refine Wf 0 rfl rfl (fun hg => Ff) ?_
   refine Wf 0 rfl rfl (fun hg => Ba 1) ?_
   refine Wf 0 rfl rfl (fun hg => Ff) ?_
   refine Wf 0 rfl rfl (fun hg => Ba 0) ?_
   refine Wf 0 rfl rfl (fun hg => Fr) ?_
   refine Wk 1 Po ?_
   refine Wf 0 rfl rfl (fun hg => Ff) ?_
   refine Wf 0 rfl rfl (fun hg => Ba 1) ?_
   refine Wf 0 rfl rfl (fun hg => Ff) ?_
   refine Wf 0 rfl rfl (fun hg => Ba 0) ?_
   refine Wf 0 rfl rfl (fun hg => Cb rfl (ec_ (eg_ hg rfl) (ec_ (eg_ hg rfl) en_)) Jqz (fun u hu => Jdr _ _ u (aw.st hu) (bw.st hu))) ?_
   refine Wf 0 rfl rfl (fun hg => Fn) ?_
   refine Wk 0 Po ?_
   refine Wd (Qc (CS.cond rfl ?_ ?_))<;>intro hc7<;>try simp only [bq] at hc7
   ·
    refine Nz 1 ?_
    refine Wd (Qc (Cr (Qs (Qr (Qr (Qs (Qr ?_)))))))
    exact out1 rfl rfl (Jab (by rw [Jcl (fun h => by
       have q := (Jjo h).pr d
       simp only [q.1, q.2.1, q.2.2, Jj5, Jd5] at hc7
       simp at hc7)]))
   refine Ck (Qb (Qc (Ny 1 ?_)))
   refine Wk 1 Za ?_
   refine Wd ?_
   refine QS.sel [2, 2] rfl ?_
   exact QS.head (d + 1) rfl rfl ⟨⟨by omega, by omega, fun j h0 h1 => by
      rcases (show j < d ∨ j = d by omega) with h | h
      ·
       exact hd3 j h0 h
      rw [h]; exact J6k (Jgf.1 hc7.1.1) hc7.1.2 (Jb6.1 hc7.2)⟩, by omega⟩
  refine Wl 0 Jk8 (fun _ => rfl) (fun _ => rfl) fun b9 hb9 => ?_
  refine Wd (Qa ?_)
  refine Ao 10 rfl ?_
  refine Wl 0 Jk8 (fun _ => rfl) (fun _ => rfl) fun b8 hb8 => ?_
  refine Wd (Qa ?_)
  refine Ao 12 rfl ?_
  refine Wv 0 0 ?_
  refine Wd (Qa ?_)
  refine Ao 13 rfl ?_
  refine Wv 0 1 ?_
  refine Wd (Qa ?_)
  refine Ae ?_
  refine Qc (Nz 1 ?_)
  refine Wk 1 (Ba 0) ?_
  refine Wk 0 (Ba 1) ?_
  refine Wk 1 (Je8 rfl rfl) ?_
  refine Wf 0 rfl rfl (fun hg => Ff) ?_
  refine Wf 0 rfl rfl (fun hg => Ba 0) ?_
  refine Wf 0 rfl rfl (fun hg => Ff) ?_
  refine Wf 0 rfl rfl (fun hg => Ba 1) ?_
  refine Wf 0 rfl rfl (fun hg => Fr) ?_
  refine Wk 1 Po ?_
  refine Wf 0 rfl rfl (fun hg => Ff) ?_
  refine Wf 0 rfl rfl (fun hg => Ba 0) ?_
  refine Wf 0 rfl rfl (fun hg => Ff) ?_
  refine Wf 0 rfl rfl (fun hg => Ba 1) ?_
  refine Wf 0 rfl rfl (fun hg => Cb rfl (ec_ (eg_ hg rfl) (ec_ (eg_ hg rfl) en_)) Jqz (fun u hu => Jdr _ _ u (aw.st hu) (bw.st hu))) ?_
  refine Wf 0 rfl rfl (fun hg => Fn) ?_
  refine Wk 0 Po ?_
  refine Wd (Qc (CS.cond rfl ?_ ?_))<;>intro hc7<;>try simp only [bq] at hc7
  ·
   refine Nz 1 ?_
   refine Wd (Qc (Cr (Qs (Qr (Qr (Qs (Qr ?_)))))))
   exact out1 rfl rfl (Jab (by rw [Jcl (fun h => by
      have q := (Jjo h).pr d
      simp only [q.1, q.2.1, q.2.2, Jj5, Jd5] at hc7
      simp at hc7)]))
  refine Ck (Qb (Qc (Ny 1 ?_)))
  refine Wk 1 Za ?_
  refine Wd ?_
  refine QS.sel [2, 2] rfl ?_
  exact QS.head (d + 1) rfl rfl ⟨⟨by omega, by omega, fun j h0 h1 => by
     rcases (show j < d ∨ j = d by omega) with h | h
     ·
      exact hd3 j h0 h
     rw [h]; exact J6k (Jgf.1 hc7.1.1) hc7.1.2 (Jb6.1 hc7.2)⟩, by omega⟩
 refine Cv (Qe (Qe (Qx (Qc (Cs (Nz 1 ?_))))))
 refine Wd (Qc (Ce ?_))
 refine CS.loopM (σ := Int) [4, 11, 12, 155, 156, 157, 158, 159, 160, 161, 162, 163, 164, 165, 166, 167, 168, 169, 170, 171, 172, 173, 174, 175, 176, 177, 178, 179, 180, 181, 182, 183, 184, 185, 186, 187, 188, 189, 190, 191] (fun s => [(10, .int .i64 s)]) (fun _ => _) (fun s => 0 ≤ s ∧ s ≤ a.wys.l.length ∧ ∀ j : Int, 0 ≤ j → j < s → (nth a.wys.l j).e = (nth b.wys.l j).e) (fun s => (a.wys.l.length - s).toNat) 0 (fun _ _ => rfl) rfl rfl ⟨by omega, by omega, fun j _ _ => by omega⟩ ?_
 intro e t hs
 obtain ⟨he1, he2, he3⟩ := hs
 refine Cs (Nz 2 ?_)
 refine Wk 0 (Ba 1) ?_
 refine Wk 1 Nc ?_
 refine Wd (Qc (CS.cond rfl ?_ ?_))<;>intro hc8<;>try simp only [bq] at hc8
 ·
  have aw : SlT cLit w (nth a.wys.l e).wh := ha.wys.at he1 (by omega)
  have bw : SlT cLit w (nth b.wys.l e).wh := hb.wys.at he1 (by omega)
  refine Ck (Qc (Cs (Ce (Cs ?_))))
  refine CS.drawnAll (k := 14) Jai rfl rfl ?_
  refine Ar [0] ?_
  refine Ak 1 [2] rfl (Ba 1) ?_
  refine Ak 3 [] rfl Xc ?_
  refine Ak 4 [5] rfl Ua ?_
  refine Ak 6 [7] rfl (Ba 0) ?_
  refine Ak 8 [] rfl Xc ?_
  refine Ak 9 [] rfl Ua ?_
  refine AS.two (i := 10) (j := 11) (by kernel_rfl) rfl rfl (by first | exact fun _ h => h | exact fun _ h => h.sub (by repeat first | exact List.Sublist.refl _ | apply List.Sublist.cons_cons | apply List.Sublist.cons)) rfl rfl ?_ ?_
  ·
   refine Wl 0 Jjq (fun _ => rfl) (fun _ => rfl) fun b11 hb11 => ?_
   refine Wd (Qa ?_)
   refine Ao 11 rfl ?_
   refine Wl 0 Jjq (fun _ => rfl) (fun _ => rfl) fun b12 hb12 => ?_
   refine Wd (Qa ?_)
   refine Ao 12 rfl ?_
   refine Wv 0 1 ?_
   refine Wd (Qa ?_)
   refine Ao 13 rfl ?_
   refine Wv 0 0 ?_
   refine Wd (Qa ?_)
   refine Ae ?_
   refine Qc (Nz 1 ?_)
   refine Wk 1 (Ba 1) ?_
   refine Wk 2 (Ba 0) ?_
   refine Wf 0 rfl rfl (fun hg => Ff) ?_
   refine Wf 0 rfl rfl (fun hg => Ba 1) ?_
   refine Wf 0 rfl rfl (fun hg => Ff) ?_
   refine Wf 0 rfl rfl (fun hg => Ba 0) ?_
   refine Wf 0 rfl rfl (fun hg => Fr) ?_
   refine Wk 1 Po ?_
   refine Wf 0 rfl rfl (fun hg => Ff) ?_
   refine Wf 0 rfl rfl (fun hg => Ba 1) ?_
   refine Wf 0 rfl rfl (fun hg => Ff) ?_
   refine Wf 0 rfl rfl (fun hg => Ba 0) ?_
   refine Wf 0 rfl rfl (fun hg => Cb rfl (ec_ (eg_ hg rfl) (ec_ (eg_ hg rfl) en_)) Jqz (fun u hu => Jdr _ _ u (aw.st hu) (bw.st hu))) ?_
   refine Wf 0 rfl rfl (fun hg => Fn) ?_
   refine Wk 0 Po ?_
   refine Wd (Qc (CS.cond rfl ?_ ?_))<;>intro hc9<;>try simp only [bq] at hc9
   ·
    refine Nz 1 ?_
    refine Wd (Qc (Cr (Qs (Qr (Qr (Qs (Qr ?_)))))))
    exact out1 rfl rfl (Jab (by rw [Jcl (fun h => by
       have q := (Jjo h).wy e
       simp only [q.1, q.2.1, q.2.2, Jd5] at hc9
       simp at hc9)]))
   refine Ck (Qb (Qc (Ny 1 ?_)))
   refine Wk 1 Za ?_
   refine Wd ?_
   refine QS.sel [2, 2] rfl ?_
   exact QS.head (e + 1) rfl rfl ⟨⟨by omega, by omega, fun j h0 h1 => by
      rcases (show j < e ∨ j = e by omega) with h | h
      ·
       exact he3 j h0 h
      rw [h]; exact J65 hc9.1.1 hc9.1.2 (Jb6.1 hc9.2)⟩, by omega⟩
  refine Wl 0 Jjq (fun _ => rfl) (fun _ => rfl) fun b12 hb12 => ?_
  refine Wd (Qa ?_)
  refine Ao 10 rfl ?_
  refine Wl 0 Jjq (fun _ => rfl) (fun _ => rfl) fun b11 hb11 => ?_
  refine Wd (Qa ?_)
  refine Ao 12 rfl ?_
  refine Wv 0 0 ?_
  refine Wd (Qa ?_)
  refine Ao 13 rfl ?_
  refine Wv 0 1 ?_
  refine Wd (Qa ?_)
  refine Ae ?_
  refine Qc (Nz 1 ?_)
  refine Wk 1 (Ba 0) ?_
  refine Wk 2 (Ba 1) ?_
  refine Wf 0 rfl rfl (fun hg => Ff) ?_
  refine Wf 0 rfl rfl (fun hg => Ba 0) ?_
  refine Wf 0 rfl rfl (fun hg => Ff) ?_
  refine Wf 0 rfl rfl (fun hg => Ba 1) ?_
  refine Wf 0 rfl rfl (fun hg => Fr) ?_
  refine Wk 1 Po ?_
  refine Wf 0 rfl rfl (fun hg => Ff) ?_
  refine Wf 0 rfl rfl (fun hg => Ba 0) ?_
  refine Wf 0 rfl rfl (fun hg => Ff) ?_
  refine Wf 0 rfl rfl (fun hg => Ba 1) ?_
  refine Wf 0 rfl rfl (fun hg => Cb rfl (ec_ (eg_ hg rfl) (ec_ (eg_ hg rfl) en_)) Jqz (fun u hu => Jdr _ _ u (aw.st hu) (bw.st hu))) ?_
  refine Wf 0 rfl rfl (fun hg => Fn) ?_
  refine Wk 0 Po ?_
  refine Wd (Qc (CS.cond rfl ?_ ?_))<;>intro hc9<;>try simp only [bq] at hc9
  ·
   refine Nz 1 ?_
   refine Wd (Qc (Cr (Qs (Qr (Qr (Qs (Qr ?_)))))))
   exact out1 rfl rfl (Jab (by rw [Jcl (fun h => by
      have q := (Jjo h).wy e
      simp only [q.1, q.2.1, q.2.2, Jd5] at hc9
      simp at hc9)]))
  refine Ck (Qb (Qc (Ny 1 ?_)))
  refine Wk 1 Za ?_
  refine Wd ?_
  refine QS.sel [2, 2] rfl ?_
  exact QS.head (e + 1) rfl rfl ⟨⟨by omega, by omega, fun j h0 h1 => by
     rcases (show j < e ∨ j = e by omega) with h | h
     ·
      exact he3 j h0 h
     rw [h]; exact J65 hc9.1.1 hc9.1.2 (Jb6.1 hc9.2)⟩, by omega⟩
 refine Cv (Qe (Qe (Qx (Qc (Cs (Nz 1 ?_))))))
 refine Wd (Qc (Ce ?_))
 refine CS.loopM (σ := Int) [4, 192, 193, 194, 195, 196, 197, 198, 199, 200, 201, 202, 203, 204, 205, 206, 207, 208, 209, 210] (fun s => [(13, .int .i64 s)]) (fun _ => _) (fun s => 0 ≤ s ∧ s ≤ a.acs.l.length ∧ ∀ j : Int, 0 ≤ j → j < s → (nth a.acs.l j).e = (nth b.acs.l j).e) (fun s => (a.acs.l.length - s).toNat) 0 (fun _ _ => rfl) rfl rfl ⟨by omega, by omega, fun j _ _ => by omega⟩ ?_
 intro f t hs
 obtain ⟨hf1, hf2, hf3⟩ := hs
 refine Cs (Nz 2 ?_)
 refine Wk 0 (Ba 1) ?_
 refine Wk 1 Nc ?_
 refine Wd (Qc (CS.cond rfl ?_ ?_))<;>intro hc10<;>try simp only [bq] at hc10
 ·
  have aw : ActOk w (nth a.acs.l f) := ha.acs.at hf1 (by omega)
  have bw : ActOk w (nth b.acs.l f) := hb.acs.at hf1 (by omega)
  refine Ck (Qc (Cs (Ce (Cs (Dr Jai 1 ?_)))))
  refine Dk 1 (Ba 1) ?_
  refine Dk 0 Xc ?_
  refine Dk 1 Ua ?_
  refine Dk 1 (Ba 0) ?_
  refine Dk 0 Xc ?_
  refine Dk 0 Ua ?_
  refine Dk 1 (Cb rfl rfl Kbj (fun u hu => Jzk (nth a.acs.l f) (nth b.acs.l f) u (cAct.ext _ _ _ aw hu.below) (cAct.ext _ _ _ bw hu.below))) ?_
  refine Dd (Qc (CS.cond rfl ?_ ?_))<;>intro hc11<;>try simp only [bq] at hc11
  ·
   refine Nz 1 ?_
   exact Wd (Qc (Cr (Qs (Qr (Qr (Qs (Qr (out1 rfl rfl (Jab (by rw [Jcl (fun h => by rw [Jd5 ((Jjo h).ac f)] at hc11; cases hc11)]))))))))))
  refine Ck (Qb (Qc (Ny 1 ?_)))
  refine Wk 1 Za ?_
  refine Wd ?_
  exact QS.head (f + 1) rfl rfl ⟨⟨by omega, by omega, fun j h0 h1 => by
     rcases (show j < f ∨ j = f by omega) with h | h
     ·
      exact hf3 j h0 h
     rw [h]; exact Jb6.1 hc11⟩, by omega⟩
 refine Cv (Qe (Qe (Qx (Qc (Cs (Nz 1 ?_))))))
 refine Wd (Qc (Ce ?_))
 refine CS.loopM (σ := Int) [4, 211, 212, 213, 214, 215, 216, 217, 218, 219, 220, 221, 222, 223, 224, 225, 226, 227, 228, 229, 230, 231, 232, 233, 234, 235, 236, 237, 238, 239, 240, 241, 242, 243, 244, 245, 246] (fun s => [(14, .int .i64 s)]) (fun _ => _) (fun s => 0 ≤ s ∧ s ≤ a.aus.l.length ∧ ∀ j : Int, 0 ≤ j → j < s → (nth a.aus.l j).e = (nth b.aus.l j).e) (fun s => (a.aus.l.length - s).toNat) 0 (fun _ _ => rfl) rfl rfl ⟨by omega, by omega, fun j _ _ => by omega⟩ ?_
 intro k t hs
 obtain ⟨hk1, hk2, hk3⟩ := hs
 refine Cs (Nz 2 ?_)
 refine Wk 0 (Ba 1) ?_
 refine Wk 1 Nc ?_
 refine Wd (Qc (CS.cond rfl ?_ ?_))<;>intro hc12<;>try simp only [bq] at hc12
 ·
  have aw : SlT cLit w (nth a.aus.l k).wh := ha.aus.at hk1 (by omega)
  have bw : SlT cLit w (nth b.aus.l k).wh := hb.aus.at hk1 (by omega)
  refine Ck (Qc (Cs (Ce (Cs (Dr Jai 1 ?_)))))
  refine Dk 1 (Ba 1) ?_
  refine Dk 1 Xc ?_
  refine Dk 1 (Jeb 3 1 2 rfl aaus rfl ⟨by omega, by omega⟩ rfl rfl J9g) ?_
  refine Dk 1 (Ba 0) ?_
  refine Dk 1 Xc ?_
  refine Dk 0 (Jeb 3 1 2 rfl baus rfl ⟨by omega, by omega⟩ rfl rfl J9g) ?_
  refine Dk 1 (Je9 J80 rfl rfl (@J5b (nth a.aus.l k) (nth b.aus.l k))) ?_
  refine Df 0 rfl rfl (fun hg => Ff) ?_
  refine Df 0 rfl rfl (fun hg => Ba 1) ?_
  refine Df 0 rfl rfl (fun hg => Fm) ?_
  refine Df 0 rfl rfl (fun hg => Xc (eg_ hg rfl)) ?_
  refine Df 0 rfl rfl (fun hg => Ff) ?_
  refine Df 0 rfl rfl (fun hg => Uc 3 0) ?_
  refine Df 0 rfl rfl (fun hg => Ff) ?_
  refine Df 0 rfl rfl (fun hg => Ba 0) ?_
  refine Df 0 rfl rfl (fun hg => Fm) ?_
  refine Df 0 rfl rfl (fun hg => Xc (eg_ hg rfl)) ?_
  refine Df 0 rfl rfl (fun hg => Ff) ?_
  refine Df 0 rfl rfl (fun hg => Uc 3 0) ?_
  refine Df 0 rfl rfl (fun hg => Cb rfl (ec_ (eg_ hg rfl) (ec_ (eg_ hg rfl) en_)) Jqz (fun u hu => Jdr _ _ u (aw.st hu) (bw.st hu))) ?_
  refine Df 0 rfl rfl (fun hg => Fn) ?_
  refine Dk 0 Po ?_
  refine Dd (Qc (CS.cond rfl ?_ ?_))<;>intro hc13<;>try simp only [bq] at hc13
  ·
   refine Nz 1 ?_
   refine Wd (Qc (Cr (Qs (Qr (Qr (Qs (Qr ?_)))))))
   exact out1 rfl rfl (Jab (by rw [Jcl (fun h => by
      have q := (Jjo h).au k
      simp only [q.1, q.2.1, q.2.2, Jd5] at hc13
      simp at hc13)]))
  refine Ck (Qb (Qc (Ny 1 ?_)))
  refine Wk 1 Za ?_
  refine Wd ?_
  exact QS.head (k + 1) rfl rfl ⟨⟨by omega, by omega, fun j h0 h1 => by
     rcases (show j < k ∨ j = k by omega) with h | h
     ·
      exact hk3 j h0 h
     rw [h]; exact J59 hc13.1.1 hc13.1.2 (Jb6.1 hc13.2)⟩, by omega⟩
 refine Cv (Qe (Qe (Qx (Qc (Nz 1 ?_)))))
 exact Wd (Qc (Cr (out1 rfl rfl (Jab (by rw [Jd5 (J6y (Jkb hc2 (by omega) ha_3) (Jkb hc4 (by omega) hb_3) (Jdg Pro.e hc6 (by omega) hd3) (Jdg Way.e hc8 (by omega) he3) (Jdg Actn.e hc10 (by omega) hf3) (Jdg Auto.e hc12 (by omega) hk3) (by omega) hgl)])))))
theorem J6p : agq Tryz.prog 82 = some [(0, 0), (1, 0)] := by kernel_rfl
theorem J0l (x y : LockD) : cmps (cLock.cells x) (cLock.cells y) [(0, 0), (1, 0)] = some (decide (x = y)) := by
 cases x; cases y
 simp only [cmps, cmp1, cLock, List.getElem?_cons_zero, List.getElem?_cons_succ, LockD.mk.injEq]
 simp
theorem J29 {a b : NoteD} (h : a.p = b.p) : a.nm = b.nm ∧ a.pl = b.pl ∧ a.lk = b.lk ∧ a.wh.l = b.wh.l ∧ a.cl = b.cl :=
 ⟨congrArg NoteP.nm h, congrArg NoteP.pl h, congrArg NoteP.lk h, congrArg NoteP.wh h, congrArg NoteP.cl h⟩
theorem J63 {a b : NoteD} (h1 : a.nm = b.nm) (h2 : a.pl = b.pl) (h3 : a.lk = b.lk) (h4 : a.wh.l = b.wh.l) (h5 : a.cl = b.cl) : a.p = b.p := by
 unfold NoteD.p; rw [h1, h2, h3, h4, h5]
theorem Jtq {a b : Game} (h : a.p = b.p) : a.rm.e = b.rm.e ∧ a.lks.l = b.lks.l ∧ a.cds.l.map Sl.l = b.cds.l.map Sl.l ∧ a.nts.l.map NoteD.p = b.nts.l.map NoteD.p ∧ a.tr = b.tr :=
 ⟨congrArg GP.rm h, congrArg GP.lks h, congrArg GP.cds h, congrArg GP.nts h, congrArg GP.tr h⟩
theorem J8m {a b : Game} (h1 : a.rm.e = b.rm.e) (h2 : a.lks.l = b.lks.l) (h3 : a.cds.l.map Sl.l = b.cds.l.map Sl.l) (h4 : a.nts.l.map NoteD.p = b.nts.l.map NoteD.p) (h5 : a.tr = b.tr) : a.p = b.p := by
 unfold Game.p; rw [h1, h2, h3, h4, h5]
theorem Jqq (c d : Clue) (gv hv : Value) (w : World) (h1 : SlI w gv c.g) (h2 : SlI w hv d.g) :
  Calls Tryz.prog 72 #[.agg #[.int .i64 c.k, .int .i64 c.a, .int .i64 c.b, .int .i64 c.n, .int .i64 c.m, gv, .bool c.nt], .agg #[.int .i64 d.k, .int .i64 d.a, .int .i64 d.b, .int .i64 d.n, .int .i64 d.m, hv, .bool d.nt]] w (RetB w (.bool (decide (c = d)))) := by
 refine enter Tryz.func72 rfl rfl (Nat.le_of_ble_eq_true rfl) ?_
 refine Nz 0 ?_
 refine Wb 0 rfl rfl (fun _ => rfl) (fun _ => rfl) fun b2 hb2 => ?_
 refine Wb 1 rfl rfl (fun _ => rfl) (fun _ => rfl) fun b3 hb3 => ?_
 refine Wd (Qc (Nz 1 ?_))
 refine Wk 1 (by first | exact Jae (j := 1) rfl rfl rfl tk3 | exact Jag rfl (by assumption) rfl tk3) ?_
 refine Wk 2 (by first | exact Jae (j := 0) rfl rfl rfl tk3 | exact Jag rfl (by assumption) rfl tk3) ?_
 refine Wt 0 rfl rfl (fun hg => Ff) ?_
 refine Wt 0 rfl rfl (fun hg => by first | exact Jae (j := 1) (eg_ hg rfl) rfl rfl tk3 | exact Jag (eg_ hg rfl) (by assumption) rfl tk3) ?_
 refine Wt 0 rfl rfl (fun hg => Ff) ?_
 refine Wt 0 rfl rfl (fun hg => by first | exact Jae (j := 0) (eg_ hg rfl) rfl rfl tk3 | exact Jag (eg_ hg rfl) (by assumption) rfl tk3) ?_
 refine Wt 0 rfl rfl (fun hg => Fq) ?_
 refine Wk 1 Pa ?_
 refine Wt 0 rfl rfl (fun hg => Ff) ?_
 refine Wt 0 rfl rfl (fun hg => by first | exact Jae (j := 1) (eg_ hg rfl) rfl rfl tk3 | exact Jag (eg_ hg rfl) (by assumption) rfl tk3) ?_
 refine Wt 0 rfl rfl (fun hg => Ff) ?_
 refine Wt 0 rfl rfl (fun hg => by first | exact Jae (j := 0) (eg_ hg rfl) rfl rfl tk3 | exact Jag (eg_ hg rfl) (by assumption) rfl tk3) ?_
 refine Wt 0 rfl rfl (fun hg => Fq) ?_
 refine Wk 1 Pa ?_
 refine Wt 0 rfl rfl (fun hg => Ff) ?_
 refine Wt 0 rfl rfl (fun hg => by first | exact Jae (j := 1) (eg_ hg rfl) rfl rfl tk3 | exact Jag (eg_ hg rfl) (by assumption) rfl tk3) ?_
 refine Wt 0 rfl rfl (fun hg => Ff) ?_
 refine Wt 0 rfl rfl (fun hg => by first | exact Jae (j := 0) (eg_ hg rfl) rfl rfl tk3 | exact Jag (eg_ hg rfl) (by assumption) rfl tk3) ?_
 refine Wt 0 rfl rfl (fun hg => Fq) ?_
 refine Wk 1 Pa ?_
 refine Wt 0 rfl rfl (fun hg => Ff) ?_
 refine Wt 0 rfl rfl (fun hg => by first | exact Jae (j := 1) (eg_ hg rfl) rfl rfl tk3 | exact Jag (eg_ hg rfl) (by assumption) rfl tk3) ?_
 refine Wt 0 rfl rfl (fun hg => Ff) ?_
 refine Wt 0 rfl rfl (fun hg => by first | exact Jae (j := 0) (eg_ hg rfl) rfl rfl tk3 | exact Jag (eg_ hg rfl) (by assumption) rfl tk3) ?_
 refine Wt 0 rfl rfl (fun hg => Fq) ?_
 refine Wk 1 Pa ?_
 refine Wt 0 rfl rfl (fun hg => Ff) ?_
 refine Wt 0 rfl rfl (fun hg => by first | exact Jae (j := 1) (eg_ hg rfl) rfl rfl tk4 | exact Jag (eg_ hg rfl) (by assumption) rfl tk4) ?_
 refine Wt 0 rfl rfl (fun hg => Ff) ?_
 refine Wt 0 rfl rfl (fun hg => by first | exact Jae (j := 0) (eg_ hg rfl) rfl rfl tk4 | exact Jag (eg_ hg rfl) (by assumption) rfl tk4) ?_
 refine Wt 0 rfl rfl (fun hg => Jkh (eg_ hg rfl) (eg_ hg rfl) Tryz.underlying4) ?_
 refine Wk 1 Pa ?_
 refine Wt 0 rfl rfl (fun hg => Ff) ?_
 refine Wt 0 rfl rfl (fun hg => by first | exact Jae (j := 1) (eg_ hg rfl) rfl rfl tk56 | exact Jag (eg_ hg rfl) (by assumption) rfl tk56) ?_
 refine Wt 0 rfl rfl (fun hg => Ff) ?_
 refine Wt 0 rfl rfl (fun hg => by first | exact Jae (j := 0) (eg_ hg rfl) rfl rfl tk56 | exact Jag (eg_ hg rfl) (by assumption) rfl tk56) ?_
 refine Wt 0 rfl rfl (fun hg => Cb rfl (ec_ (eg_ hg rfl) (ec_ (eg_ hg rfl) en_)) Jjt (fun u hu => Jbz _ _ _ _ u (h1.st hu) (h2.st hu))) ?_
 refine Wk 1 Pa ?_
 exact Wd (Qc (Cr (out1 rfl rfl (Jab (by cases c; cases d; simp [Clue.mk.injEq, Bool.and_assoc, and_assoc]; grind)))))
theorem Jvi (a b : NoteD) (w : World) (ha : cNote.ok w a) (hb : cNote.ok w b) :
  Calls Tryz.prog 47 #[.agg #[.string a.nm, .int .i64 a.pl, .int .i64 a.lk, a.wh.v, .int .i64 a.cl.k, .int .i64 a.cl.a, .int .i64 a.cl.b, .int .i64 a.cl.n, .int .i64 a.cl.m, a.gv, .bool a.cl.nt], .agg #[.string b.nm, .int .i64 b.pl, .int .i64 b.lk, b.wh.v, .int .i64 b.cl.k, .int .i64 b.cl.a, .int .i64 b.cl.b, .int .i64 b.cl.n, .int .i64 b.cl.m, b.gv, .bool b.cl.nt]] w (RetB w (.bool (clB (a.p = b.p)))) := by
 have awh := ha.1
 have bwh := hb.1
 have agv := ha.2
 have bgv := hb.2
 have la := awh.le
 have lb := bwh.le
 refine enter Tryz.func47 rfl rfl (Nat.le_of_ble_eq_true rfl) ?_
 refine Nz 0 ?_
 refine Wb 0 rfl rfl (fun _ => rfl) (fun _ => rfl) fun b2 hb2 => ?_
 refine Wb 1 rfl rfl (fun _ => rfl) (fun _ => rfl) fun b3 hb3 => ?_
 refine Wd (Qc (Cs (Nz 1 ?_)))
 refine Wk 1 (by first | exact Jae (j := 1) rfl rfl rfl tk9 | exact Jag rfl (by assumption) rfl tk9) ?_
 refine Wk 0 (by first | exact Jae (j := 0) rfl rfl rfl tk9 | exact Jag rfl (by assumption) rfl tk9) ?_
 refine Wk 1 (Je8 rfl rfl) ?_
 refine Wf 0 rfl rfl (fun hg => Ff) ?_
 refine Wf 0 rfl rfl (fun hg => by first | exact Jae (j := 1) (eg_ hg rfl) rfl rfl tk3 | exact Jag (eg_ hg rfl) (by assumption) rfl tk3) ?_
 refine Wf 0 rfl rfl (fun hg => Ff) ?_
 refine Wf 0 rfl rfl (fun hg => by first | exact Jae (j := 0) (eg_ hg rfl) rfl rfl tk3 | exact Jag (eg_ hg rfl) (by assumption) rfl tk3) ?_
 refine Wf 0 rfl rfl (fun hg => Fr) ?_
 refine Wk 1 Po ?_
 refine Wf 0 rfl rfl (fun hg => Ff) ?_
 refine Wf 0 rfl rfl (fun hg => by first | exact Jae (j := 1) (eg_ hg rfl) rfl rfl tk3 | exact Jag (eg_ hg rfl) (by assumption) rfl tk3) ?_
 refine Wf 0 rfl rfl (fun hg => Ff) ?_
 refine Wf 0 rfl rfl (fun hg => by first | exact Jae (j := 0) (eg_ hg rfl) rfl rfl tk3 | exact Jag (eg_ hg rfl) (by assumption) rfl tk3) ?_
 refine Wf 0 rfl rfl (fun hg => Fr) ?_
 refine Wk 1 Po ?_
 refine Wf 0 rfl rfl (fun hg => Ff) ?_
 refine Wf 0 rfl rfl (fun hg => by first | exact Jg2 (eg_ hg rfl) (by assumption) (by (try simp only [bq] at hg); omega) tk84 | exact Jcj (j := 1) (eg_ hg rfl) rfl tk84 | exact Jb9 (j := 1) (eg_ hg rfl) rfl (by rfl) tk84 | exact Jcf (eg_ hg rfl) (by assumption) (by rfl) tk84 | exact Jcg (n := 7) (j := 1) (eg_ hg rfl) rfl rfl rfl tk84) ?_
 refine Wf 0 rfl rfl (fun hg => Ff) ?_
 refine Wf 0 rfl rfl (fun hg => by first | exact Jg2 (eg_ hg rfl) (by assumption) (by (try simp only [bq] at hg); omega) tk84 | exact Jcj (j := 0) (eg_ hg rfl) rfl tk84 | exact Jb9 (j := 0) (eg_ hg rfl) rfl (by rfl) tk84 | exact Jcf (eg_ hg rfl) (by assumption) (by rfl) tk84 | exact Jcg (n := 7) (j := 0) (eg_ hg rfl) rfl rfl rfl tk84) ?_
 refine Wf 0 rfl rfl (fun hg => Cb rfl (ec_ (eg_ hg rfl) (ec_ (eg_ hg rfl) en_)) Ka8 (fun u hu => Jqq _ _ _ _ u (agv.st hu) (bgv.st hu))) ?_
 refine Wf 0 rfl rfl (fun hg => Fn) ?_
 refine Wk 1 Po ?_
 refine Wf 0 rfl rfl (fun hg => Ff) ?_
 refine Wf 0 rfl rfl (fun hg => by first | exact Jae (j := 1) (eg_ hg rfl) rfl rfl tk29 | exact Jag (eg_ hg rfl) (by assumption) rfl tk29) ?_
 refine Wf 0 rfl rfl (fun hg => Nc (eg_ hg rfl)) ?_
 refine Wf 0 rfl rfl (fun hg => Ff) ?_
 refine Wf 0 rfl rfl (fun hg => by first | exact Jae (j := 0) (eg_ hg rfl) rfl rfl tk29 | exact Jag (eg_ hg rfl) (by assumption) rfl tk29) ?_
 refine Wf 0 rfl rfl (fun hg => Nc (eg_ hg rfl)) ?_
 refine Wf 0 rfl rfl (fun hg => Fr) ?_
 refine Wk 0 Po ?_
 refine Wd (Qc (CS.cond rfl ?_ ?_))<;>intro hc1<;>try simp only [bq] at hc1
 ·
  refine Nz 1 ?_
  refine Wd (Qc (Cr (Qr ?_)))
  exact out1 rfl rfl (Jab (by rw [Jcl (fun h => by
     obtain ⟨q1, q2, q3, q4, q5⟩ := J29 h
     simp only [q1, q2, q3, q4, q5, Jj5] at hc1
     simp at hc1)]))
 refine Ck (Qc (Cs (Nz 1 ?_)))
 refine Wd (Qc (Ce ?_))
 refine CS.loopM (σ := Int) [4, 42, 43, 44, 45, 46, 47, 48, 49, 50, 51, 52, 53, 54, 55, 56, 57, 58, 59] (fun s => [(5, .int .i64 s)]) (fun _ => _) (fun s => 0 ≤ s ∧ s ≤ a.wh.l.length ∧ ∀ j : Int, 0 ≤ j → j < s → nth a.wh.l j = nth b.wh.l j) (fun s => (a.wh.l.length - s).toNat) 0 (fun _ _ => rfl) rfl rfl ⟨by omega, by omega, fun j _ _ => by omega⟩ ?_
 intro s t hs
 obtain ⟨hs1, hs2, hs3⟩ := hs
 refine Cs (Nz 2 ?_)
 refine Wk 0 (by first | exact Jae (j := 1) rfl rfl rfl tk29 | exact Jag rfl (by assumption) rfl tk29) ?_
 refine Wk 1 Nc ?_
 refine Wd (Qc (CS.cond rfl ?_ ?_))<;>intro hc2<;>try simp only [bq] at hc2
 ·
  refine Ck (Qc (Cs (Ce (Cs (Dr Jai 1 ?_)))))
  refine Dk 1 (by first | exact Jae (j := 1) rfl rfl rfl tk29 | exact Jag rfl (by assumption) rfl tk29) ?_
  refine Dk 0 Xc ?_
  refine Dk 1 Ua ?_
  refine Dk 1 (by first | exact Jae (j := 0) rfl rfl rfl tk29 | exact Jag rfl (by assumption) rfl tk29) ?_
  refine Dk 0 Xc ?_
  refine Dk 0 Ua ?_
  refine Dk 0 (Je9 J86 rfl rfl (Jze (nth a.wh.l s) (nth b.wh.l s))) ?_
  refine Dd (Qc (CS.cond rfl ?_ ?_))<;>intro hc3<;>try simp only [bq] at hc3
  ·
   refine Nz 1 ?_
   exact Wd (Qc (Cr (Qs (Qr (Qr (Qs (Qr (out1 rfl rfl (Jab (by rw [Jcl (fun h => hc3 (by rw [(J29 h).2.2.2.1]))]))))))))))
  refine Ck (Qb (Qc (Ny 1 ?_)))
  refine Wk 1 Za ?_
  refine Wd ?_
  exact QS.head (s + 1) rfl rfl ⟨⟨by omega, by omega, fun j h0 h1 => by
     rcases (show j < s ∨ j = s by omega) with h | h
     ·
      exact hs3 j h0 h
     rw [h]; exact hc3⟩, by omega⟩
 refine Cv (Qe (Qe (Qx (Qc (Nz 1 ?_)))))
 exact Wd (Qc (Cr (out1 rfl rfl (Jab (by rw [Jd5 (J63 (Jgf.1 (by grind)) (by grind) (by grind) (Jkb hc2 (by omega) hs3) (by grind))])))))
theorem J5j (a b : Game) (w : World) (ha : GameOk w a) (hb : GameOk w b) :
  Calls Tryz.prog 18 #[.agg #[a.rm.pls.v, a.rm.ths.v, a.rm.prs.v, a.rm.wys.v, a.rm.acs.v, a.rm.aus.v, .int .i64 a.rm.ply, a.rm.gl.v, a.lks.v, a.cds.v, a.nts.v, .int .i64 a.tr], .agg #[b.rm.pls.v, b.rm.ths.v, b.rm.prs.v, b.rm.wys.v, b.rm.acs.v, b.rm.aus.v, .int .i64 b.rm.ply, b.rm.gl.v, b.lks.v, b.cds.v, b.nts.v, .int .i64 b.tr]] w (RetB w (.bool (clB (a.p = b.p)))) := by
 have alks := ha.lks
 have allks := ha.lks.le
 have acds := ha.cds
 have alcds := ha.cds.le
 have ants := ha.nts
 have alnts := ha.nts.le
 have blks := hb.lks
 have bllks := hb.lks.le
 have bcds := hb.cds
 have blcds := hb.cds.le
 have bnts := hb.nts
 have blnts := hb.nts.le
 refine enter Tryz.func18 rfl rfl (Nat.le_of_ble_eq_true rfl) ?_
 refine Nz 0 ?_
 refine Wb 0 rfl rfl (fun _ => rfl) (fun _ => rfl) fun b2 hb2 => ?_
 refine Wb 1 rfl rfl (fun _ => rfl) (fun _ => rfl) fun b3 hb3 => ?_
 refine Wd (Qc (Cs (Nz 1 ?_)))
 refine Wk 1 (by first | exact Jcj (j := 1) rfl rfl tk31 | exact Jb9 (j := 1) rfl rfl (by rfl) tk31 | exact Jcf rfl (by assumption) (by rfl) tk31 | exact Jcg (n := 8) (j := 1) rfl rfl rfl rfl tk31) ?_
 refine Wk 0 (by first | exact Jcj (j := 0) rfl rfl tk31 | exact Jb9 (j := 0) rfl rfl (by rfl) tk31 | exact Jcf rfl (by assumption) (by rfl) tk31 | exact Jcg (n := 8) (j := 0) rfl rfl rfl rfl tk31) ?_
 refine Wk 2 (Cb rfl rfl Ka9 (fun u hu => J43 a.rm b.rm u (ha.rm.st hu) (hb.rm.st hu))) ?_
 refine Wf 0 rfl rfl (fun hg => Ff) ?_
 refine Wf 0 rfl rfl (fun hg => by first | exact Jae (j := 1) (eg_ hg rfl) rfl rfl tk32 | exact Jag (eg_ hg rfl) (by assumption) rfl tk32) ?_
 refine Wf 0 rfl rfl (fun hg => Nc (eg_ hg rfl)) ?_
 refine Wf 0 rfl rfl (fun hg => Ff) ?_
 refine Wf 0 rfl rfl (fun hg => by first | exact Jae (j := 0) (eg_ hg rfl) rfl rfl tk32 | exact Jag (eg_ hg rfl) (by assumption) rfl tk32) ?_
 refine Wf 0 rfl rfl (fun hg => Nc (eg_ hg rfl)) ?_
 refine Wf 0 rfl rfl (fun hg => Fr) ?_
 refine Wk 1 Po ?_
 refine Wf 0 rfl rfl (fun hg => Ff) ?_
 refine Wf 0 rfl rfl (fun hg => by first | exact Jae (j := 1) (eg_ hg rfl) rfl rfl tk33 | exact Jag (eg_ hg rfl) (by assumption) rfl tk33) ?_
 refine Wf 0 rfl rfl (fun hg => Nc (eg_ hg rfl)) ?_
 refine Wf 0 rfl rfl (fun hg => Ff) ?_
 refine Wf 0 rfl rfl (fun hg => by first | exact Jae (j := 0) (eg_ hg rfl) rfl rfl tk33 | exact Jag (eg_ hg rfl) (by assumption) rfl tk33) ?_
 refine Wf 0 rfl rfl (fun hg => Nc (eg_ hg rfl)) ?_
 refine Wf 0 rfl rfl (fun hg => Fr) ?_
 refine Wk 1 Po ?_
 refine Wf 0 rfl rfl (fun hg => Ff) ?_
 refine Wf 0 rfl rfl (fun hg => by first | exact Jae (j := 1) (eg_ hg rfl) rfl rfl tk34 | exact Jag (eg_ hg rfl) (by assumption) rfl tk34) ?_
 refine Wf 0 rfl rfl (fun hg => Nc (eg_ hg rfl)) ?_
 refine Wf 0 rfl rfl (fun hg => Ff) ?_
 refine Wf 0 rfl rfl (fun hg => by first | exact Jae (j := 0) (eg_ hg rfl) rfl rfl tk34 | exact Jag (eg_ hg rfl) (by assumption) rfl tk34) ?_
 refine Wf 0 rfl rfl (fun hg => Nc (eg_ hg rfl)) ?_
 refine Wf 0 rfl rfl (fun hg => Fr) ?_
 refine Wk 1 Po ?_
 refine Wf 0 rfl rfl (fun hg => Ff) ?_
 refine Wf 0 rfl rfl (fun hg => by first | exact Jae (j := 1) (eg_ hg rfl) rfl rfl tk3 | exact Jag (eg_ hg rfl) (by assumption) rfl tk3) ?_
 refine Wf 0 rfl rfl (fun hg => Ff) ?_
 refine Wf 0 rfl rfl (fun hg => by first | exact Jae (j := 0) (eg_ hg rfl) rfl rfl tk3 | exact Jag (eg_ hg rfl) (by assumption) rfl tk3) ?_
 refine Wf 0 rfl rfl (fun hg => Fr) ?_
 refine Wk 0 Po ?_
 refine Wd (Qc (CS.cond rfl ?_ ?_))<;>intro hc1<;>try simp only [bq] at hc1
 ·
  refine Nz 1 ?_
  refine Wd (Qc (Cr (Qr ?_)))
  exact out1 rfl rfl (Jab (by rw [Jcl (fun h => by
     obtain ⟨q1, q2, q3, q4, q5⟩ := Jtq h
     have l3 : a.cds.l.length = b.cds.l.length := by simpa using congrArg List.length q3
     have l4 : a.nts.l.length = b.nts.l.length := by simpa using congrArg List.length q4
     simp only [q1, q2, l3, l4, q5, Jd5] at hc1
     simp at hc1)]))
 have hrm : a.rm.e = b.rm.e := Jb6.1 (by grind)
 refine Ck (Qc (Cs (Nz 1 ?_)))
 refine Wd (Qc (Ce ?_))
 refine CS.loopM (σ := Int) [4, 48, 49, 50, 51, 52, 53, 54, 55, 56, 57, 58, 59, 60, 61, 62, 63, 64, 65] (fun s => [(5, .int .i64 s)]) (fun _ => _) (fun s => 0 ≤ s ∧ s ≤ a.lks.l.length ∧ ∀ j : Int, 0 ≤ j → j < s → nth a.lks.l j = nth b.lks.l j) (fun s => (a.lks.l.length - s).toNat) 0 (fun _ _ => rfl) rfl rfl ⟨by omega, by omega, fun j _ _ => by omega⟩ ?_
 intro a_ t hs
 obtain ⟨ha_1, ha_2, ha_3⟩ := hs
 refine Cs (Nz 2 ?_)
 refine Wk 0 (by first | exact Jae (j := 1) rfl rfl rfl tk32 | exact Jag rfl (by assumption) rfl tk32) ?_
 refine Wk 1 Nc ?_
 refine Wd (Qc (CS.cond rfl ?_ ?_))<;>intro hc2<;>try simp only [bq] at hc2
 ·
  refine Ck (Qc (Cs (Ce (Cs (Dr Jai 1 ?_)))))
  refine Dk 1 (by first | exact Jae (j := 1) rfl rfl rfl tk32 | exact Jag rfl (by assumption) rfl tk32) ?_
  refine Dk 0 Xc ?_
  refine Dk 1 Ua ?_
  refine Dk 1 (by first | exact Jae (j := 0) rfl rfl rfl tk32 | exact Jag rfl (by assumption) rfl tk32) ?_
  refine Dk 0 Xc ?_
  refine Dk 0 Ua ?_
  refine Dk 0 (Je9 J6p rfl rfl (J0l (nth a.lks.l a_) (nth b.lks.l a_))) ?_
  refine Dd (Qc (CS.cond rfl ?_ ?_))<;>intro hc3<;>try simp only [bq] at hc3
  ·
   refine Nz 1 ?_
   exact Wd (Qc (Cr (Qs (Qr (Qr (Qs (Qr (out1 rfl rfl (Jab (by rw [Jcl (fun h => hc3 (by rw [(Jtq h).2.1]))]))))))))))
  refine Ck (Qb (Qc (Ny 1 ?_)))
  refine Wk 1 Za ?_
  refine Wd ?_
  exact QS.head (a_ + 1) rfl rfl ⟨⟨by omega, by omega, fun j h0 h1 => by
     rcases (show j < a_ ∨ j = a_ by omega) with h | h
     ·
      exact ha_3 j h0 h
     rw [h]; exact hc3⟩, by omega⟩
 refine Cv (Qe (Qe (Qx (Qc (Cs (Nz 1 ?_))))))
 refine Wd (Qc (Ce ?_))
 refine CS.loopM (σ := Int) [4, 66, 67, 68, 69, 70, 71, 72, 73, 74, 75, 76, 77, 78, 79, 80, 81, 82, 83, 84] (fun s => [(6, .int .i64 s)]) (fun _ => _) (fun s => 0 ≤ s ∧ s ≤ a.cds.l.length ∧ ∀ j : Int, 0 ≤ j → j < s → (nth a.cds.l j).l = (nth b.cds.l j).l) (fun s => (a.cds.l.length - s).toNat) 0 (fun _ _ => rfl) rfl rfl ⟨by omega, by omega, fun j _ _ => by omega⟩ ?_
 intro b_ t hs
 obtain ⟨hb_1, hb_2, hb_3⟩ := hs
 refine Cs (Nz 2 ?_)
 refine Wk 0 (by first | exact Jae (j := 1) rfl rfl rfl tk33 | exact Jag rfl (by assumption) rfl tk33) ?_
 refine Wk 1 Nc ?_
 refine Wd (Qc (CS.cond rfl ?_ ?_))<;>intro hc4<;>try simp only [bq] at hc4
 ·
  have ac : SlI w (nth a.cds.l b_).v (nth a.cds.l b_).l := (acds.at hb_1 (by omega) : SlT cInt w _).ints
  have bc : SlI w (nth b.cds.l b_).v (nth b.cds.l b_).l := (bcds.at hb_1 (by omega) : SlT cInt w _).ints
  refine Ck (Qc (Cs (Ce (Cs (Dr Jai 1 ?_)))))
  refine Dk 1 (by first | exact Jae (j := 1) rfl rfl rfl tk33 | exact Jag rfl (by assumption) rfl tk33) ?_
  refine Dk 0 Xc ?_
  refine Dk 1 Ub ?_
  refine Dk 1 (by first | exact Jae (j := 0) rfl rfl rfl tk33 | exact Jag rfl (by assumption) rfl tk33) ?_
  refine Dk 0 Xc ?_
  refine Dk 0 Ub ?_
  refine Dk 1 (Cb rfl rfl Jjt (fun u hu => Jbz _ _ _ _ u (ac.st hu) (bc.st hu))) ?_
  refine Dd (Qc (CS.cond rfl ?_ ?_))<;>intro hc5<;>try simp only [bq] at hc5
  ·
   refine Nz 1 ?_
   exact Wd (Qc (Cr (Qs (Qr (Qr (Qs (Qr (out1 rfl rfl (Jab (by rw [Jcl (fun h => hc5 (Jwo (Jtq h).2.2.1 b_))]))))))))))
  refine Ck (Qb (Qc (Ny 1 ?_)))
  refine Wk 1 Za ?_
  refine Wd ?_
  exact QS.head (b_ + 1) rfl rfl ⟨⟨by omega, by omega, fun j h0 h1 => by
     rcases (show j < b_ ∨ j = b_ by omega) with h | h
     ·
      exact hb_3 j h0 h
     rw [h]; exact hc5⟩, by omega⟩
 refine Cv (Qe (Qe (Qx (Qc (Cs (Nz 1 ?_))))))
 refine Wd (Qc (Ce ?_))
 refine CS.loopM (σ := Int) [4, 85, 86, 87, 88, 89, 90, 91, 92, 93, 94, 95, 96, 97, 98, 99, 100, 101, 102, 103] (fun s => [(7, .int .i64 s)]) (fun _ => _) (fun s => 0 ≤ s ∧ s ≤ a.nts.l.length ∧ ∀ j : Int, 0 ≤ j → j < s → (nth a.nts.l j).p = (nth b.nts.l j).p) (fun s => (a.nts.l.length - s).toNat) 0 (fun _ _ => rfl) rfl rfl ⟨by omega, by omega, fun j _ _ => by omega⟩ ?_
 intro d t hs
 obtain ⟨hd1, hd2, hd3⟩ := hs
 refine Cs (Nz 2 ?_)
 refine Wk 0 (by first | exact Jae (j := 1) rfl rfl rfl tk34 | exact Jag rfl (by assumption) rfl tk34) ?_
 refine Wk 1 Nc ?_
 refine Wd (Qc (CS.cond rfl ?_ ?_))<;>intro hc6<;>try simp only [bq] at hc6
 ·
  have an : cNote.ok w (nth a.nts.l d) := ants.at hd1 (by omega)
  have bn : cNote.ok w (nth b.nts.l d) := bnts.at hd1 (by omega)
  refine Ck (Qc (Cs (Ce (Cs (Dr Jai 1 ?_)))))
  refine Dk 1 (by first | exact Jae (j := 1) rfl rfl rfl tk34 | exact Jag rfl (by assumption) rfl tk34) ?_
  refine Dk 0 Xc ?_
  refine Dk 1 Ua ?_
  refine Dk 1 (by first | exact Jae (j := 0) rfl rfl rfl tk34 | exact Jag rfl (by assumption) rfl tk34) ?_
  refine Dk 0 Xc ?_
  refine Dk 0 Ua ?_
  refine Dk 1 (Cb rfl rfl Kag (fun u hu => Jvi (nth a.nts.l d) (nth b.nts.l d) u (cNote.ext _ _ _ an hu.below) (cNote.ext _ _ _ bn hu.below))) ?_
  refine Dd (Qc (CS.cond rfl ?_ ?_))<;>intro hc7<;>try simp only [bq] at hc7
  ·
   refine Nz 1 ?_
   exact Wd (Qc (Cr (Qs (Qr (Qr (Qs (Qr (out1 rfl rfl (Jab (by rw [Jcl (fun h => by rw [Jd5 (Jwo (Jtq h).2.2.2.1 d)] at hc7; cases hc7)]))))))))))
  refine Ck (Qb (Qc (Ny 1 ?_)))
  refine Wk 1 Za ?_
  refine Wd ?_
  exact QS.head (d + 1) rfl rfl ⟨⟨by omega, by omega, fun j h0 h1 => by
     rcases (show j < d ∨ j = d by omega) with h | h
     ·
      exact hd3 j h0 h
     rw [h]; exact Jb6.1 hc7⟩, by omega⟩
 refine Cv (Qe (Qe (Qx (Qc (Nz 1 ?_)))))
 exact Wd (Qc (Cr (out1 rfl rfl (Jab (by rw [Jd5 (J8m hrm (Jkb hc2 (by omega) ha_3) (Jdg Sl.l hc4 (by omega) hb_3) (Jdg NoteD.p hc6 (by omega) hd3) (by omega))])))))
end Go.Proofs.YtohneogdekdboaaGreatDoor
