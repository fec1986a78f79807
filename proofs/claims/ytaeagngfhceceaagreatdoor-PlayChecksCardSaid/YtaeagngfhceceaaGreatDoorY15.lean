/- Merged texts of this proof (walks and plain laws), printed by a program of the prover. -/
import Derived.Test.YtaeagngfhceceaaGreatDoorY2
import Derived.Test.YtaeagngfhceceaaGreatDoorY3
import Derived.Test.YtaeagngfhceceaaGreatDoorY4
import Derived.Test.YtaeagngfhceceaaGreatDoorY9
import Derived.Test.YtaeagngfhceceaaGreatDoorY10
import Derived.Test.YtaeagngfhceceaaGreatDoorZb
import Derived.Test.YtaeagngfhceceaaGreatDoorProg
import Derived.KernelRfl
import Derived.Test.YtaeagngfhceceaaGreatDoorZc
import Derived.Test.YtaeagngfhceceaaGreatDoorZo
import Derived.Test.YtaeagngfhceceaaGreatDoorZm
import Derived.Test.YtaeagngfhceceaaGreatDoorZp
namespace Go.Proofs.YtaeagngfhceceaaGreatDoor
set_option linter.unusedVariables false
set_option linter.unusedSimpArgs false
open Go.RowKit
section
variable {P : Program} {ro : Option Nat} {n0 : Nat} {w0 : World} {ds : List Deferred} {ops : Array Oper} {Q : Exit → Act → World → Prop} {L : List SA}
  {rest : List Oper} {l : List Value} {d : Option Tmp} {ty : TypeId} {ps : String} {af : Array Edge} {g : Option (Nat × Bool)} {C : World → Prop}
end
theorem retPos {w0 u : World} {L : List SA} {is : List Nat} {e : TypeId} {y : Stt} {rv : Value} {rd : List Bool} {f : Value → Value} {x : PX} (hs : selo L is = some [roS fun u => SttOk u y, oT cBool e rv rd]) (hx : (y.x, rd) = x) (hu : St w0.heap.size w0 L u) :
    RetP w0 x f (.returned (f (.agg #[y.ths.v, y.prs.v, y.pls.v, rv]))) u := by
  have h1 := St.toRo (A := star [roS fun u => SttOk u y, oT cBool e rv rd]) (p := fun u => PosOk u ⟨y, ⟨rv, rd⟩⟩) (L := []) (fun S u h => ⟨Star.ro (L := [roS fun u => SttOk u y, oT cBool e rv rd]) (j := 0) rfl h.1, boolT (Star.osl (L := [roS fun u => SttOk u y, oT cBool e rv rd]) (j := 1) rfl h.1)⟩) (St.pack (L2 := []) (by simpa using hu.sel is hs))
  exact ⟨⟨y, ⟨rv, rd⟩⟩, ⟨hx, u, h1.ro (j := 0) rfl⟩, retF (j := 0) rfl u h1⟩
def seenTo (x : P3) (n : NoteP) (k : Int) : Bool := (x.2.2.take k.toNat).any (fun p => decide (p = n.pl)) && holdB x.1 n.wh
theorem seenTo_all {x : P3} {n : NoteP} {k : Int} (h : x.2.2.length ≤ k) : seenTo x n k = seenB x n := by
  unfold seenTo seenB; rw [List.take_of_length_le (by omega)]
theorem seenTo_zero {x : P3} {n : NoteP} : seenTo x n 0 = false := by simp [seenTo]
theorem seenTo_snoc {x : P3} {n : NoteP} {k : Int} (h0 : 0 ≤ k) (h1 : k < x.2.2.length) : seenTo x n (k + 1) = (seenTo x n k || (decide (nth x.2.2 k = n.pl) && holdB x.1 n.wh)) := by
  unfold seenTo
  rw [take_snocI _ h0 h1, List.any_append]
  simp only [List.any_cons, List.any_nil, Bool.or_false]
  cases (List.any (x.2.2.take k.toNat) fun p => decide (p = n.pl)) <;> cases holdB x.1 n.wh <;> simp
end Go.Proofs.YtaeagngfhceceaaGreatDoor
namespace Go.Proofs.YtaeagngfhceceaaGreatDoor
open Go.Proofs
theorem ent100 : Ent Tryz.prog 100 := ent_of Tryz.func100 (by kernel_rfl) rfl
end Go.Proofs.YtaeagngfhceceaaGreatDoor
set_option maxHeartbeats 8000000
namespace Go.Proofs.YtaeagngfhceceaaGreatDoor
open Go.RowKit Go.Proofs
set_option maxRecDepth 100000
set_option linter.unusedVariables false
set_option linter.unusedSimpArgs false
theorem readR_c (G : Game) (w : World) (hG : GameOk w G) (hV : GoodG G) (p : Pos) (hp : PosOk w p) (hI : StIn G.rm p.st.x) (hl : p.rd.l.length = G.nts.l.length) :
  Calls Tryz.prog 100 #[.agg #[G.rm.pls.v, G.rm.ths.v, G.rm.prs.v, G.rm.wys.v, G.rm.acs.v, G.rm.aus.v, .int .i64 G.rm.ply, G.rm.gl.v, G.lks.v, G.cds.v, G.nts.v, .int .i64 G.tr], .agg #[p.st.ths.v, p.st.prs.v, p.st.pls.v, p.rd.v]] w (RetP w (p.st.x, readX G.p p.st.x p.rd.l) fun v => v) := by
 have knt := hG.nts
 have hnn := hV.nn
 have hsm := hI.small hV.ready
 have hpl := hI.ll
 refine enter Tryz.func100 rfl rfl (Nat.le_of_ble_eq_true rfl) ?_
 refine Nz 0 ?_
 refine Wb 0 rfl rfl (fun _ => rfl) (fun _ => rfl) fun b2 hb2 => ?_
 refine Wb 0 rfl rfl (fun _ => rfl) (fun _ => rfl) fun b3 hb3 => ?_
 refine Wl 0 zv68 (fun _ => rfl) (fun _ => rfl) fun b4 hb4 => ?_
 refine Wd (Qc (Nz 0 ?_))
 refine Wk 0 (Bb 1) ?_
 refine Wc rfl rfl ent29 (fun u hu => CopyPos0_c p u (hp.toSt hu) ⟨hsm, by omega⟩) (fun _ => rfl) ?_; rintro ⟨y, rv⟩ ⟨⟨hyx, uy, hyok⟩, hrv⟩
 obtain ⟨hya, hyb, hyc⟩ := hyok.ones
 have hyl : y.pls.l = p.st.pls.l := congrArg (fun q : P3 => q.2.2) hyx
 have hyt : y.ths.l = p.st.ths.l := congrArg (fun q : P3 => q.1) hyx
 have ypl := hyok.pls.ints
 have hyn : y.pls.l.length ≤ 1000000 := by rw [hyl]; exact hsm.2.2
 refine WS.unpack ?_
 refine Wl 0 zv68 (fun _ => rfl) (fun _ => rfl) fun b5 hb5 => ?_
 refine Wv 0 0 ?_
 refine Wd (Qc (Cs (Nz 1 ?_)))
 refine Wd (Qc (Ce ?_))
 refine CS.sel [0, 1, 0, 0, 0, 0] rfl ?_
 refine CS.loopM (σ := Int × List Bool) [7, 8, 11, 12, 13, 14, 15, 16, 17, 18, 19, 20, 21, 22, 23, 24, 25, 26, 27, 28, 29, 30, 31, 32, 33, 34, 35, 36, 37, 38, 39, 40, 41, 42, 43, 44, 45, 46, 47, 48, 49, 50] (fun s => [(6, .int .i64 s.1)]) (fun s => [blk b5 [y.ths.v, y.prs.v, y.pls.v, rv] 68, oT cBool 4 rv s.2, roS fun u => SttOk u y, blk b4 [.slice none 0 0, .slice none 0 0, .slice none 0 0, .slice none 0 0] 68, blk b3 [p.st.ths.v, p.st.prs.v, p.st.pls.v, p.rd.v] 68, blk b2 [G.rm.pls.v, G.rm.ths.v, G.rm.prs.v, G.rm.wys.v, G.rm.acs.v, G.rm.aus.v, .int .i64 G.rm.ply, G.rm.gl.v, G.lks.v, G.cds.v, G.nts.v, .int .i64 G.tr] 36]) (fun s => 0 ≤ s.1 ∧ s.1 ≤ G.nts.l.length ∧ ReadTo G.p p.st.x p.rd.l s.1 s.2) (fun s => (G.nts.l.length - s.1).toNat) (0, p.rd.l) (fun _ _ => rfl) rfl rfl ⟨by simp, by simp, ReadTo.zero⟩ ?_
 intro a t hs
 obtain ⟨ha1, ha2, ha3⟩ := hs
 have hln := ha3.len
 refine Cs (Nz 2 ?_)
 refine Wk 0 (Ba 5) ?_
 refine Wk 1 Nc ?_
 refine Wd (Qc (CS.cond rfl ?_ ?_))<;>intro hc1<;>try simp only [bq] at hc1
 ·
  have hnt : cNote.ok w (nth G.nts.l a.1) := knt.at ha1 (by omega)
  have hwh : SlT cLit w (nth G.nts.l a.1).wh := hnt.1
  have hco : condIn p.st.ths.l.length (nth G.nts.l a.1).wh.l := by rw [show p.st.ths.l.length = G.rm.ths.l.length from hI.lt]; exact hV.cond ha1 (by omega)
  refine Ck (Qc (Cs (Ce (Nz 1 ?_))))
  refine Wk 1 (Ba 5) ?_
  refine Wk 0 Xc ?_
  refine Wk 0 Ua ?_
  refine Wl 0 zv50 (fun _ => rfl) (fun _ => rfl) fun b7 hb7 => ?_
  refine Wv 0 0 ?_
  refine Wd (Qc (Nz 1 ?_))
  refine Wd (Qc (Ce ?_))
  refine CS.loopM (σ := Int × List Bool) [23, 24, 25, 26, 27, 28, 29, 30, 31, 32, 33, 34, 35, 36, 37, 38, 39, 40, 41, 42, 43, 44, 45, 46, 47, 48, 49, 50] (fun s => [(8, .int .i64 s.1)]) (fun s => blk b7 [.string (nth G.nts.l a.1).nm, .int .i64 (nth G.nts.l a.1).pl, .int .i64 (nth G.nts.l a.1).lk, (nth G.nts.l a.1).wh.v, .int .i64 (nth G.nts.l a.1).cl.k, .int .i64 (nth G.nts.l a.1).cl.a, .int .i64 (nth G.nts.l a.1).cl.b, .int .i64 (nth G.nts.l a.1).cl.n, .int .i64 (nth G.nts.l a.1).cl.m, (nth G.nts.l a.1).gv, .bool (nth G.nts.l a.1).cl.nt] 50 :: [blk b5 [y.ths.v, y.prs.v, y.pls.v, rv] 68, oT cBool 4 rv s.2, roS fun u => SttOk u y, blk b4 [.slice none 0 0, .slice none 0 0, .slice none 0 0, .slice none 0 0] 68, blk b3 [p.st.ths.v, p.st.prs.v, p.st.pls.v, p.rd.v] 68, blk b2 [G.rm.pls.v, G.rm.ths.v, G.rm.prs.v, G.rm.wys.v, G.rm.acs.v, G.rm.aus.v, .int .i64 G.rm.ply, G.rm.gl.v, G.lks.v, G.cds.v, G.nts.v, .int .i64 G.tr] 36]) (fun s => 0 ≤ s.1 ∧ s.1 ≤ y.pls.l.length ∧ s.2 = if seenTo p.st.x (nth G.nts.l a.1).p s.1 = true then a.2.set a.1.toNat true else a.2) (fun s => (y.pls.l.length - s.1).toNat) (0, a.2) (fun _ _ => rfl) rfl rfl ⟨by simp, by simp, by rw [seenTo_zero]; rfl⟩ ?_
  intro d t hs
  obtain ⟨hd1, hd2, hd3⟩ := hs
  have hdl : d.2.length = a.2.length := by rw [hd3]; split <;> simp
  have hsn := fun h : d.1 < p.st.x.2.2.length => seenTo_snoc (x := p.st.x) (n := (nth G.nts.l a.1).p) hd1 h
  refine Cs (Nz 3 ?_)
  refine Wk 0 (Ba 1) ?_
  refine Wk 1 (det_lenS sl42 rfl ypl) ?_
  refine Wd (Qc (CS.cond rfl ?_ ?_))<;>intro hc2<;>try simp only [bq] at hc2
  ·
   refine Ck (Qc (Cs (Ce (Cs (Dr mixed 2 ?_)))))
   refine Dk 1 (Ba 1) ?_
   refine Dk 0 (det_idxI sl42 rfl rfl ypl (by omega) (by omega)) ?_
   refine Dk 1 (det_ldP (j := 3) rfl (fun u (h : SttOk u y) => h.pls.ints) rfl (by omega) tk3) ?_
   refine Dk 2 (Ba 0) ?_
   refine Dt 0 rfl rfl (fun hg => Ff) ?_
   refine Dt 0 rfl rfl (fun hg => Bc 1) ?_
   refine Dt 0 rfl rfl (fun hg => Ff) ?_
   refine Dt 0 rfl rfl (fun hg => Ba 0) ?_
   refine Dt 0 rfl rfl (fun hg => Cb rfl (ec_ (eg_ hg rfl) (ec_ (eg_ hg rfl) en_)) ent152 (fun u hu => Holding_c y u (hu.ro (j := 3) rfl) (nth G.nts.l a.1).wh (hwh.st hu) (by rw [hyt]; exact hco))) ?_
   refine Dk 0 Pa ?_
   refine Dd (Qc (CS.cond rfl ?_ ?_))<;>intro hc3<;>try simp only [bq] at hc3
   ·
    refine Ny 1 ?_
    refine Wk 1 (Ba 1) ?_
    refine Wk 0 (det_idxOT (j := 2) sl66 rfl rfl rfl rfl (by omega) (by omega)) ?_
    refine WS.storeTc (C := cBool) 1 0 true (j := 2) rfl rfl rfl ⟨by omega, by omega⟩ (by decide) rfl rfl tk4 rfl rfl ?_
    refine Wd (Qb (Qc (Ny 1 ?_)))
    refine Wk 1 Za ?_
    refine Wd ?_
    exact QS.head ((d.1 + 1, d.2.set a.1.toNat true)) rfl rfl ⟨⟨by simp; omega, by simp; omega, by
        simp only
        rw [hsn (by show d.1 < (p.st.pls.l.length : Int); rw [← hyl]; omega), show (decide (nth p.st.x.2.2 d.1 = (nth G.nts.l a.1).p.pl) && holdB p.st.x.1 (nth G.nts.l a.1).p.wh) = true by (simp only [Bool.and_eq_true, decide_eq_true_eq, Stt.x, ← hyl, ← hyt]; exact hc3), Bool.or_true, if_pos rfl, hd3]
        split
        ·
         rw [List.set_set]
        ·
         rfl⟩, by simp; omega⟩
   ·
    refine Ck (Qb (Qc (Ny 1 ?_)))
    refine Wk 1 Za ?_
    refine Wd ?_
    exact QS.head ((d.1 + 1, d.2)) rfl rfl ⟨⟨by simp; omega, by simp; omega, by
        simp only
        rw [hsn (by show d.1 < (p.st.pls.l.length : Int); rw [← hyl]; omega), show (decide (nth p.st.x.2.2 d.1 = (nth G.nts.l a.1).p.pl) && holdB p.st.x.1 (nth G.nts.l a.1).p.wh) = false by (simp only [Bool.and_eq_false_iff, decide_eq_false_iff_not, Stt.x, ← hyl, ← hyt]; exact hc3), Bool.or_false, hd3]⟩, by simp; omega⟩
  ·
   refine Cv (Qe (Qe (Qx (Qb (Qc (Ny 1 ?_))))))
   refine Wk 1 Za ?_
   refine Wd ?_
   refine QS.sel [1, 1, 1, 1, 1, 1] rfl ?_
   exact QS.head ((a.1 + 1, d.2)) rfl rfl ⟨⟨by simp; omega, by simp; omega, ha3.next ha1 (by omega) (by rw [hd3, Game.p_nts, seenTo_all (by show p.st.pls.l.length ≤ d.1; rw [← hyl]; omega)])⟩, by simp; omega⟩
 ·
  refine Cv (Qe (Qe (Qx (Qc (Nz 0 ?_)))))
  refine Wk 0 (Bb 0) ?_
  refine Wv 0 3 ?_
  exact Wd (Qc (Cr (outR (resc rfl (cell_rvN (j := 3) rfl rfl tk68)) (fun u hu => retPos (f := fun v => v) (is := [2, 1]) rfl (by rw [hyx, ha3.done (by omega)]) hu))))
end Go.Proofs.YtaeagngfhceceaaGreatDoor
