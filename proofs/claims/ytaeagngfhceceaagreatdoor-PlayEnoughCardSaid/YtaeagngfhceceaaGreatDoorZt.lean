/- Merged texts of this proof (walks and plain laws), printed by a program of the prover. -/
import Derived.Test.YtaeagngfhceceaaGreatDoorZs
import Derived.Test.YtaeagngfhceceaaGreatDoorZl
set_option maxHeartbeats 8000000
namespace Go.Proofs.YtaeagngfhceceaaGreatDoor
open Go.RowKit Go.Proofs
set_option maxRecDepth 100000
set_option linter.unusedVariables false
set_option linter.unusedSimpArgs false
theorem HasZ.pack {w : World} {z : Stt} {Z : SA} {B : List SA} {j : Nat} (hZ : HasZ w Z z) (hj : B[j]? = some Z) : HasZ w (Go.Proofs.YtaeagngfhceceaaGreatDoor.star B) z := ⟨fun {L} {u} {i} hi hu => by
 have h1 : St w.heap.size w (Go.Proofs.YtaeagngfhceceaaGreatDoor.star B :: L.eraseIdx i) u := hu.perm (perm_erase hi)
 have hjl := (List.getElem?_eq_some_iff.1 hj).1
 exact hZ.get (L := B ++ L.eraseIdx i) (j := j) (by rw [List.getElem?_append_left hjl]; exact hj) h1.unpack⟩
theorem St.tail3 {n0 : Nat} {w0 u : World} {a b c : SA} {B : List SA} (h : St n0 w0 (a :: b :: c :: B) u) : St n0 w0 [a, b, c, Go.Proofs.YtaeagngfhceceaaGreatDoor.star B] u := by
 have h1 : St n0 w0 (B ++ [a, b, c]) u := h.perm (List.perm_append_comm (l₁ := [a, b, c]) (l₂ := B))
 exact h1.pack.perm (List.perm_append_comm (l₁ := [Go.Proofs.YtaeagngfhceceaaGreatDoor.star B]) (l₂ := [a, b, c]))
theorem behind_c {w u : World} (R : SA) (G : Game) (hG : GameOk w G) (hn : NearG G) (g : Sl ByteArray) (hW : GOk w g) (hV : GoodG G) (tb mb : Nat) (z : Stt) (Z : SA) (hZ : HasZ w Z z) (hI : StIn G.rm z.x) (rv : Value) (rd : List Bool) (hl : rd.length = G.nts.l.length) (f : Int → Int) (hf : KeptO G.p rd f) (m : Move) (hu : St w.heap.size w [blk tb [G.rm.pls.v, G.rm.ths.v, G.rm.prs.v, G.rm.wys.v, G.rm.acs.v, G.rm.aus.v, .int .i64 G.rm.ply, G.rm.gl.v, G.lks.v, G.cds.v, G.nts.v, .int .i64 G.tr, z.ths.v, z.prs.v, z.pls.v, rv, .map (some mb)] 148, oT cBool 4 rv rd, mapI mb f, Z, R] u) :
  Calls Tryz.prog 84 #[.pointer (some ⟨tb, 0, none⟩), .agg #[.int .i64 m.p, .int .i64 m.k, .int .i64 m.n]] u (fun e u' => ∃ q : (Int → Int) × Nat, KeptO G.p rd q.1 ∧ e = .returned (bptr (possB G.p (z.x, rd) m) q.2) ∧ St w.heap.size w [blk tb [G.rm.pls.v, G.rm.ths.v, G.rm.prs.v, G.rm.wys.v, G.rm.acs.v, G.rm.aus.v, .int .i64 G.rm.ply, G.rm.gl.v, G.lks.v, G.cds.v, G.nts.v, .int .i64 G.tr, z.ths.v, z.prs.v, z.pls.v, rv, .map (some mb)] 148, oT cBool 4 rv rd, mapI mb q.1, Z, R] u') := by
 have o1 := Sl.one hG.rm.pls
 have o2 := Sl.one hG.rm.ths
 have o3 := Sl.one hG.rm.prs
 have o4 := Sl.one hG.rm.wys
 have o5 := Sl.one hG.rm.acs
 have o6 := Sl.one hG.rm.aus
 have o7 := Sl.one hG.rm.gl
 have o8 := Sl.one hG.lks
 have o9 := Sl.one hG.cds
 have o10 := Sl.one hG.nts
 have kac := hG.rm.acs
 have lac := hG.rm.acs.le
 have hnn := hV.nn
 obtain ⟨o11, o12, o13⟩ := (hZ.get (j := 3) rfl hu).ones
 refine enterI hu Tryz.func84 rfl rfl (Nat.le_of_ble_eq_true rfl) ?_
 refine Nz 0 ?_
 refine Wb 1 rfl rfl (fun _ => rfl) (fun _ => rfl) fun b3 hb3 => ?_
 refine Wd (Qc (Cs ?_))
 refine CS.drawnAll (k := 20) mixed rfl rfl ?_
 refine Ar [0,1,2] ?_
 refine Ak 3 [4,5,6,7] rfl (Bc 1) ?_
 refine Ak 8 [9,10,11,12] rfl (Bc 1) ?_
 refine Ak 13 [] rfl (Ba 1) ?_
 refine AS.two (i := 14) (j := 16) (by kernel_rfl) rfl rfl (by first | exact fun _ h => h | exact fun _ h => h.sub (by repeat first | exact List.Sublist.refl _ | apply List.Sublist.cons_cons | apply List.Sublist.cons)) rfl rfl ?_ ?_
 ·
  refine Wc rfl rfl ent138 (fun u hu => CloneB_c ⟨rv, rd⟩ u (oT_SlT hu (j := 2) rfl fun _ _ ↦ trivial) (by show rd.length ≤ 1000000; omega)) (fun _ => rfl) ?_; intro v21 hv21
  refine Wd (Qa ?_)
  refine Ak 15 [] rfl (det_buildG plc68 zv68 (pcs := [(0, [z.ths.v, z.prs.v, z.pls.v]), (1, [v21])]) rfl (CellsOf.agg (CellsOf.one hv21 CellsOf.nil)) rfl) ?_
  refine Ao 16 rfl ?_
  refine WS.makeMap (fun _ => rfl) fun b23 hb23 => ?_
  refine Wd (Qa ?_)
  refine Ak 17 [] rfl (det_buildG plc148 zv148 (pcs := [(0, [G.rm.pls.v, G.rm.ths.v, G.rm.prs.v, G.rm.wys.v, G.rm.acs.v, G.rm.aus.v, .int .i64 G.rm.ply, G.rm.gl.v, G.lks.v, G.cds.v, G.nts.v, .int .i64 G.tr]), (1, [z.ths.v, z.prs.v, z.pls.v, v21]), (2, [.map (some b23)])]) rfl (CellsOf.agg (CellsOf.agg (CellsOf.one rfl CellsOf.nil))) rfl) ?_
  refine Ao 18 rfl ?_
  refine Wb 0 rfl rfl (fun _ => rfl) (fun _ => rfl) fun b25 hb25 => ?_
  refine Wd (Qa ?_)
  refine Ar [19] ?_
  refine Ae ?_
  refine Qc (Cs (Cs (Dr mixed 1 ?_)))
  refine Dk 2 (Ba 3) ?_
  refine Dt 0 rfl rfl (fun hg => Ff) ?_
  refine Dt 0 rfl rfl (fun hg => Ba 3) ?_
  refine Dt 0 rfl rfl (fun hg => Fm) ?_
  refine Dt 0 rfl rfl (fun hg => Fc) ?_
  refine Dt 0 rfl rfl (fun hg => Ff) ?_
  refine Dt 0 rfl rfl (fun hg => Ff) ?_
  refine Dt 0 rfl rfl (fun hg => Ff) ?_
  refine Dt 0 rfl rfl (fun hg => Ba 4) ?_
  refine Dt 0 rfl rfl (fun hg => Nc (eg_ hg rfl)) ?_
  refine Dt 0 rfl rfl (fun hg => Zb) ?_
  refine Dt 0 rfl rfl (fun hg => Cb rfl (ec_ (eg_ hg rfl) (ec_ rfl (ec_ (eg_ hg rfl) en_))) ent105 (fun u hu => gwithin_c _ _ _ u)) ?_
  refine Dk 0 Pa ?_
  refine Dd (Qc (CS.cond rfl ?_ ?_))<;>intro hc1<;>try simp only [bq] at hc1
  ·
   have hac2 : m.k = 4 ∧ 0 ≤ m.n ∧ m.n < G.rm.acs.l.length := by omega
   refine Cs (Dr mixed 5 ?_)
   refine Dk 1 (Ba 4) ?_
   refine Dk 0 (Ba 3) ?_
   refine Dk 1 Xc ?_
   refine Dk 1 (Uc 8 2) ?_
   refine Dd (Qc (Nz 2 ?_))
   refine WS.callS rfl rfl ent93 (fun u hu => opensL_c [_, _, _, _] [R] G hG hV tb mb z Z hZ rv rd hl f hf (nth G.rm.acs.l m.n).lk (hV.alk hac2.2.1 hac2.2.2) hu) (fun _ => rfl) ?_; rintro f1 hf1
   refine Wd (Qc ?_)
   refine CS.drawnTill 11 (k := 12) mixed rfl rfl ?_
   refine Tr 12 [0,1,2] ?_
   refine Tk 12 3 [4,5,6,7] rfl (Ba 0) ?_
   refine Tk 12 8 [9] rfl (Ba 4) ?_
   refine Tk 12 10 [] rfl (det_lookup mapT mapK mapZ rfl (j := 6) rfl rfl) ?_
   refine To 11 rfl ?_
   refine WS.mapUpdate mapT mapK rfl (j := 1) rfl rfl rfl rfl ?_
   refine Wd (Qt ?_)
   refine Te ?_
   refine Qc (Cs (Nz 1 ?_))
   refine Wk 0 (Bb 3) ?_
   refine WS.sel [0, 1, 0, 4, 1, 1, 1, 1] rfl ?_; refine WS.weak (fun u hu => St.tail3 hu) ?_; refine WS.callS rfl rfl ent95 (fun u hu => stepL_c [] [] G hG hn g hW hV b25 b23 z _ (hZ.pack (j := 0) rfl) hI v21 rd hl _ (by first | exact hf1.one _ | exact KeptO.zero) m hu) (fun _ => rfl) ?_; rintro ⟨y, f2, Z2, Z3⟩ ⟨-, -, -, hcase⟩
   refine Wz 1 ?_
   refine Wd (Qc (CS.cond rfl ?_ ?_))<;>intro hc2<;>try simp only [bq] at hc2
   ·
    have hpn : possB G.p (z.x, rd) m = false := hc2
    have hZ3 := (hcase.resolve_left fun h => absurd (hpn.symm.trans h.1) (by decide)).2
    subst hZ3
    refine Nz 1 ?_
    refine Wd (Qc (Cr (Qr ?_)))
    exact out1 rfl rfl (by first | exact fun u hu => ⟨(f1, b25), hf1, by rw [hpn]; rfl, by
       have h9 := (hu.sel [3] rfl).unpack
       exact h9.sel [1, 1, 1, 0, 0] rfl⟩ | exact fun u hu => ⟨(f, b25), hf, by rw [hpn]; rfl, by
       have h9 := (hu.sel [3] rfl).unpack
       exact h9.sel [1, 1, 1, 0, 0] rfl⟩ | exact fun u hu => ⟨(f1, b25), hf1, by rw [hpy]; rfl, by
       have h9 := (hu.sel [4] rfl).unpack
       exact h9.sel [1, 1, 1, 0, 0] rfl⟩ | exact fun u hu => ⟨(f, b25), hf, by rw [hpy]; rfl, by
       have h9 := (hu.sel [4] rfl).unpack
       exact h9.sel [1, 1, 1, 0, 0] rfl⟩)
   ·
    have hpy : possB G.p (z.x, rd) m = true := by first | exact hc2 | simpa using hc2
    have hZ3 := (hcase.resolve_right fun h => absurd (hpy.symm.trans h.1) (by decide)).2
    subst hZ3
    refine Ck (Qc (Nz 2 ?_))
    refine Wd (Qc (Cr ?_))
    exact out1 rfl rfl (by first | exact fun u hu => ⟨(f1, b25), hf1, by rw [hpn]; rfl, by
       have h9 := (hu.sel [3] rfl).unpack
       exact h9.sel [1, 1, 1, 0, 0] rfl⟩ | exact fun u hu => ⟨(f, b25), hf, by rw [hpn]; rfl, by
       have h9 := (hu.sel [3] rfl).unpack
       exact h9.sel [1, 1, 1, 0, 0] rfl⟩ | exact fun u hu => ⟨(f1, b25), hf1, by rw [hpy]; rfl, by
       have h9 := (hu.sel [4] rfl).unpack
       exact h9.sel [1, 1, 1, 0, 0] rfl⟩ | exact fun u hu => ⟨(f, b25), hf, by rw [hpy]; rfl, by
       have h9 := (hu.sel [4] rfl).unpack
       exact h9.sel [1, 1, 1, 0, 0] rfl⟩)
  ·
   refine Ck (Qc (Cs (Nz 1 ?_)))
   refine Wk 0 (Bb 3) ?_
   refine WS.sel [0, 1, 0, 4, 1, 1, 1, 1] rfl ?_; refine WS.weak (fun u hu => St.tail3 hu) ?_; refine WS.callS rfl rfl ent95 (fun u hu => stepL_c [] [] G hG hn g hW hV b25 b23 z _ (hZ.pack (j := 0) rfl) hI v21 rd hl _ (by first | exact hf1.one _ | exact KeptO.zero) m hu) (fun _ => rfl) ?_; rintro ⟨y, f2, Z2, Z3⟩ ⟨-, -, -, hcase⟩
   refine Wz 1 ?_
   refine Wd (Qc (CS.cond rfl ?_ ?_))<;>intro hc2<;>try simp only [bq] at hc2
   ·
    have hpn : possB G.p (z.x, rd) m = false := hc2
    have hZ3 := (hcase.resolve_left fun h => absurd (hpn.symm.trans h.1) (by decide)).2
    subst hZ3
    refine Nz 1 ?_
    refine Wd (Qc (Cr (Qr ?_)))
    exact out1 rfl rfl (by first | exact fun u hu => ⟨(f1, b25), hf1, by rw [hpn]; rfl, by
       have h9 := (hu.sel [3] rfl).unpack
       exact h9.sel [1, 1, 1, 0, 0] rfl⟩ | exact fun u hu => ⟨(f, b25), hf, by rw [hpn]; rfl, by
       have h9 := (hu.sel [3] rfl).unpack
       exact h9.sel [1, 1, 1, 0, 0] rfl⟩ | exact fun u hu => ⟨(f1, b25), hf1, by rw [hpy]; rfl, by
       have h9 := (hu.sel [4] rfl).unpack
       exact h9.sel [1, 1, 1, 0, 0] rfl⟩ | exact fun u hu => ⟨(f, b25), hf, by rw [hpy]; rfl, by
       have h9 := (hu.sel [4] rfl).unpack
       exact h9.sel [1, 1, 1, 0, 0] rfl⟩)
   ·
    have hpy : possB G.p (z.x, rd) m = true := by first | exact hc2 | simpa using hc2
    have hZ3 := (hcase.resolve_right fun h => absurd (hpy.symm.trans h.1) (by decide)).2
    subst hZ3
    refine Ck (Qc (Nz 2 ?_))
    refine Wd (Qc (Cr ?_))
    exact out1 rfl rfl (by first | exact fun u hu => ⟨(f1, b25), hf1, by rw [hpn]; rfl, by
       have h9 := (hu.sel [3] rfl).unpack
       exact h9.sel [1, 1, 1, 0, 0] rfl⟩ | exact fun u hu => ⟨(f, b25), hf, by rw [hpn]; rfl, by
       have h9 := (hu.sel [3] rfl).unpack
       exact h9.sel [1, 1, 1, 0, 0] rfl⟩ | exact fun u hu => ⟨(f1, b25), hf1, by rw [hpy]; rfl, by
       have h9 := (hu.sel [4] rfl).unpack
       exact h9.sel [1, 1, 1, 0, 0] rfl⟩ | exact fun u hu => ⟨(f, b25), hf, by rw [hpy]; rfl, by
       have h9 := (hu.sel [4] rfl).unpack
       exact h9.sel [1, 1, 1, 0, 0] rfl⟩)
 ·
  refine WS.makeMap (fun _ => rfl) fun b23 hb23 => ?_
  refine Wd (Qa ?_)
  refine Ao 14 rfl ?_
  refine Wc rfl rfl ent138 (fun u hu => CloneB_c ⟨rv, rd⟩ u (oT_SlT hu (j := 3) rfl fun _ _ ↦ trivial) (by show rd.length ≤ 1000000; omega)) (fun _ => rfl) ?_; intro v21 hv21
  refine Wd (Qa ?_)
  refine Ak 15 [] rfl (det_buildG plc68 zv68 (pcs := [(0, [z.ths.v, z.prs.v, z.pls.v]), (1, [v21])]) rfl (CellsOf.agg (CellsOf.one hv21 CellsOf.nil)) rfl) ?_
  refine Ak 17 [] rfl (det_buildG plc148 zv148 (pcs := [(0, [G.rm.pls.v, G.rm.ths.v, G.rm.prs.v, G.rm.wys.v, G.rm.acs.v, G.rm.aus.v, .int .i64 G.rm.ply, G.rm.gl.v, G.lks.v, G.cds.v, G.nts.v, .int .i64 G.tr]), (1, [z.ths.v, z.prs.v, z.pls.v, v21]), (2, [.map (some b23)])]) rfl (CellsOf.agg (CellsOf.agg (CellsOf.one rfl CellsOf.nil))) rfl) ?_
  refine Ao 18 rfl ?_
  refine Wb 0 rfl rfl (fun _ => rfl) (fun _ => rfl) fun b25 hb25 => ?_
  refine Wd (Qa ?_)
  refine Ar [19] ?_
  refine Ae ?_
  refine Qc (Cs (Cs (Dr mixed 1 ?_)))
  refine Dk 2 (by first | exact det_loadb (j := 3) rfl rfl rfl tk3 | exact det_loadw rfl (by assumption) rfl tk3) ?_
  refine Dt 0 rfl rfl (fun hg => Ff) ?_
  refine Dt 0 rfl rfl (fun hg => by first | exact det_loadb (j := 3) (eg_ hg rfl) rfl rfl tk3 | exact det_loadw (eg_ hg rfl) (by assumption) rfl tk3) ?_
  refine Dt 0 rfl rfl (fun hg => Fm) ?_
  refine Dt 0 rfl rfl (fun hg => Fc) ?_
  refine Dt 0 rfl rfl (fun hg => Ff) ?_
  refine Dt 0 rfl rfl (fun hg => Ff) ?_
  refine Dt 0 rfl rfl (fun hg => Ff) ?_
  refine Dt 0 rfl rfl (fun hg => by first | exact det_loadb (j := 0) (eg_ hg rfl) rfl rfl tk26 | exact det_loadb (j := 1) (eg_ hg rfl) rfl rfl tk26 | exact det_loadb (j := 2) (eg_ hg rfl) rfl rfl tk26 | exact det_loadb (j := 3) (eg_ hg rfl) rfl rfl tk26 | exact det_loadb (j := 4) (eg_ hg rfl) rfl rfl tk26 | exact det_loadb (j := 5) (eg_ hg rfl) rfl rfl tk26 | exact det_loadb (j := 6) (eg_ hg rfl) rfl rfl tk26 | exact det_loadb (j := 7) (eg_ hg rfl) rfl rfl tk26 | exact det_loadb (j := 8) (eg_ hg rfl) rfl rfl tk26 | exact det_loadw (eg_ hg rfl) (by assumption) rfl tk26) ?_
  refine Dt 0 rfl rfl (fun hg => Nc (eg_ hg rfl)) ?_
  refine Dt 0 rfl rfl (fun hg => Zb) ?_
  refine Dt 0 rfl rfl (fun hg => Cb rfl (ec_ (eg_ hg rfl) (ec_ rfl (ec_ (eg_ hg rfl) en_))) ent105 (fun u hu => gwithin_c _ _ _ u)) ?_
  refine Dk 0 Pa ?_
  refine Dd (Qc (CS.cond rfl ?_ ?_))<;>intro hc1<;>try simp only [bq] at hc1
  ·
   have hac2 : m.k = 4 ∧ 0 ≤ m.n ∧ m.n < G.rm.acs.l.length := by omega
   refine Cs (Dr mixed 5 ?_)
   refine Dk 1 (by first | exact det_loadb (j := 0) rfl rfl rfl tk26 | exact det_loadb (j := 1) rfl rfl rfl tk26 | exact det_loadb (j := 2) rfl rfl rfl tk26 | exact det_loadb (j := 3) rfl rfl rfl tk26 | exact det_loadb (j := 4) rfl rfl rfl tk26 | exact det_loadb (j := 5) rfl rfl rfl tk26 | exact det_loadb (j := 6) rfl rfl rfl tk26 | exact det_loadb (j := 7) rfl rfl rfl tk26 | exact det_loadb (j := 8) rfl rfl rfl tk26 | exact det_loadw rfl (by assumption) rfl tk26) ?_
   refine Dk 0 (by first | exact det_loadb (j := 3) rfl rfl rfl tk3 | exact det_loadw rfl (by assumption) rfl tk3) ?_
   refine Dk 1 Xc ?_
   refine Dk 1 (Uc 8 2) ?_
   refine Dd (Qc (Nz 2 ?_))
   refine WS.callS rfl rfl ent93 (fun u hu => opensL_c [_, _, _, _] [R] G hG hV tb mb z Z hZ rv rd hl f hf (nth G.rm.acs.l m.n).lk (hV.alk hac2.2.1 hac2.2.2) hu) (fun _ => rfl) ?_; rintro f1 hf1
   refine Wd (Qc ?_)
   refine CS.drawnTill 11 (k := 12) mixed rfl rfl ?_
   refine Tr 12 [0,1,2] ?_
   refine Tk 12 3 [4,5,6,7] rfl (by first | exact det_loadb (j := 0) rfl rfl rfl tk146 | exact det_loadb (j := 1) rfl rfl rfl tk146 | exact det_loadb (j := 2) rfl rfl rfl tk146 | exact det_loadb (j := 3) rfl rfl rfl tk146 | exact det_loadb (j := 4) rfl rfl rfl tk146 | exact det_loadb (j := 5) rfl rfl rfl tk146 | exact det_loadb (j := 6) rfl rfl rfl tk146 | exact det_loadb (j := 7) rfl rfl rfl tk146 | exact det_loadb (j := 8) rfl rfl rfl tk146 | exact det_loadw rfl (by assumption) rfl tk146) ?_
   refine Tk 12 8 [9] rfl (by first | exact det_loadb (j := 0) rfl rfl rfl tk146 | exact det_loadb (j := 1) rfl rfl rfl tk146 | exact det_loadb (j := 2) rfl rfl rfl tk146 | exact det_loadb (j := 3) rfl rfl rfl tk146 | exact det_loadb (j := 4) rfl rfl rfl tk146 | exact det_loadb (j := 5) rfl rfl rfl tk146 | exact det_loadb (j := 6) rfl rfl rfl tk146 | exact det_loadb (j := 7) rfl rfl rfl tk146 | exact det_loadb (j := 8) rfl rfl rfl tk146 | exact det_loadw rfl (by assumption) rfl tk146) ?_
   refine Tk 12 10 [] rfl (det_lookup mapT mapK mapZ rfl (j := 6) rfl rfl) ?_
   refine To 11 rfl ?_
   refine WS.mapUpdate mapT mapK rfl (j := 2) rfl rfl rfl rfl ?_
   refine Wd (Qt ?_)
   refine Te ?_
   refine Qc (Cs (Nz 1 ?_))
   refine Wk 0 (by first | exact det_loadb0 (j := 3) rfl rfl tk91 | exact det_loadbN (j := 3) rfl rfl (by rfl) tk91 | exact det_loadwN rfl (by assumption) (by rfl) tk91 | exact det_loadbK (n := 3) (j := 3) rfl rfl rfl rfl tk91) ?_
   refine WS.sel [0, 0, 0, 4, 1, 1, 1, 1] rfl ?_; refine WS.weak (fun u hu => St.tail3 hu) ?_; refine WS.callS rfl rfl ent95 (fun u hu => stepL_c [] [] G hG hn g hW hV b25 b23 z _ (hZ.pack (j := 0) rfl) hI v21 rd hl _ (by first | exact hf1.one _ | exact KeptO.zero) m hu) (fun _ => rfl) ?_; rintro ⟨y, f2, Z2, Z3⟩ ⟨-, -, -, hcase⟩
   refine Wz 1 ?_
   refine Wd (Qc (CS.cond rfl ?_ ?_))<;>intro hc2<;>try simp only [bq] at hc2
   ·
    have hpn : possB G.p (z.x, rd) m = false := hc2
    have hZ3 := (hcase.resolve_left fun h => absurd (hpn.symm.trans h.1) (by decide)).2
    subst hZ3
    refine Nz 1 ?_
    refine Wd (Qc (Cr (Qr ?_)))
    exact out1 rfl rfl (by first | exact fun u hu => ⟨(f1, b25), hf1, by rw [hpn]; rfl, by
       have h9 := (hu.sel [3] rfl).unpack
       exact h9.sel [1, 1, 1, 0, 0] rfl⟩ | exact fun u hu => ⟨(f, b25), hf, by rw [hpn]; rfl, by
       have h9 := (hu.sel [3] rfl).unpack
       exact h9.sel [1, 1, 1, 0, 0] rfl⟩ | exact fun u hu => ⟨(f1, b25), hf1, by rw [hpy]; rfl, by
       have h9 := (hu.sel [4] rfl).unpack
       exact h9.sel [1, 1, 1, 0, 0] rfl⟩ | exact fun u hu => ⟨(f, b25), hf, by rw [hpy]; rfl, by
       have h9 := (hu.sel [4] rfl).unpack
       exact h9.sel [1, 1, 1, 0, 0] rfl⟩)
   ·
    have hpy : possB G.p (z.x, rd) m = true := by first | exact hc2 | simpa using hc2
    have hZ3 := (hcase.resolve_right fun h => absurd (hpy.symm.trans h.1) (by decide)).2
    subst hZ3
    refine Ck (Qc (Nz 2 ?_))
    refine Wd (Qc (Cr ?_))
    exact out1 rfl rfl (by first | exact fun u hu => ⟨(f1, b25), hf1, by rw [hpn]; rfl, by
       have h9 := (hu.sel [3] rfl).unpack
       exact h9.sel [1, 1, 1, 0, 0] rfl⟩ | exact fun u hu => ⟨(f, b25), hf, by rw [hpn]; rfl, by
       have h9 := (hu.sel [3] rfl).unpack
       exact h9.sel [1, 1, 1, 0, 0] rfl⟩ | exact fun u hu => ⟨(f1, b25), hf1, by rw [hpy]; rfl, by
       have h9 := (hu.sel [4] rfl).unpack
       exact h9.sel [1, 1, 1, 0, 0] rfl⟩ | exact fun u hu => ⟨(f, b25), hf, by rw [hpy]; rfl, by
       have h9 := (hu.sel [4] rfl).unpack
       exact h9.sel [1, 1, 1, 0, 0] rfl⟩)
  ·
   refine Ck (Qc (Cs (Nz 1 ?_)))
   refine Wk 0 (by first | exact det_loadb0 (j := 3) rfl rfl tk91 | exact det_loadbN (j := 3) rfl rfl (by rfl) tk91 | exact det_loadwN rfl (by assumption) (by rfl) tk91 | exact det_loadbK (n := 3) (j := 3) rfl rfl rfl rfl tk91) ?_
   refine WS.sel [0, 0, 0, 4, 1, 1, 1, 1] rfl ?_; refine WS.weak (fun u hu => St.tail3 hu) ?_; refine WS.callS rfl rfl ent95 (fun u hu => stepL_c [] [] G hG hn g hW hV b25 b23 z _ (hZ.pack (j := 0) rfl) hI v21 rd hl _ (by first | exact hf1.one _ | exact KeptO.zero) m hu) (fun _ => rfl) ?_; rintro ⟨y, f2, Z2, Z3⟩ ⟨-, -, -, hcase⟩
   refine Wz 1 ?_
   refine Wd (Qc (CS.cond rfl ?_ ?_))<;>intro hc2<;>try simp only [bq] at hc2
   ·
    have hpn : possB G.p (z.x, rd) m = false := hc2
    have hZ3 := (hcase.resolve_left fun h => absurd (hpn.symm.trans h.1) (by decide)).2
    subst hZ3
    refine Nz 1 ?_
    refine Wd (Qc (Cr (Qr ?_)))
    exact out1 rfl rfl (by first | exact fun u hu => ⟨(f1, b25), hf1, by rw [hpn]; rfl, by
       have h9 := (hu.sel [3] rfl).unpack
       exact h9.sel [1, 1, 1, 0, 0] rfl⟩ | exact fun u hu => ⟨(f, b25), hf, by rw [hpn]; rfl, by
       have h9 := (hu.sel [3] rfl).unpack
       exact h9.sel [1, 1, 1, 0, 0] rfl⟩ | exact fun u hu => ⟨(f1, b25), hf1, by rw [hpy]; rfl, by
       have h9 := (hu.sel [4] rfl).unpack
       exact h9.sel [1, 1, 1, 0, 0] rfl⟩ | exact fun u hu => ⟨(f, b25), hf, by rw [hpy]; rfl, by
       have h9 := (hu.sel [4] rfl).unpack
       exact h9.sel [1, 1, 1, 0, 0] rfl⟩)
   ·
    have hpy : possB G.p (z.x, rd) m = true := by first | exact hc2 | simpa using hc2
    have hZ3 := (hcase.resolve_right fun h => absurd (hpy.symm.trans h.1) (by decide)).2
    subst hZ3
    refine Ck (Qc (Nz 2 ?_))
    refine Wd (Qc (Cr ?_))
    exact out1 rfl rfl (by first | exact fun u hu => ⟨(f1, b25), hf1, by rw [hpn]; rfl, by
       have h9 := (hu.sel [3] rfl).unpack
       exact h9.sel [1, 1, 1, 0, 0] rfl⟩ | exact fun u hu => ⟨(f, b25), hf, by rw [hpn]; rfl, by
       have h9 := (hu.sel [3] rfl).unpack
       exact h9.sel [1, 1, 1, 0, 0] rfl⟩ | exact fun u hu => ⟨(f1, b25), hf1, by rw [hpy]; rfl, by
       have h9 := (hu.sel [4] rfl).unpack
       exact h9.sel [1, 1, 1, 0, 0] rfl⟩ | exact fun u hu => ⟨(f, b25), hf, by rw [hpy]; rfl, by
       have h9 := (hu.sel [4] rfl).unpack
       exact h9.sel [1, 1, 1, 0, 0] rfl⟩)
end Go.Proofs.YtaeagngfhceceaaGreatDoor
set_option maxHeartbeats 8000000
namespace Go.Proofs.YtaeagngfhceceaaGreatDoor
open Go.RowKit Go.Proofs
set_option maxRecDepth 100000
set_option linter.unusedVariables false
set_option linter.unusedSimpArgs false
theorem det_neBp {P : Program} {C : World → Prop} {l : List Value} {d : Option Tmp} {ty : TypeId} {ps : String} {af : Array Edge} {g : Option (Nat × Bool)} {T T' : TypeId} {x y : Operand} {b : Bool} {n : Nat} (hx : evo l x = some (bptr b n)) (hy : evo l y = some (.pointer none)) (hT : P.underlying T = some (.pointer (P.pointee T))) :
  Det P C ⟨d, .binOp .neq T x y T', ty, ps, af, g⟩ l (.bool b) := fun u _ => by
 (replace hx := ev_of hx; replace hy := ev_of hy)
 cases b <;> simp [bptr] at hx <;> simp [execOp, DetUpon, hx, hy, eqGuard, run_neq_pointer_nil _ T _ hT]
theorem teamPt : Tryz.prog.underlying 132 = some (.pointer (Tryz.prog.pointee 132)) := by kernel_rfl
theorem behindL_c {w u : World} (A B : List SA) (G : Game) (hG : GameOk w G) (hn : NearG G) (g : Sl ByteArray) (hW : GOk w g) (hV : GoodG G) (tb mb : Nat) (z : Stt) (Z : SA) (hZ : HasZ w Z z) (hI : StIn G.rm z.x) (rv : Value) (rd : List Bool) (hl : rd.length = G.nts.l.length) (f : Int → Int) (hf : KeptO G.p rd f) (m : Move) (hu : St w.heap.size w (A ++ [blk tb [G.rm.pls.v, G.rm.ths.v, G.rm.prs.v, G.rm.wys.v, G.rm.acs.v, G.rm.aus.v, .int .i64 G.rm.ply, G.rm.gl.v, G.lks.v, G.cds.v, G.nts.v, .int .i64 G.tr, z.ths.v, z.prs.v, z.pls.v, rv, .map (some mb)] 148, oT cBool 4 rv rd, mapI mb f, Z] ++ B) u) :
  Calls Tryz.prog 84 #[.pointer (some ⟨tb, 0, none⟩), .agg #[.int .i64 m.p, .int .i64 m.k, .int .i64 m.n]] u (fun e u' => ∃ q : (Int → Int) × Nat, KeptO G.p rd q.1 ∧ e = .returned (bptr (possB G.p (z.x, rd) m) q.2) ∧ St w.heap.size w (A ++ [blk tb [G.rm.pls.v, G.rm.ths.v, G.rm.prs.v, G.rm.wys.v, G.rm.acs.v, G.rm.aus.v, .int .i64 G.rm.ply, G.rm.gl.v, G.lks.v, G.cds.v, G.nts.v, .int .i64 G.tr, z.ths.v, z.prs.v, z.pls.v, rv, .map (some mb)] 148, oT cBool 4 rv rd, mapI mb q.1, Z] ++ B) u') := by
 refine Calls.mono (behind_c (star (A ++ B)) G hG hn g hW hV tb mb z Z hZ hI rv rd hl f hf m hu.out4) ?_
 rintro e u' ⟨o, h1, h2, h3⟩
 exact ⟨o, h1, h2, h3.in4⟩
theorem CanI1_c (G : Game) (w : World) (hG : GameOk w G) (g : Sl ByteArray) (hW : GOk w g) (hn : NearG G) (p : Pos) (hp : PosOk w p) (hq : posG G.p p.x = 0) :
  Calls Tryz.prog 28 #[.agg #[G.rm.pls.v, G.rm.ths.v, G.rm.prs.v, G.rm.wys.v, G.rm.acs.v, G.rm.aus.v, .int .i64 G.rm.ply, G.rm.gl.v, G.lks.v, G.cds.v, G.nts.v, .int .i64 G.tr], .agg #[p.st.ths.v, p.st.prs.v, p.st.pls.v, p.rd.v]] w (RetM w (CanV G.p p.x).2 fun v => .tuple #[v, .int .i64 (CanV G.p p.x).1]) := by
 have hP := goodp_of hq
 have hV := hP.toGoodG
 have hI := hP.inn
 have hpl := hP.ln
 have hll := legal_len hV.ready p.st.x
 have hS : stL G.rm p.st.x = 0 := stL_in.2 ⟨hV.ck, hI⟩
 have hl2 : (LegalV G.rm p.st.x).2 = legalL G.rm p.st.x := by unfold LegalV; rw [if_pos hS]
 have hl1 : (LegalV G.rm p.st.x).1 = 0 := by unfold LegalV; rw [if_pos hS]
 refine enter Tryz.func28 rfl rfl (Nat.le_of_ble_eq_true rfl) ?_
 refine Nz 0 ?_
 refine Wb 0 rfl rfl (fun _ => rfl) (fun _ => rfl) fun b2 hb2 => ?_
 refine Wb 2 rfl rfl (fun _ => rfl) (fun _ => rfl) fun b3 hb3 => ?_
 refine Wd (Qc (Nz 0 ?_))
 refine Wk 0 (by first | exact det_loadb0 (j := 1) rfl rfl tk36 | exact det_loadbN (j := 1) rfl rfl (by rfl) tk36 | exact det_loadwN rfl (by assumption) (by rfl) tk36 | exact det_loadbK (n := 12) (j := 1) rfl rfl rfl rfl tk36) ?_
 refine Wk 0 (by first | exact det_loadb0 (j := 0) rfl rfl tk68 | exact det_loadbN (j := 0) rfl rfl (by rfl) tk68 | exact det_loadwN rfl (by assumption) (by rfl) tk68 | exact det_loadbK (n := 4) (j := 0) rfl rfl rfl rfl tk68) ?_
 refine Wc rfl rfl ent82 (fun u hu => newTeam_c G u (hG.st hu) g (hW.st hu) hn p (hp.toSt hu) hq) (fun _ => rfl) ?_; rintro ⟨bt, mb, rv⟩ hrv
 refine WS.unpack ?_
 refine WS.weak (fun u hu => hu.osl0 (e := 0) (size := 1)) ?_
 refine WS.sel [1, 1, 1, 0, 0, 0] rfl ?_
 refine Wz 5 ?_
 refine Wd (Qc (Cs (Nz 2 ?_)))
 refine Wd (Qc (CS.cond rfl ?_ ?_))<;>intro hc1<;>try simp only [bq] at hc1
 ·
  exact absurd hc1 (by simp)
 ·
  refine Ck (Qc (Nz 1 ?_))
  refine Wk 1 (by first | exact det_loadb0 (j := 5) rfl rfl tk31 | exact det_loadbN (j := 5) rfl rfl (by rfl) tk31 | exact det_loadwN rfl (by assumption) (by rfl) tk31 | exact det_loadbK (n := 8) (j := 5) rfl rfl rfl rfl tk31) ?_
  refine Wk 0 (by first | exact det_loadb0 (j := 4) rfl rfl tk65 | exact det_loadbN (j := 4) rfl rfl (by rfl) tk65 | exact det_loadwN rfl (by assumption) (by rfl) tk65 | exact det_loadbK (n := 3) (j := 4) rfl rfl rfl rfl tk65) ?_
  refine Wc rfl rfl ent83 (fun u hu => ILegal_c G.rm u (hG.rm.st hu) g (hW.st hu) hn.rm p.st (hp.st.st hu)) (fun _ => rfl) ?_; rintro ml ⟨uml, hml⟩
  rw [hl2] at hml ⊢
  refine Wz 5 ?_
  refine Wd (Qc (Cs (Nz 2 ?_)))
  refine Wd (Qc (CS.cond rfl ?_ ?_))<;>intro hc2<;>try simp only [bq] at hc2
  ·
   exact absurd hl1 hc2
  ·
   refine Ck (Qc (Cs (Nz 1 ?_)))
   refine Wk 1 (Nc (s := ⟨ml, legalL G.rm p.st.x⟩)) ?_
   refine Wd (Qc (Ce ?_))
   refine CS.weak (fun _ hu => hu.osl0 (e := 91) (size := 3)) ?_
   refine CS.loopM (σ := Int × Value × (Int → Int)) [9, 33, 34, 35, 36, 37, 38, 39, 40, 41, 42, 43, 44] (fun s => [(32, .int .i64 s.1), (4, s.2.1)]) (fun s => [oT cMove 91 s.2.1 (((legalL G.rm p.st.x).take s.1.toNat).filter (possB G.p p.x)), roT cMove ⟨ml, legalL G.rm p.st.x⟩, blk bt [G.rm.pls.v, G.rm.ths.v, G.rm.prs.v, G.rm.wys.v, G.rm.acs.v, G.rm.aus.v, .int .i64 G.rm.ply, G.rm.gl.v, G.lks.v, G.cds.v, G.nts.v, .int .i64 G.tr, p.st.ths.v, p.st.prs.v, p.st.pls.v, rv, .map (some mb)] 148, oT cBool 4 rv p.rd.l, mapI mb s.2.2, Go.Proofs.YtaeagngfhceceaaGreatDoor.osl 0 1 (.slice none 0 0) 0 [], blk b3 [p.st.ths.v, p.st.prs.v, p.st.pls.v, p.rd.v] 68, blk b2 [G.rm.pls.v, G.rm.ths.v, G.rm.prs.v, G.rm.wys.v, G.rm.acs.v, G.rm.aus.v, .int .i64 G.rm.ply, G.rm.gl.v, G.lks.v, G.cds.v, G.nts.v, .int .i64 G.tr] 36]) (fun s => 0 ≤ s.1 ∧ s.1 ≤ (legalL G.rm p.st.x).length ∧ KeptO G.p p.rd.l s.2.2) (fun s => ((legalL G.rm p.st.x).length - s.1).toNat) (0, .slice none 0 0, fun _ => 0) (fun _ _ => rfl) rfl rfl ⟨by simp, by simp, KeptO.zero⟩ ?_
   intro a t hs
   obtain ⟨ha1, ha2, ha3⟩ := hs
   refine Nz 1 ?_
   refine Wd (Qc (Cs (CS.cond rfl ?_ ?_)))<;>intro hc3<;>try simp only [bq] at hc3
   ·
    have hfl := filt_len (p := possB G.p p.x) (l := legalL G.rm p.st.x) (n := a.1.toNat)
    refine Ck (Qc (Cs (Ce (Nz 0 ?_))))
    refine Wk 0 (Xc (s := ⟨ml, legalL G.rm p.st.x⟩)) ?_
    refine Wk 0 (det_ldRN (jj := 1) (s := ⟨ml, legalL G.rm p.st.x⟩) rfl rfl rfl ⟨(by omega), (by omega)⟩ rfl tk91) ?_
    refine Wl 0 zv91 (fun _ => rfl) (fun _ => rfl) fun b9 hb9 => ?_
    refine Wv 0 0 ?_
    refine Wd (Qc (Nz 1 ?_))
    refine Wk 0 (by first | exact det_loadb0 (j := 0) rfl rfl tk91 | exact det_loadbN (j := 0) rfl rfl (by rfl) tk91 | exact det_loadwN rfl (by assumption) (by rfl) tk91 | exact det_loadbK (n := 3) (j := 0) rfl rfl rfl rfl tk91) ?_
    refine WS.callS rfl rfl ent84 (fun u hu => behindL_c [_, _, _] _ G hG hn g hW hV bt mb p.st _ (HasZ.old hp.st _) hI rv p.rd.l hpl _ ha3 (nth (legalL G.rm p.st.x) a.1) hu) (fun _ => rfl) ?_; rintro ⟨f1, nb⟩ hf1
    refine Wk 0 (det_neBp rfl rfl teamPt) ?_
    refine Wd (Qc (CS.cond rfl ?_ ?_))<;>intro hc4<;>try simp only [bq] at hc4
    ·
     have hpb : possB G.p p.x (nth (legalL G.rm p.st.x) a.1) = true := hc4
     refine Ny 1 ?_
     refine Wk 0 (by first | exact det_loadb0 (j := 0) rfl rfl tk91 | exact det_loadbN (j := 0) rfl rfl (by rfl) tk91 | exact det_loadwN rfl (by assumption) (by rfl) tk91 | exact det_loadbK (n := 3) (j := 0) rfl rfl rfl rfl tk91) ?_
     refine WS.buildT1 cMove (a := (nth (legalL G.rm p.st.x) a.1)) sl70 zv91 rfl (by decide) (fun _ => rfl) ?_; intro v42
     refine WS.appendT1 (j := 2) (jz := 0) sl70 zv91 rfl (by decide) rfl rfl rfl rfl (w := w) trivial (by omega) (by omega) (fun _ => rfl) (fun _ => rfl) ?_; intro v43 hv43
     refine Wz 1 ?_
     refine Wd (Qb (Qc (Ny 0 ?_)))
     refine Wk 1 Za ?_
     refine Wd ?_
     refine QS.sel [2, 2, 2, 2, 2, 2, 2, 2] rfl ?_
     exact QS.head ((a.1 + 1, v43, f1)) rfl (by first | simp only [filt_yes ha1 (show a.1 < (legalL G.rm p.st.x).length by omega) hpb] | simp only [← filt_no ha1 (show a.1 < (legalL G.rm p.st.x).length by omega) hpb]) ⟨⟨by simp; omega, by simp; omega, hf1⟩, by simp; omega⟩
    ·
     have hpb : possB G.p p.x (nth (legalL G.rm p.st.x) a.1) = false := by first | exact hc4 | simpa using hc4
     refine Ck (Qb (Qc (Ny 0 ?_)))
     refine Wk 1 Za ?_
     refine Wd ?_
     refine QS.sel [1, 1, 1, 1, 1, 1, 1, 1] rfl ?_
     exact QS.head ((a.1 + 1, a.2.1, f1)) rfl (by first | simp only [filt_yes ha1 (show a.1 < (legalL G.rm p.st.x).length by omega) hpb] | simp only [← filt_no ha1 (show a.1 < (legalL G.rm p.st.x).length by omega) hpb]) ⟨⟨by simp; omega, by simp; omega, hf1⟩, by simp; omega⟩
   ·
    have hta : (legalL G.rm p.st.x).take a.1.toNat = legalL G.rm p.st.x := List.take_of_length_le (by omega)
    refine Cv (Qe (Qe (Qx (Qc (Nz 3 ?_)))))
    refine Wd (Qc (Cr ?_))
    exact out2 rfl rfl rfl (by
      have hv : CanV G.p p.x = (0, movesX G.p p.x) := if_pos hq
      rw [hv, movesX_p, show (legalL G.rm p.x.1).filter (possB G.p p.x) = ((legalL G.rm p.st.x).take a.1.toNat).filter (possB G.p p.x) by rw [hta]; rfl]
      exact fun u hu => retM (f := fun v => .tuple #[v, .int .i64 0]) (j := 0) rfl hu)
theorem CanI0_c (G : Game) (w : World) (hG : GameOk w G) (g : Sl ByteArray) (hW : GOk w g) (hn : NearG G) (p : Pos) (hp : PosOk w p) (hq : ¬ posG G.p p.x = 0) :
  Calls Tryz.prog 28 #[.agg #[G.rm.pls.v, G.rm.ths.v, G.rm.prs.v, G.rm.wys.v, G.rm.acs.v, G.rm.aus.v, .int .i64 G.rm.ply, G.rm.gl.v, G.lks.v, G.cds.v, G.nts.v, .int .i64 G.tr], .agg #[p.st.ths.v, p.st.prs.v, p.st.pls.v, p.rd.v]] w (RetM w (CanV G.p p.x).2 fun v => .tuple #[v, .int .i64 (CanV G.p p.x).1]) := by
 refine enter Tryz.func28 rfl rfl (Nat.le_of_ble_eq_true rfl) ?_
 refine Nz 0 ?_
 refine Wb 0 rfl rfl (fun _ => rfl) (fun _ => rfl) fun b2 hb2 => ?_
 refine Wb 2 rfl rfl (fun _ => rfl) (fun _ => rfl) fun b3 hb3 => ?_
 refine Wd (Qc (Nz 0 ?_))
 refine Wk 0 (by first | exact det_loadb0 (j := 1) rfl rfl tk36 | exact det_loadbN (j := 1) rfl rfl (by rfl) tk36 | exact det_loadwN rfl (by assumption) (by rfl) tk36 | exact det_loadbK (n := 12) (j := 1) rfl rfl rfl rfl tk36) ?_
 refine Wk 0 (by first | exact det_loadb0 (j := 0) rfl rfl tk68 | exact det_loadbN (j := 0) rfl rfl (by rfl) tk68 | exact det_loadwN rfl (by assumption) (by rfl) tk68 | exact det_loadbK (n := 4) (j := 0) rfl rfl rfl rfl tk68) ?_
 refine Wk 5 (Cb rfl rfl ent82 (fun u hu => newTeamN_c G u (hG.st hu) g (hW.st hu) hn p (hp.toSt hu) hq)) ?_
 refine Wd (Qc (Cs (Nz 2 ?_)))
 refine Wd (Qc (CS.cond rfl ?_ ?_))<;>intro hc1<;>try simp only [bq] at hc1
 ·
  refine Nz 3 ?_
  refine Wd (Qc (Cr (Qr ?_)))
  exact out2 rfl rfl rfl (by
    have hv : CanV G.p p.x = (posG G.p p.x, []) := if_neg hq
    rw [hv]
    exact fun u hu => retM0 (f := fun v => .tuple #[v, .int .i64 (posG G.p p.x)]) hu)
 ·
  exact absurd hc1 hq
theorem CanI_c (G : Game) (w : World) (hG : GameOk w G) (g : Sl ByteArray) (hW : GOk w g) (hn : NearG G) (p : Pos) (hp : PosOk w p) :
  Calls Tryz.prog 28 #[.agg #[G.rm.pls.v, G.rm.ths.v, G.rm.prs.v, G.rm.wys.v, G.rm.acs.v, G.rm.aus.v, .int .i64 G.rm.ply, G.rm.gl.v, G.lks.v, G.cds.v, G.nts.v, .int .i64 G.tr], .agg #[p.st.ths.v, p.st.prs.v, p.st.pls.v, p.rd.v]] w (RetM w (CanV G.p p.x).2 fun v => .tuple #[v, .int .i64 (CanV G.p p.x).1]) := by
 by_cases hq : posG G.p p.x = 0
 ·
  exact CanI1_c G w hG g hW hn p hp hq
 ·
  exact CanI0_c G w hG g hW hn p hp hq
end Go.Proofs.YtaeagngfhceceaaGreatDoor
set_option maxHeartbeats 8000000
namespace Go.Proofs.YtaeagngfhceceaaGreatDoor
open Go.RowKit Go.Proofs
set_option maxRecDepth 100000
set_option linter.unusedVariables false
set_option linter.unusedSimpArgs false
end Go.Proofs.YtaeagngfhceceaaGreatDoor
