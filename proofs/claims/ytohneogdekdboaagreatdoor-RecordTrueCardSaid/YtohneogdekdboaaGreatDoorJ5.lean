/- Contracts of functions, printed by a program of the prover (gen.py). -/
import Derived.Test.YtohneogdekdboaaGreatDoorXe
import Derived.Test.YtohneogdekdboaaGreatDoorY3
import Derived.Test.YtohneogdekdboaaGreatDoorY4
import Derived.Test.YtohneogdekdboaaGreatDoorY7
import Derived.Test.YtohneogdekdboaaGreatDoorY9
import Derived.Test.YtohneogdekdboaaGreatDoorY11
import Derived.Test.YtohneogdekdboaaGreatDoorY19
set_option maxHeartbeats 8000000
namespace Go.Proofs.YtohneogdekdboaaGreatDoor
open Go.RowKit Go.Proofs
set_option maxRecDepth 100000
set_option linter.unusedVariables false
set_option linter.unusedSimpArgs false
theorem Jwq {rows : List (List Int)} {O : List Entr} {now : List Int} {k n : Int} (h0 : 0 ≤ k) (h1 : k ≤ O.length) (h : k = O.length ∨ (nth O k).k = 1) (hs : Je3 rows (O.drop k.toNat) now n = true) :
  (n < 0 ∨ (n < rows.length ∧ now = nth rows n)) ∧ (k = O.length → n + 1 = rows.length) ∧ (¬ k = O.length → Je3 rows (O.drop (k + 1).toNat) now (n + 1) = true) := by
 by_cases hk : k = O.length
 ·
  rw [List.drop_of_length_le (by omega), Je3] at hs
  simp at hs
  exact ⟨hs.1, fun _ => hs.2, fun q => absurd hk q⟩
 have hk1 : (nth O k).k = 1 := h.resolve_left hk
 rw [Jav h0 (by omega), Je3, if_pos hk1] at hs
 simp at hs
 exact ⟨hs.1, fun q => absurd q hk, fun _ => hs.2⟩
theorem Jwh {rows : List (List Int)} {O : List Entr} {now : List Int} {k n : Int} (h0 : 0 ≤ k) (h1 : k < O.length) (h : ¬ (nth O k).k = 1) (hs : Je3 rows (O.drop k.toNat) now n = true) :
  (nth O k).k = 5 ∧ 0 ≤ (nth O k).a ∧ (nth O k).a < now.length ∧ 0 ≤ n ∧ ¬ nth now (nth O k).a = (nth O k).b ∧ Je3 rows (O.drop (k + 1).toNat) (now.set (nth O k).a.toNat (nth O k).b) n = true := by
 rw [Jav h0 h1, Je3, if_neg h] at hs
 simp at hs
 grind
theorem Jnj {l : List (Sl Int)} {n : Int} (h0 : 0 ≤ n) (h1 : n < l.length) : nth (l.map Sl.l) n = (nth l n).l := by
 have h : n.toNat < l.length := by omega
 simp [nth, List.getD, h]
theorem Jou (G : Game) (w : World) (hG : GameOk w G) (g : Sl ByteArray) (hW : GOk w g) (ms : Sl Timed) (hk : SlT cTimed w ms) :
  Calls Tryz.prog 7 #[.agg #[G.rm.pls.v, G.rm.ths.v, G.rm.prs.v, G.rm.wys.v, G.rm.acs.v, G.rm.aus.v, .int .i64 G.rm.ply, G.rm.gl.v, G.lks.v, G.cds.v, G.nts.v, .int .i64 G.tr], ms.v] w (RetB w (.bool true)) := by
 have lls := hk.le
 have hone := hk.one
 refine enter Tryz.func7 rfl rfl (Nat.le_of_ble_eq_true rfl) ?_
 refine Nz 0 ?_
 refine Wb 1 rfl rfl (fun _ => rfl) (fun _ => rfl) fun b2 hb2 => ?_
 refine Wd (Qc (Cs (Nz 0 ?_)))
 refine Wk 0 (Bb 0) ?_
 refine Wk 1 (Cb rfl rfl ent9 (fun u hu => Jmd G u (hG.st hu))) ?_
 refine Wf 0 rfl rfl (fun hg => Fm) ?_
 refine Wf 0 rfl rfl (fun hg => Nc (eg_ hg rfl)) ?_
 refine Wf 0 rfl rfl (fun hg => Fg) ?_
 refine Wk 0 Po ?_
 refine Wd (Qc (CS.cond rfl ?_ ?_))<;>intro hc1<;>try simp only [bq] at hc1
 ·
  refine Nz 0 ?_
  refine Wk 1 (Cb rfl rfl Jft (fun u hu => Jbu u g (hW.st hu))) ?_
  exact Wd (Qc (Cr (Qr (out1 rfl rfl retB))))
 have hn : NearG G := Jb6.1 hc1.1
 refine Ck (Qc (Nz 0 ?_))
 refine Wk 0 (Bb 0) ?_
 refine Wc rfl rfl Jnh (fun u hu => Jfs G u (hG.st hu) hn) (fun _ => rfl) ?_; rintro c ⟨hcp, uc, hcok⟩
 have hnc := Jhi hcp hn
 have o1 := Sl.one hcok.rm.pls
 have o2 := Sl.one hcok.rm.ths
 have o3 := Sl.one hcok.rm.prs
 have o4 := Sl.one hcok.rm.wys
 have o5 := Sl.one hcok.rm.acs
 have o6 := Sl.one hcok.rm.aus
 have o7 := Sl.one hcok.rm.gl
 have o8 := Sl.one hcok.lks
 have o9 := Sl.one hcok.cds
 have o10 := Sl.one hcok.nts
 refine Wl 0 zv36 (fun _ => rfl) (fun _ => rfl) fun b5 hb5 => ?_
 refine Wv 0 0 ?_
 refine Wd (Qc (Cs ?_))
 refine CS.drawnAll (k := 12) Jai rfl rfl ?_
 refine Ak 0 [2] rfl (Bb 0) ?_
 refine Ao 1 rfl ?_
 refine WS.build0 sl37 zv77 (fun _ => rfl) ?_; intro v34
 refine Wd (Qa ?_)
 refine Ao 3 rfl ?_
 refine WS.append0 (j := 0) (news := Jaw cTimed ms.l) (m := ms.l.length) sl37 zv77 rfl (by decide) rfl rfl rfl (fun u hu => (hk.st hu).sp) hone (by omega) (by omega) (fun _ => rfl) (fun _ => rfl) ?_; intro v36
 refine Wd (Qa ?_)
 refine Ao 4 rfl ?_
 refine Wc rfl rfl Jw8 (fun u hu => (by have q := Jgl c u (hu.ro (j := 2) rfl) hnc g (hW.st hu) ⟨v36, ms.l⟩ ⟨Jbe hu (j := 0) rfl, fun _ _ ↦ trivial⟩ (by show ms.l.length ≤ 1000; omega); rw [hcp] at q; exact q)) (fun _ => rfl) ?_; rintro v37 ⟨u37, h37⟩
 refine Wd (Qa ?_)
 refine Ar [5,6,7,8,9,10,11] ?_
 refine Ae ?_
 refine Qc (Cs (Nz 2 ?_))
 refine Wd (Qc (CS.cond rfl ?_ ?_))<;>intro hc2<;>try simp only [bq] at hc2
 ·
  have hRn : ¬ (Jaa G.p ms.l).1 = 0 := hc2
  refine Nz 1 ?_
  refine Wk 2 (show Det _ _ _ _ (.int .i64 ((Jaa G.p ms.l).2.2.length : Int)) from Nc (s := ⟨v37, (Jaa G.p ms.l).2.2⟩)) ?_
  refine Wt 0 rfl rfl (fun hg => Cb rfl rfl Jft (fun u hu => Jbu u g (hW.st hu))) ?_
  refine Wk 1 Pa ?_
  exact Wd (Qc (Cr (Qr (out1 rfl rfl (Jab (by rw [Jzl hRn]; rfl))))))
 have hR : (Jaa G.p ms.l).1 = 0 := hc2
 obtain ⟨⟨ff, hV⟩, hF, hRp, hRl, hSw⟩ := Jrb hR
 obtain ⟨hB, hol, -⟩ := Jtc hR
 have hoi : ((Jaa G.p ms.l).2.2.length : Int) ≤ 500 := hol
 refine Ck (Qc (Cs ?_))
 refine CS.drawnAll (k := 9) Jai rfl rfl ?_
 refine Ak 0 [1] rfl (Bb 2) ?_
 refine Ao 2 rfl ?_
 refine Wc rfl rfl Jhe (fun u hu => Jbs ⟨v37, (Jaa G.p ms.l).2.2⟩ u (hu.ro (j := 0) rfl) (by show ((Jaa G.p ms.l).2.2.length : Int) ≤ 1000000; omega)) (fun _ => rfl) ?_; rintro v52 ⟨u52, h52⟩
 refine Wd (Qa ?_)
 refine Ao 3 rfl ?_
 refine Wk 0 (Cb rfl rfl J7h (fun u hu => (by have q := Jlm c u (hu.ro (j := 4) rfl) hnc g (hW.st hu) ⟨v52, (Jaa G.p ms.l).2.2⟩ (hu.ro (j := 0) rfl); rw [hcp] at q; exact q))) ?_
 refine Wd (Qa ?_)
 refine Ar [4,5,6,7,8] ?_
 refine Ae ?_
 refine Qc (Cs ?_)
 refine CS.drawnAll (k := 9) Jai rfl rfl ?_
 refine Ak 0 [1] rfl (Bb 3) ?_
 refine Ao 2 rfl ?_
 refine Wc rfl rfl Jhe (fun u hu => Jbs ⟨v37, (Jaa G.p ms.l).2.2⟩ u (hu.ro (j := 1) rfl) (by show ((Jaa G.p ms.l).2.2.length : Int) ≤ 1000000; omega)) (fun _ => rfl) ?_; rintro v59 ⟨u59, h59⟩
 refine Wd (Qa ?_)
 refine Ao 3 rfl ?_
 refine Wk 0 (Cb rfl rfl J41 (fun u hu => (by have q := Jmz c u (hu.ro (j := 5) rfl) hnc g (hW.st hu) ⟨v59, (Jaa G.p ms.l).2.2⟩ (hu.ro (j := 0) rfl); rw [hcp] at q; exact q))) ?_
 refine Wd (Qa ?_)
 refine Ar [4,5,6,7,8] ?_
 refine Ae ?_
 refine Qc (Cs ?_)
 refine CS.drawnAll (k := 12) Jai rfl rfl ?_
 refine Ak 0 [1] rfl (Bb 4) ?_
 refine AS.two (i := 2) (j := 8) (by kernel_rfl) rfl rfl (by first | exact fun _ h => h | exact fun _ h => h.sub (by repeat first | exact List.Sublist.refl _ | apply List.Sublist.cons_cons | apply List.Sublist.cons)) rfl rfl ?_ ?_
 ·
  refine Wc rfl rfl Jhe (fun u hu => Jbs ⟨v37, (Jaa G.p ms.l).2.2⟩ u (hu.ro (j := 2) rfl) (by show ((Jaa G.p ms.l).2.2.length : Int) ≤ 1000000; omega)) (fun _ => rfl) ?_; rintro v66 ⟨u66, h66⟩
  refine Wd (Qa ?_)
  refine AS.two (i := 3) (j := 8) (by kernel_rfl) rfl rfl (by first | exact fun _ h => h | exact fun _ h => h.sub (by repeat first | exact List.Sublist.refl _ | apply List.Sublist.cons_cons | apply List.Sublist.cons)) rfl rfl ?_ ?_
  ·
   refine Wc rfl rfl Jrz (fun u hu => (by have q := Jcu c u (hu.ro (j := 6) rfl) hnc g (hW.st hu) ⟨v66, (Jaa G.p ms.l).2.2⟩ (hu.ro (j := 0) rfl); rw [hcp] at q; exact q)) (fun _ => rfl) ?_; rintro ⟨ra, p⟩ ⟨hra, hpx, up, hra1, hpok⟩
   dsimp only at hra hpx hra1 hpok
   obtain ⟨hpa, hpb, hpc⟩ := hpok.st.ones
   have hpd := Sl.one hpok.rd
   refine Wd (Qa ?_)
   refine Ar [4,5,6,7] ?_
   refine Ao 8 rfl ?_
   refine Wl 0 zv61 (fun _ => rfl) (fun _ => rfl) fun b14 hb14 => ?_
   refine Wd (Qa ?_)
   refine Ar [9] ?_
   refine Ao 10 rfl ?_
   refine Wv 0 0 ?_
   refine Wd (Qa ?_)
   refine Ar [11] ?_
   refine Ae ?_
   refine Qc (Nz 0 ?_)
   refine Wk 0 (Bb 9) ?_
   refine Wc rfl rfl Juq (fun u hu => Jhc G u (hG.st hu) hn) (fun _ => rfl) ?_; rintro y ⟨hyx, uy, hyok⟩
   obtain ⟨hya, hyb, hyc⟩ := hyok.st.ones
   have hyd := Sl.one hyok.rd
   refine Wz 3 ?_
   refine Wl 0 zv61 (fun _ => rfl) (fun _ => rfl) fun b16 hb16 => ?_
   refine Wv 1 0 ?_
   refine Wd (Qc (Cs (Nz 3 ?_)))
   refine Wf 0 rfl rfl (fun hg => Fm) ?_
   refine Wf 0 rfl rfl (fun hg => Fr) ?_
   refine Wk 1 Po ?_
   refine Wf 0 rfl rfl (fun hg => Fm) ?_
   refine Wf 0 rfl rfl (fun hg => Fr) ?_
   refine Wk 1 Po ?_
   refine Wf 0 rfl rfl (fun hg => Fm) ?_
   refine Wf 0 rfl rfl (fun hg => Fn) ?_
   refine Wk 1 Po ?_
   refine Wf 0 rfl rfl (fun hg => Fm) ?_
   refine Wf 0 rfl rfl (fun hg => Fr) ?_
   refine Wk 1 Po ?_
   refine Wf 0 rfl rfl (fun hg => Fm) ?_
   refine Wf 0 rfl rfl (fun hg => Fr) ?_
   refine Wk 1 Po ?_
   refine Wf 0 rfl rfl (fun hg => Fm) ?_
   refine Wf 0 rfl rfl (fun hg => Jda (s := ra) sl33 (eg_ hg rfl) hra1) ?_
   refine Wf 0 rfl rfl (fun hg => Fm) ?_
   refine Wf 0 rfl rfl (fun hg => Nc (eg_ hg rfl)) ?_
   refine Wf 0 rfl rfl (fun hg => Fr) ?_
   refine Wk 0 Po ?_
   refine Wd (Qc (CS.cond rfl ?_ ?_))<;>intro hc3<;>try simp only [bq] at hc3
   ·
    exfalso
    have hrl : ra.l.length = ms.l.length := by rw [← hRl, ← hra, List.length_map]
    simp [hV, hF, hRp, hB, hrl] at hc3
   have hrl : ra.l.length = ms.l.length := by rw [← hRl, ← hra, List.length_map]
   have hrl2 : ((Ja2 G.p (Jaa G.p ms.l).2.2).2.1).length = ra.l.length := by rw [← hra, List.length_map]
   have hyl : y.st.ths.l = (Jah G.p).2.1.1 := by rw [← hyx]; rfl
   have hyn : y.st.ths.l.length = G.rm.ths.l.length := by have h9 := Jbm (G := G) (Jb8 hB); rw [← hyx] at h9; exact h9
   have hnth := hn.rm.ths
   refine Ck (Qc (Nz 0 ?_))
   refine WS.build0 sl56 zv3 (fun _ => rfl) ?_; intro v105
   refine Wz 2 ?_
   refine Wk 0 (Ba 1) ?_
   refine WS.append0 (j := 0) (news := ints y.st.ths.l) (m := y.st.ths.l.length) sl56 zv3 rfl (by decide) rfl rfl rfl (fun u hu => (hu.ro (j := 2) rfl).st.ths.ints) (by simp [ints, Value.oneCell']) (by omega) (by omega) (fun _ => rfl) (fun _ => rfl) ?_; intro v109; refine WS.oc (j := 0) rfl (fun hv109 => ?_)
   refine Wz 1 ?_
   refine Wd (Qc (Nz 1 ?_))
   refine Wd (Qc (Cs (Nz 1 ?_)))
   refine Wd (Qc (Ce ?_))
   refine CS.sel [0, 3, 6, 9] rfl ?_
   refine CS.loopM (σ := Int × Int × List Int) [4, 21, 110, 111, 112, 113, 114, 115, 116, 117, 118, 119, 120, 121, 122, 123, 124, 125, 126, 127, 128, 129, 130, 131, 132, 133, 134, 135, 136, 137, 138, 139, 140, 141, 142, 143, 144, 145, 146, 147, 148, 149, 150, 151, 152, 153, 154, 155, 156, 157, 158, 159, 160, 161, 162, 163, 164, 165, 166, 167, 168, 169, 170, 171, 172, 173, 174, 175, 176, 177, 178, 179] (fun s => [(20, .int .i64 s.1), (19, .int .i64 s.2.1)]) (fun s => [oints 3 v109 s.2.2, roS fun u => SlT (cSl cInt) u ra ∧ PosOk u p, roT cEntry ⟨v37, (Jaa G.p ms.l).2.2⟩, blk b2 [G.rm.pls.v, G.rm.ths.v, G.rm.prs.v, G.rm.wys.v, G.rm.acs.v, G.rm.aus.v, .int .i64 G.rm.ply, G.rm.gl.v, G.lks.v, G.cds.v, G.nts.v, .int .i64 G.tr] 36]) (fun s => 0 ≤ s.1 ∧ s.1 ≤ ((Jaa G.p ms.l).2.2.length : Int) + 1 ∧ -1 ≤ s.2.1 ∧ s.2.1 ≤ ra.l.length ∧ s.2.2.length = y.st.ths.l.length ∧ (s.1 ≤ ((Jaa G.p ms.l).2.2.length : Int) → Je3 ((Ja2 G.p (Jaa G.p ms.l).2.2).2.1) ((Jaa G.p ms.l).2.2.drop s.1.toNat) s.2.2 s.2.1 = true) ∧ (¬ s.1 ≤ ((Jaa G.p ms.l).2.2.length : Int) → s.2.1 = ra.l.length)) (fun s => ((Jaa G.p ms.l).2.2.length + 1 - s.1).toNat) (0, -1, y.st.ths.l) (fun _ _ => rfl) rfl rfl ⟨by simp, by show (0 : Int) ≤ ((Jaa G.p ms.l).2.2.length : Int) + 1; omega, by simp, by show (-1 : Int) ≤ ra.l.length; omega, rfl, fun _ => by rw [hyl]; exact hSw, fun h => absurd (show (0 : Int) ≤ (Jaa G.p ms.l).2.2.length by omega) h⟩ ?_
   intro s t hs
   obtain ⟨hs1, hs2, hs3, hs4, hs5, hs6, hs7⟩ := hs
   refine Cs (Nz 2 ?_)
   refine Wk 1 (show Det _ _ _ _ (.int .i64 ((Jaa G.p ms.l).2.2.length : Int)) from Nc (s := ⟨v37, (Jaa G.p ms.l).2.2⟩)) ?_
   refine Wd (Qc (CS.cond rfl ?_ ?_))<;>intro hc4<;>try simp only [bq] at hc4
   ·
    refine Ck (Qc (Cs (Ce (Cs (Nz 2 ?_)))))
    refine Wk 2 (show Det _ _ _ _ (.int .i64 ((Jaa G.p ms.l).2.2.length : Int)) from Nc (s := ⟨v37, (Jaa G.p ms.l).2.2⟩)) ?_
    refine Wf 0 rfl rfl (fun hg => Fm) ?_
    refine Wf 0 rfl rfl (fun hg => Fm) ?_
    refine Wf 0 rfl rfl (fun hg => Jbi (s := ⟨v37, (Jaa G.p ms.l).2.2⟩) sl40 (eg_ hg rfl) (eg_ hg rfl) h37 rfl (by (try simp only [bq] at hg); omega) (by (try simp only [bq] at hg); show s.1 < ((Jaa G.p ms.l).2.2.length : Int); omega)) ?_
    refine Wf 0 rfl rfl (fun hg => Ff) ?_
    refine Wf 0 rfl rfl (fun hg => show Det _ _ _ _ (.int .i64 (nth (Jaa G.p ms.l).2.2 s.1).k) from Jn9 (jj := 2) (s := ⟨v37, (Jaa G.p ms.l).2.2⟩) 7 1 rfl (eg_ hg rfl) rfl ⟨by (try simp only [bq] at hg); omega, by (try simp only [bq] at hg); show s.1 < ((Jaa G.p ms.l).2.2.length : Int); omega⟩ (by decide) rfl tk3) ?_
    refine Wf 0 rfl rfl (fun hg => Fq) ?_
    refine Wk 0 Po ?_
    refine Wd (Qc (CS.cond rfl ?_ ?_))<;>intro hc5<;>try simp only [bq] at hc5
    ·
     have hkk : s.1 = (Jaa G.p ms.l).2.2.length ∨ (nth (Jaa G.p ms.l).2.2 s.1).k = 1 := by have h9 := hc5; first | exact h9 | (simp at h9; omega)
     obtain ⟨hw1, hw2, hw3⟩ := Jwq hs1 (by omega) hkk (hs6 (by omega))
     have hnr : s.2.1 < ra.l.length := by omega
     refine Cs (Nz 3 ?_)
     refine Wt 0 rfl rfl (fun hg => Fm) ?_
     refine Wt 0 rfl rfl (fun hg => Fm) ?_
     refine Wt 0 rfl rfl (fun hg => Fm) ?_
     refine Wt 0 rfl rfl (fun hg => Jbi (s := ra) sl33 (eg_ hg rfl) (eg_ hg rfl) hra1 rfl (by (try simp only [bq] at hg); omega) (by (try simp only [bq] at hg); omega)) ?_
     refine Wt 0 rfl rfl (fun hg => Jnf (s := ra) (jj := 1) rfl (fun u h ↦ h.1) (eg_ hg rfl) rfl ⟨by (try simp only [bq] at hg); omega, by (try simp only [bq] at hg); omega⟩ rfl tk56) ?_
     refine Wt 0 rfl rfl (fun hg => Cb rfl (ec_ (eg_ hg rfl) (ec_ (eg_ hg rfl) en_)) Jjt (fun u hu => Jbz _ _ _ _ u (Jal hu (j := 0) rfl) ((hu.ro (j := 1) rfl).1.at (i := s.2.1) (by (try simp only [bq] at hg); omega) (by omega) : SlT cInt u _).ints)) ?_
     refine Wt 0 rfl rfl (fun hg => Fn) ?_
     refine Wk 0 Pa ?_
     refine Wd (Qc (CS.cond rfl ?_ ?_))<;>intro hc6<;>try simp only [bq] at hc6
     ·
      exfalso
      obtain ⟨z1, z2⟩ := hc6
      rcases hw1 with h | ⟨h, e⟩
      ·
       omega
      rw [← hra, Jnj (by omega) (by omega)] at e; exact absurd e (by simpa using z2)
     refine Ck (Qc (Nz 1 ?_))
     refine Wk 1 Za ?_
     refine Wd (Qc (Cv (Qe (Qx (Qc (Ny 1 ?_))))))
     refine Wk 1 Za ?_
     exact Wd (QS.head ((s.1 + 1, s.2.1 + 1, s.2.2)) rfl rfl ⟨⟨by simp; omega, by simp; omega, by simp; omega, by simp; omega, hs5, fun h => hw3 (by simp only at h; omega), fun h => by have h9 := hw2 (by simp only at h; omega); show s.2.1 + 1 = _; omega⟩, by simp; omega⟩)
    have hkk : ¬ s.1 = (Jaa G.p ms.l).2.2.length ∧ ¬ (nth (Jaa G.p ms.l).2.2 s.1).k = 1 := by have h9 := hc5; first | exact h9 | (simp at h9; omega)
    obtain ⟨q1, q2, q3, q4, q5, q6⟩ := Jwh hs1 (by omega) hkk.2 (hs6 (by omega))
    refine Ck (Qc (Nz 2 ?_))
    refine Wk 0 (Jbi (s := ⟨v37, (Jaa G.p ms.l).2.2⟩) sl40 rfl rfl h37 rfl (by omega) (by show s.1 < ((Jaa G.p ms.l).2.2.length : Int); omega)) ?_
    refine Wk 0 (show Det _ _ _ _ (.agg (cEntry.cells (nth (Jaa G.p ms.l).2.2 s.1)).toArray) from Jfo (jj := 2) (s := ⟨v37, (Jaa G.p ms.l).2.2⟩) rfl rfl rfl ⟨by omega, by show s.1 < ((Jaa G.p ms.l).2.2.length : Int); omega⟩ rfl tk73) ?_
    refine Wl 0 zv73 (fun _ => rfl) (fun _ => rfl) fun b21 hb21 => ?_
    refine Wv 0 0 ?_
    refine Wd (Qc (Cs (Cs (Dr Jai 1 ?_))))
    refine Dk 2 (Ba 0) ?_
    refine Df 0 rfl rfl (fun hg => Ff) ?_
    refine Df 0 rfl rfl (fun hg => Ba 0) ?_
    refine Df 0 rfl rfl (fun hg => Fl) ?_
    refine Dk 1 Po ?_
    refine Df 0 rfl rfl (fun hg => Ff) ?_
    refine Df 0 rfl rfl (fun hg => Ba 0) ?_
    refine Df 0 rfl rfl (fun hg => Fm) ?_
    refine Df 0 rfl rfl (fun hg => Nb 1 (eg_ hg rfl)) ?_
    refine Df 0 rfl rfl (fun hg => Fh) ?_
    refine Dk 1 Po ?_
    refine Df 0 rfl rfl (fun hg => Fm) ?_
    refine Df 0 rfl rfl (fun hg => Fl) ?_
    refine Dk 1 Po ?_
    refine Df 0 rfl rfl (fun hg => Fm) ?_
    refine Df 0 rfl rfl (fun hg => Ff) ?_
    refine Df 0 rfl rfl (fun hg => Ba 0) ?_
    refine Df 0 rfl rfl (fun hg => Xb 1 (eg_ hg rfl)) ?_
    refine Df 0 rfl rfl (fun hg => Ib 1) ?_
    refine Df 0 rfl rfl (fun hg => Ff) ?_
    refine Df 0 rfl rfl (fun hg => Ba 0) ?_
    refine Df 0 rfl rfl (fun hg => Fq) ?_
    refine Dk 0 Po ?_
    refine Dd (Qc (CS.cond rfl ?_ ?_))<;>intro hc7<;>try simp only [bq] at hc7
    ·
     exfalso
     rcases hc7 with (((h | h) | h) | h) | h <;> first | exact h q1 | omega | exact q5 h
    refine Ck (Qc (Ny 2 ?_))
    refine Wk 1 (Ba 0) ?_
    refine Wk 0 (Ba 0) ?_
    refine Wk 0 (Xb 1) ?_
    refine WS.storeOI (j := 1) rfl rfl (by omega) rfl tk3 rfl ?_
    refine Wd (Qb (Qc (Ny 1 ?_)))
    refine Wk 1 Za ?_
    refine Wd ?_
    refine QS.sel [1, 1, 1, 1] rfl ?_
    exact QS.head ((s.1 + 1, s.2.1, s.2.2.set (nth (Jaa G.p ms.l).2.2 s.1).a.toNat (nth (Jaa G.p ms.l).2.2 s.1).b)) rfl rfl ⟨⟨by simp; omega, by simp; omega, hs3, hs4, by simp only [List.length_set]; exact hs5, fun _ => q6, fun h => by simp only at h; omega⟩, by simp; omega⟩
   refine Cv (Qe (Qe (Qx (Qc (Nz 2 ?_)))))
   refine Wk 2 (Jda (s := ra) sl33 rfl hra1) ?_
   refine Wt 0 rfl rfl (fun hg => Cb rfl rfl Jft (fun u hu => Jbu u g (hW.st hu))) ?_
   refine Wk 1 Pa ?_
   exact Wd (Qc (Cr (out1 rfl rfl (Jab (by rw [hs7 (by omega)]; simp)))))
  refine Wl 0 zv61 (fun _ => rfl) (fun _ => rfl) fun b14 hb14 => ?_
  refine Wd (Qa ?_)
  refine Ao 3 rfl ?_
  refine Wc rfl rfl Jrz (fun u hu => (by have q := Jcu c u (hu.ro (j := 7) rfl) hnc g (hW.st hu) ⟨v66, (Jaa G.p ms.l).2.2⟩ (hu.ro (j := 1) rfl); rw [hcp] at q; exact q)) (fun _ => rfl) ?_; rintro ⟨ra, p⟩ ⟨hra, hpx, up, hra1, hpok⟩
  dsimp only at hra hpx hra1 hpok
  obtain ⟨hpa, hpb, hpc⟩ := hpok.st.ones
  have hpd := Sl.one hpok.rd
  refine Wd (Qa ?_)
  refine Ar [4,5,6,7,9] ?_
  refine Ao 10 rfl ?_
  refine Wv 0 1 ?_
  refine Wd (Qa ?_)
  refine Ar [11] ?_
  refine Ae ?_
  refine Qc (Nz 0 ?_)
  refine Wk 0 (Bb 9) ?_
  refine Wc rfl rfl Juq (fun u hu => Jhc G u (hG.st hu) hn) (fun _ => rfl) ?_; rintro y ⟨hyx, uy, hyok⟩
  obtain ⟨hya, hyb, hyc⟩ := hyok.st.ones
  have hyd := Sl.one hyok.rd
  refine Wz 3 ?_
  refine Wl 0 zv61 (fun _ => rfl) (fun _ => rfl) fun b16 hb16 => ?_
  refine Wv 1 0 ?_
  refine Wd (Qc (Cs (Nz 3 ?_)))
  refine Wf 0 rfl rfl (fun hg => Fm) ?_
  refine Wf 0 rfl rfl (fun hg => Fr) ?_
  refine Wk 1 Po ?_
  refine Wf 0 rfl rfl (fun hg => Fm) ?_
  refine Wf 0 rfl rfl (fun hg => Fr) ?_
  refine Wk 1 Po ?_
  refine Wf 0 rfl rfl (fun hg => Fm) ?_
  refine Wf 0 rfl rfl (fun hg => Fn) ?_
  refine Wk 1 Po ?_
  refine Wf 0 rfl rfl (fun hg => Fm) ?_
  refine Wf 0 rfl rfl (fun hg => Fr) ?_
  refine Wk 1 Po ?_
  refine Wf 0 rfl rfl (fun hg => Fm) ?_
  refine Wf 0 rfl rfl (fun hg => Fr) ?_
  refine Wk 1 Po ?_
  refine Wf 0 rfl rfl (fun hg => Fm) ?_
  refine Wf 0 rfl rfl (fun hg => Jda (s := ra) sl33 (eg_ hg rfl) hra1) ?_
  refine Wf 0 rfl rfl (fun hg => Fm) ?_
  refine Wf 0 rfl rfl (fun hg => Nc (eg_ hg rfl)) ?_
  refine Wf 0 rfl rfl (fun hg => Fr) ?_
  refine Wk 0 Po ?_
  refine Wd (Qc (CS.cond rfl ?_ ?_))<;>intro hc3<;>try simp only [bq] at hc3
  ·
   exfalso
   have hrl : ra.l.length = ms.l.length := by rw [← hRl, ← hra, List.length_map]
   simp [hV, hF, hRp, hB, hrl] at hc3
  have hrl : ra.l.length = ms.l.length := by rw [← hRl, ← hra, List.length_map]
  have hrl2 : ((Ja2 G.p (Jaa G.p ms.l).2.2).2.1).length = ra.l.length := by rw [← hra, List.length_map]
  have hyl : y.st.ths.l = (Jah G.p).2.1.1 := by rw [← hyx]; rfl
  have hyn : y.st.ths.l.length = G.rm.ths.l.length := by have h9 := Jbm (G := G) (Jb8 hB); rw [← hyx] at h9; exact h9
  have hnth := hn.rm.ths
  refine Ck (Qc (Nz 0 ?_))
  refine WS.build0 sl56 zv3 (fun _ => rfl) ?_; intro v105
  refine Wz 2 ?_
  refine Wk 0 (Ba 1) ?_
  refine WS.append0 (j := 0) (news := ints y.st.ths.l) (m := y.st.ths.l.length) sl56 zv3 rfl (by decide) rfl rfl rfl (fun u hu => (hu.ro (j := 2) rfl).st.ths.ints) (by simp [ints, Value.oneCell']) (by omega) (by omega) (fun _ => rfl) (fun _ => rfl) ?_; intro v109; refine WS.oc (j := 0) rfl (fun hv109 => ?_)
  refine Wz 1 ?_
  refine Wd (Qc (Nz 1 ?_))
  refine Wd (Qc (Cs (Nz 1 ?_)))
  refine Wd (Qc (Ce ?_))
  refine CS.sel [0, 2, 6, 9] rfl ?_
  refine CS.loopM (σ := Int × Int × List Int) [4, 21, 110, 111, 112, 113, 114, 115, 116, 117, 118, 119, 120, 121, 122, 123, 124, 125, 126, 127, 128, 129, 130, 131, 132, 133, 134, 135, 136, 137, 138, 139, 140, 141, 142, 143, 144, 145, 146, 147, 148, 149, 150, 151, 152, 153, 154, 155, 156, 157, 158, 159, 160, 161, 162, 163, 164, 165, 166, 167, 168, 169, 170, 171, 172, 173, 174, 175, 176, 177, 178, 179] (fun s => [(20, .int .i64 s.1), (19, .int .i64 s.2.1)]) (fun s => [oints 3 v109 s.2.2, roS fun u => SlT (cSl cInt) u ra ∧ PosOk u p, roT cEntry ⟨v37, (Jaa G.p ms.l).2.2⟩, blk b2 [G.rm.pls.v, G.rm.ths.v, G.rm.prs.v, G.rm.wys.v, G.rm.acs.v, G.rm.aus.v, .int .i64 G.rm.ply, G.rm.gl.v, G.lks.v, G.cds.v, G.nts.v, .int .i64 G.tr] 36]) (fun s => 0 ≤ s.1 ∧ s.1 ≤ ((Jaa G.p ms.l).2.2.length : Int) + 1 ∧ -1 ≤ s.2.1 ∧ s.2.1 ≤ ra.l.length ∧ s.2.2.length = y.st.ths.l.length ∧ (s.1 ≤ ((Jaa G.p ms.l).2.2.length : Int) → Je3 ((Ja2 G.p (Jaa G.p ms.l).2.2).2.1) ((Jaa G.p ms.l).2.2.drop s.1.toNat) s.2.2 s.2.1 = true) ∧ (¬ s.1 ≤ ((Jaa G.p ms.l).2.2.length : Int) → s.2.1 = ra.l.length)) (fun s => ((Jaa G.p ms.l).2.2.length + 1 - s.1).toNat) (0, -1, y.st.ths.l) (fun _ _ => rfl) rfl rfl ⟨by simp, by show (0 : Int) ≤ ((Jaa G.p ms.l).2.2.length : Int) + 1; omega, by simp, by show (-1 : Int) ≤ ra.l.length; omega, rfl, fun _ => by rw [hyl]; exact hSw, fun h => absurd (show (0 : Int) ≤ (Jaa G.p ms.l).2.2.length by omega) h⟩ ?_
  intro s t hs
  obtain ⟨hs1, hs2, hs3, hs4, hs5, hs6, hs7⟩ := hs
  refine Cs (Nz 2 ?_)
  refine Wk 1 (show Det _ _ _ _ (.int .i64 ((Jaa G.p ms.l).2.2.length : Int)) from Nc (s := ⟨v37, (Jaa G.p ms.l).2.2⟩)) ?_
  refine Wd (Qc (CS.cond rfl ?_ ?_))<;>intro hc4<;>try simp only [bq] at hc4
  ·
   refine Ck (Qc (Cs (Ce (Cs (Nz 2 ?_)))))
   refine Wk 2 (show Det _ _ _ _ (.int .i64 ((Jaa G.p ms.l).2.2.length : Int)) from Nc (s := ⟨v37, (Jaa G.p ms.l).2.2⟩)) ?_
   refine Wf 0 rfl rfl (fun hg => Fm) ?_
   refine Wf 0 rfl rfl (fun hg => Fm) ?_
   refine Wf 0 rfl rfl (fun hg => Jbi (s := ⟨v37, (Jaa G.p ms.l).2.2⟩) sl40 (eg_ hg rfl) (eg_ hg rfl) h37 rfl (by (try simp only [bq] at hg); omega) (by (try simp only [bq] at hg); show s.1 < ((Jaa G.p ms.l).2.2.length : Int); omega)) ?_
   refine Wf 0 rfl rfl (fun hg => Ff) ?_
   refine Wf 0 rfl rfl (fun hg => show Det _ _ _ _ (.int .i64 (nth (Jaa G.p ms.l).2.2 s.1).k) from Jn9 (jj := 2) (s := ⟨v37, (Jaa G.p ms.l).2.2⟩) 7 1 rfl (eg_ hg rfl) rfl ⟨by (try simp only [bq] at hg); omega, by (try simp only [bq] at hg); show s.1 < ((Jaa G.p ms.l).2.2.length : Int); omega⟩ (by decide) rfl tk3) ?_
   refine Wf 0 rfl rfl (fun hg => Fq) ?_
   refine Wk 0 Po ?_
   refine Wd (Qc (CS.cond rfl ?_ ?_))<;>intro hc5<;>try simp only [bq] at hc5
   ·
    have hkk : s.1 = (Jaa G.p ms.l).2.2.length ∨ (nth (Jaa G.p ms.l).2.2 s.1).k = 1 := by have h9 := hc5; first | exact h9 | (simp at h9; omega)
    obtain ⟨hw1, hw2, hw3⟩ := Jwq hs1 (by omega) hkk (hs6 (by omega))
    have hnr : s.2.1 < ra.l.length := by omega
    refine Cs (Nz 3 ?_)
    refine Wt 0 rfl rfl (fun hg => Fm) ?_
    refine Wt 0 rfl rfl (fun hg => Fm) ?_
    refine Wt 0 rfl rfl (fun hg => Fm) ?_
    refine Wt 0 rfl rfl (fun hg => Jbi (s := ra) sl33 (eg_ hg rfl) (eg_ hg rfl) hra1 rfl (by (try simp only [bq] at hg); omega) (by (try simp only [bq] at hg); omega)) ?_
    refine Wt 0 rfl rfl (fun hg => Jnf (s := ra) (jj := 1) rfl (fun u h ↦ h.1) (eg_ hg rfl) rfl ⟨by (try simp only [bq] at hg); omega, by (try simp only [bq] at hg); omega⟩ rfl tk56) ?_
    refine Wt 0 rfl rfl (fun hg => Cb rfl (ec_ (eg_ hg rfl) (ec_ (eg_ hg rfl) en_)) Jjt (fun u hu => Jbz _ _ _ _ u (Jal hu (j := 0) rfl) ((hu.ro (j := 1) rfl).1.at (i := s.2.1) (by (try simp only [bq] at hg); omega) (by omega) : SlT cInt u _).ints)) ?_
    refine Wt 0 rfl rfl (fun hg => Fn) ?_
    refine Wk 0 Pa ?_
    refine Wd (Qc (CS.cond rfl ?_ ?_))<;>intro hc6<;>try simp only [bq] at hc6
    ·
     exfalso
     obtain ⟨z1, z2⟩ := hc6
     rcases hw1 with h | ⟨h, e⟩
     ·
      omega
     rw [← hra, Jnj (by omega) (by omega)] at e; exact absurd e (by simpa using z2)
    refine Ck (Qc (Nz 1 ?_))
    refine Wk 1 Za ?_
    refine Wd (Qc (Cv (Qe (Qx (Qc (Ny 1 ?_))))))
    refine Wk 1 Za ?_
    exact Wd (QS.head ((s.1 + 1, s.2.1 + 1, s.2.2)) rfl rfl ⟨⟨by simp; omega, by simp; omega, by simp; omega, by simp; omega, hs5, fun h => hw3 (by simp only at h; omega), fun h => by have h9 := hw2 (by simp only at h; omega); show s.2.1 + 1 = _; omega⟩, by simp; omega⟩)
   have hkk : ¬ s.1 = (Jaa G.p ms.l).2.2.length ∧ ¬ (nth (Jaa G.p ms.l).2.2 s.1).k = 1 := by have h9 := hc5; first | exact h9 | (simp at h9; omega)
   obtain ⟨q1, q2, q3, q4, q5, q6⟩ := Jwh hs1 (by omega) hkk.2 (hs6 (by omega))
   refine Ck (Qc (Nz 2 ?_))
   refine Wk 0 (Jbi (s := ⟨v37, (Jaa G.p ms.l).2.2⟩) sl40 rfl rfl h37 rfl (by omega) (by show s.1 < ((Jaa G.p ms.l).2.2.length : Int); omega)) ?_
   refine Wk 0 (show Det _ _ _ _ (.agg (cEntry.cells (nth (Jaa G.p ms.l).2.2 s.1)).toArray) from Jfo (jj := 2) (s := ⟨v37, (Jaa G.p ms.l).2.2⟩) rfl rfl rfl ⟨by omega, by show s.1 < ((Jaa G.p ms.l).2.2.length : Int); omega⟩ rfl tk73) ?_
   refine Wl 0 zv73 (fun _ => rfl) (fun _ => rfl) fun b21 hb21 => ?_
   refine Wv 0 0 ?_
   refine Wd (Qc (Cs (Cs (Dr Jai 1 ?_))))
   refine Dk 2 (Ba 0) ?_
   refine Df 0 rfl rfl (fun hg => Ff) ?_
   refine Df 0 rfl rfl (fun hg => Ba 0) ?_
   refine Df 0 rfl rfl (fun hg => Fl) ?_
   refine Dk 1 Po ?_
   refine Df 0 rfl rfl (fun hg => Ff) ?_
   refine Df 0 rfl rfl (fun hg => Ba 0) ?_
   refine Df 0 rfl rfl (fun hg => Fm) ?_
   refine Df 0 rfl rfl (fun hg => Nb 1 (eg_ hg rfl)) ?_
   refine Df 0 rfl rfl (fun hg => Fh) ?_
   refine Dk 1 Po ?_
   refine Df 0 rfl rfl (fun hg => Fm) ?_
   refine Df 0 rfl rfl (fun hg => Fl) ?_
   refine Dk 1 Po ?_
   refine Df 0 rfl rfl (fun hg => Fm) ?_
   refine Df 0 rfl rfl (fun hg => Ff) ?_
   refine Df 0 rfl rfl (fun hg => Ba 0) ?_
   refine Df 0 rfl rfl (fun hg => Xb 1 (eg_ hg rfl)) ?_
   refine Df 0 rfl rfl (fun hg => Ib 1) ?_
   refine Df 0 rfl rfl (fun hg => Ff) ?_
   refine Df 0 rfl rfl (fun hg => Ba 0) ?_
   refine Df 0 rfl rfl (fun hg => Fq) ?_
   refine Dk 0 Po ?_
   refine Dd (Qc (CS.cond rfl ?_ ?_))<;>intro hc7<;>try simp only [bq] at hc7
   ·
    exfalso
    rcases hc7 with (((h | h) | h) | h) | h <;> first | exact h q1 | omega | exact q5 h
   refine Ck (Qc (Ny 2 ?_))
   refine Wk 1 (Ba 0) ?_
   refine Wk 0 (Ba 0) ?_
   refine Wk 0 (Xb 1) ?_
   refine WS.storeOI (j := 1) rfl rfl (by omega) rfl tk3 rfl ?_
   refine Wd (Qb (Qc (Ny 1 ?_)))
   refine Wk 1 Za ?_
   refine Wd ?_
   refine QS.sel [1, 1, 1, 1] rfl ?_
   exact QS.head ((s.1 + 1, s.2.1, s.2.2.set (nth (Jaa G.p ms.l).2.2 s.1).a.toNat (nth (Jaa G.p ms.l).2.2 s.1).b)) rfl rfl ⟨⟨by simp; omega, by simp; omega, hs3, hs4, by simp only [List.length_set]; exact hs5, fun _ => q6, fun h => by simp only at h; omega⟩, by simp; omega⟩
  refine Cv (Qe (Qe (Qx (Qc (Nz 2 ?_)))))
  refine Wk 2 (Jda (s := ra) sl33 rfl hra1) ?_
  refine Wt 0 rfl rfl (fun hg => Cb rfl rfl Jft (fun u hu => Jbu u g (hW.st hu))) ?_
  refine Wk 1 Pa ?_
  exact Wd (Qc (Cr (out1 rfl rfl (Jab (by rw [hs7 (by omega)]; simp)))))
 refine Wl 0 zv61 (fun _ => rfl) (fun _ => rfl) fun b14 hb14 => ?_
 refine Wd (Qa ?_)
 refine Ao 2 rfl ?_
 refine Wc rfl rfl Jhe (fun u hu => Jbs ⟨v37, (Jaa G.p ms.l).2.2⟩ u (hu.ro (j := 3) rfl) (by show ((Jaa G.p ms.l).2.2.length : Int) ≤ 1000000; omega)) (fun _ => rfl) ?_; rintro v66 ⟨u66, h66⟩
 refine Wd (Qa ?_)
 refine Ao 3 rfl ?_
 refine Wc rfl rfl Jrz (fun u hu => (by have q := Jcu c u (hu.ro (j := 7) rfl) hnc g (hW.st hu) ⟨v66, (Jaa G.p ms.l).2.2⟩ (hu.ro (j := 0) rfl); rw [hcp] at q; exact q)) (fun _ => rfl) ?_; rintro ⟨ra, p⟩ ⟨hra, hpx, up, hra1, hpok⟩
 dsimp only at hra hpx hra1 hpok
 obtain ⟨hpa, hpb, hpc⟩ := hpok.st.ones
 have hpd := Sl.one hpok.rd
 refine Wd (Qa ?_)
 refine Ar [4,5,6,7,9] ?_
 refine Ao 10 rfl ?_
 refine Wv 0 2 ?_
 refine Wd (Qa ?_)
 refine Ar [11] ?_
 refine Ae ?_
 refine Qc (Nz 0 ?_)
 refine Wk 0 (Bb 9) ?_
 refine Wc rfl rfl Juq (fun u hu => Jhc G u (hG.st hu) hn) (fun _ => rfl) ?_; rintro y ⟨hyx, uy, hyok⟩
 obtain ⟨hya, hyb, hyc⟩ := hyok.st.ones
 have hyd := Sl.one hyok.rd
 refine Wz 3 ?_
 refine Wl 0 zv61 (fun _ => rfl) (fun _ => rfl) fun b16 hb16 => ?_
 refine Wv 1 0 ?_
 refine Wd (Qc (Cs (Nz 3 ?_)))
 refine Wf 0 rfl rfl (fun hg => Fm) ?_
 refine Wf 0 rfl rfl (fun hg => Fr) ?_
 refine Wk 1 Po ?_
 refine Wf 0 rfl rfl (fun hg => Fm) ?_
 refine Wf 0 rfl rfl (fun hg => Fr) ?_
 refine Wk 1 Po ?_
 refine Wf 0 rfl rfl (fun hg => Fm) ?_
 refine Wf 0 rfl rfl (fun hg => Fn) ?_
 refine Wk 1 Po ?_
 refine Wf 0 rfl rfl (fun hg => Fm) ?_
 refine Wf 0 rfl rfl (fun hg => Fr) ?_
 refine Wk 1 Po ?_
 refine Wf 0 rfl rfl (fun hg => Fm) ?_
 refine Wf 0 rfl rfl (fun hg => Fr) ?_
 refine Wk 1 Po ?_
 refine Wf 0 rfl rfl (fun hg => Fm) ?_
 refine Wf 0 rfl rfl (fun hg => Jda (s := ra) sl33 (eg_ hg rfl) hra1) ?_
 refine Wf 0 rfl rfl (fun hg => Fm) ?_
 refine Wf 0 rfl rfl (fun hg => Nc (eg_ hg rfl)) ?_
 refine Wf 0 rfl rfl (fun hg => Fr) ?_
 refine Wk 0 Po ?_
 refine Wd (Qc (CS.cond rfl ?_ ?_))<;>intro hc3<;>try simp only [bq] at hc3
 ·
  exfalso
  have hrl : ra.l.length = ms.l.length := by rw [← hRl, ← hra, List.length_map]
  simp [hV, hF, hRp, hB, hrl] at hc3
 have hrl : ra.l.length = ms.l.length := by rw [← hRl, ← hra, List.length_map]
 have hrl2 : ((Ja2 G.p (Jaa G.p ms.l).2.2).2.1).length = ra.l.length := by rw [← hra, List.length_map]
 have hyl : y.st.ths.l = (Jah G.p).2.1.1 := by rw [← hyx]; rfl
 have hyn : y.st.ths.l.length = G.rm.ths.l.length := by have h9 := Jbm (G := G) (Jb8 hB); rw [← hyx] at h9; exact h9
 have hnth := hn.rm.ths
 refine Ck (Qc (Nz 0 ?_))
 refine WS.build0 sl56 zv3 (fun _ => rfl) ?_; intro v105
 refine Wz 2 ?_
 refine Wk 0 (Ba 1) ?_
 refine WS.append0 (j := 0) (news := ints y.st.ths.l) (m := y.st.ths.l.length) sl56 zv3 rfl (by decide) rfl rfl rfl (fun u hu => (hu.ro (j := 2) rfl).st.ths.ints) (by simp [ints, Value.oneCell']) (by omega) (by omega) (fun _ => rfl) (fun _ => rfl) ?_; intro v109; refine WS.oc (j := 0) rfl (fun hv109 => ?_)
 refine Wz 1 ?_
 refine Wd (Qc (Nz 1 ?_))
 refine Wd (Qc (Cs (Nz 1 ?_)))
 refine Wd (Qc (Ce ?_))
 refine CS.sel [0, 2, 6, 9] rfl ?_
 refine CS.loopM (σ := Int × Int × List Int) [4, 21, 110, 111, 112, 113, 114, 115, 116, 117, 118, 119, 120, 121, 122, 123, 124, 125, 126, 127, 128, 129, 130, 131, 132, 133, 134, 135, 136, 137, 138, 139, 140, 141, 142, 143, 144, 145, 146, 147, 148, 149, 150, 151, 152, 153, 154, 155, 156, 157, 158, 159, 160, 161, 162, 163, 164, 165, 166, 167, 168, 169, 170, 171, 172, 173, 174, 175, 176, 177, 178, 179] (fun s => [(20, .int .i64 s.1), (19, .int .i64 s.2.1)]) (fun s => [oints 3 v109 s.2.2, roS fun u => SlT (cSl cInt) u ra ∧ PosOk u p, roT cEntry ⟨v37, (Jaa G.p ms.l).2.2⟩, blk b2 [G.rm.pls.v, G.rm.ths.v, G.rm.prs.v, G.rm.wys.v, G.rm.acs.v, G.rm.aus.v, .int .i64 G.rm.ply, G.rm.gl.v, G.lks.v, G.cds.v, G.nts.v, .int .i64 G.tr] 36]) (fun s => 0 ≤ s.1 ∧ s.1 ≤ ((Jaa G.p ms.l).2.2.length : Int) + 1 ∧ -1 ≤ s.2.1 ∧ s.2.1 ≤ ra.l.length ∧ s.2.2.length = y.st.ths.l.length ∧ (s.1 ≤ ((Jaa G.p ms.l).2.2.length : Int) → Je3 ((Ja2 G.p (Jaa G.p ms.l).2.2).2.1) ((Jaa G.p ms.l).2.2.drop s.1.toNat) s.2.2 s.2.1 = true) ∧ (¬ s.1 ≤ ((Jaa G.p ms.l).2.2.length : Int) → s.2.1 = ra.l.length)) (fun s => ((Jaa G.p ms.l).2.2.length + 1 - s.1).toNat) (0, -1, y.st.ths.l) (fun _ _ => rfl) rfl rfl ⟨by simp, by show (0 : Int) ≤ ((Jaa G.p ms.l).2.2.length : Int) + 1; omega, by simp, by show (-1 : Int) ≤ ra.l.length; omega, rfl, fun _ => by rw [hyl]; exact hSw, fun h => absurd (show (0 : Int) ≤ (Jaa G.p ms.l).2.2.length by omega) h⟩ ?_
 intro s t hs
 obtain ⟨hs1, hs2, hs3, hs4, hs5, hs6, hs7⟩ := hs
 refine Cs (Nz 2 ?_)
 refine Wk 1 (show Det _ _ _ _ (.int .i64 ((Jaa G.p ms.l).2.2.length : Int)) from Nc (s := ⟨v37, (Jaa G.p ms.l).2.2⟩)) ?_
 refine Wd (Qc (CS.cond rfl ?_ ?_))<;>intro hc4<;>try simp only [bq] at hc4
 ·
  refine Ck (Qc (Cs (Ce (Cs (Nz 2 ?_)))))
  refine Wk 2 (show Det _ _ _ _ (.int .i64 ((Jaa G.p ms.l).2.2.length : Int)) from Nc (s := ⟨v37, (Jaa G.p ms.l).2.2⟩)) ?_
  refine Wf 0 rfl rfl (fun hg => Fm) ?_
  refine Wf 0 rfl rfl (fun hg => Fm) ?_
  refine Wf 0 rfl rfl (fun hg => Jbi (s := ⟨v37, (Jaa G.p ms.l).2.2⟩) sl40 (eg_ hg rfl) (eg_ hg rfl) h37 rfl (by (try simp only [bq] at hg); omega) (by (try simp only [bq] at hg); show s.1 < ((Jaa G.p ms.l).2.2.length : Int); omega)) ?_
  refine Wf 0 rfl rfl (fun hg => Ff) ?_
  refine Wf 0 rfl rfl (fun hg => show Det _ _ _ _ (.int .i64 (nth (Jaa G.p ms.l).2.2 s.1).k) from Jn9 (jj := 2) (s := ⟨v37, (Jaa G.p ms.l).2.2⟩) 7 1 rfl (eg_ hg rfl) rfl ⟨by (try simp only [bq] at hg); omega, by (try simp only [bq] at hg); show s.1 < ((Jaa G.p ms.l).2.2.length : Int); omega⟩ (by decide) rfl tk3) ?_
  refine Wf 0 rfl rfl (fun hg => Fq) ?_
  refine Wk 0 Po ?_
  refine Wd (Qc (CS.cond rfl ?_ ?_))<;>intro hc5<;>try simp only [bq] at hc5
  ·
   have hkk : s.1 = (Jaa G.p ms.l).2.2.length ∨ (nth (Jaa G.p ms.l).2.2 s.1).k = 1 := by have h9 := hc5; first | exact h9 | (simp at h9; omega)
   obtain ⟨hw1, hw2, hw3⟩ := Jwq hs1 (by omega) hkk (hs6 (by omega))
   have hnr : s.2.1 < ra.l.length := by omega
   refine Cs (Nz 3 ?_)
   refine Wt 0 rfl rfl (fun hg => Fm) ?_
   refine Wt 0 rfl rfl (fun hg => Fm) ?_
   refine Wt 0 rfl rfl (fun hg => Fm) ?_
   refine Wt 0 rfl rfl (fun hg => Jbi (s := ra) sl33 (eg_ hg rfl) (eg_ hg rfl) hra1 rfl (by (try simp only [bq] at hg); omega) (by (try simp only [bq] at hg); omega)) ?_
   refine Wt 0 rfl rfl (fun hg => Jnf (s := ra) (jj := 1) rfl (fun u h ↦ h.1) (eg_ hg rfl) rfl ⟨by (try simp only [bq] at hg); omega, by (try simp only [bq] at hg); omega⟩ rfl tk56) ?_
   refine Wt 0 rfl rfl (fun hg => Cb rfl (ec_ (eg_ hg rfl) (ec_ (eg_ hg rfl) en_)) Jjt (fun u hu => Jbz _ _ _ _ u (Jal hu (j := 0) rfl) ((hu.ro (j := 1) rfl).1.at (i := s.2.1) (by (try simp only [bq] at hg); omega) (by omega) : SlT cInt u _).ints)) ?_
   refine Wt 0 rfl rfl (fun hg => Fn) ?_
   refine Wk 0 Pa ?_
   refine Wd (Qc (CS.cond rfl ?_ ?_))<;>intro hc6<;>try simp only [bq] at hc6
   ·
    exfalso
    obtain ⟨z1, z2⟩ := hc6
    rcases hw1 with h | ⟨h, e⟩
    ·
     omega
    rw [← hra, Jnj (by omega) (by omega)] at e; exact absurd e (by simpa using z2)
   refine Ck (Qc (Nz 1 ?_))
   refine Wk 1 Za ?_
   refine Wd (Qc (Cv (Qe (Qx (Qc (Ny 1 ?_))))))
   refine Wk 1 Za ?_
   exact Wd (QS.head ((s.1 + 1, s.2.1 + 1, s.2.2)) rfl rfl ⟨⟨by simp; omega, by simp; omega, by simp; omega, by simp; omega, hs5, fun h => hw3 (by simp only at h; omega), fun h => by have h9 := hw2 (by simp only at h; omega); show s.2.1 + 1 = _; omega⟩, by simp; omega⟩)
  have hkk : ¬ s.1 = (Jaa G.p ms.l).2.2.length ∧ ¬ (nth (Jaa G.p ms.l).2.2 s.1).k = 1 := by have h9 := hc5; first | exact h9 | (simp at h9; omega)
  obtain ⟨q1, q2, q3, q4, q5, q6⟩ := Jwh hs1 (by omega) hkk.2 (hs6 (by omega))
  refine Ck (Qc (Nz 2 ?_))
  refine Wk 0 (Jbi (s := ⟨v37, (Jaa G.p ms.l).2.2⟩) sl40 rfl rfl h37 rfl (by omega) (by show s.1 < ((Jaa G.p ms.l).2.2.length : Int); omega)) ?_
  refine Wk 0 (show Det _ _ _ _ (.agg (cEntry.cells (nth (Jaa G.p ms.l).2.2 s.1)).toArray) from Jfo (jj := 2) (s := ⟨v37, (Jaa G.p ms.l).2.2⟩) rfl rfl rfl ⟨by omega, by show s.1 < ((Jaa G.p ms.l).2.2.length : Int); omega⟩ rfl tk73) ?_
  refine Wl 0 zv73 (fun _ => rfl) (fun _ => rfl) fun b21 hb21 => ?_
  refine Wv 0 0 ?_
  refine Wd (Qc (Cs (Cs (Dr Jai 1 ?_))))
  refine Dk 2 (Ba 0) ?_
  refine Df 0 rfl rfl (fun hg => Ff) ?_
  refine Df 0 rfl rfl (fun hg => Ba 0) ?_
  refine Df 0 rfl rfl (fun hg => Fl) ?_
  refine Dk 1 Po ?_
  refine Df 0 rfl rfl (fun hg => Ff) ?_
  refine Df 0 rfl rfl (fun hg => Ba 0) ?_
  refine Df 0 rfl rfl (fun hg => Fm) ?_
  refine Df 0 rfl rfl (fun hg => Nb 1 (eg_ hg rfl)) ?_
  refine Df 0 rfl rfl (fun hg => Fh) ?_
  refine Dk 1 Po ?_
  refine Df 0 rfl rfl (fun hg => Fm) ?_
  refine Df 0 rfl rfl (fun hg => Fl) ?_
  refine Dk 1 Po ?_
  refine Df 0 rfl rfl (fun hg => Fm) ?_
  refine Df 0 rfl rfl (fun hg => Ff) ?_
  refine Df 0 rfl rfl (fun hg => Ba 0) ?_
  refine Df 0 rfl rfl (fun hg => Xb 1 (eg_ hg rfl)) ?_
  refine Df 0 rfl rfl (fun hg => Ib 1) ?_
  refine Df 0 rfl rfl (fun hg => Ff) ?_
  refine Df 0 rfl rfl (fun hg => Ba 0) ?_
  refine Df 0 rfl rfl (fun hg => Fq) ?_
  refine Dk 0 Po ?_
  refine Dd (Qc (CS.cond rfl ?_ ?_))<;>intro hc7<;>try simp only [bq] at hc7
  ·
   exfalso
   rcases hc7 with (((h | h) | h) | h) | h <;> first | exact h q1 | omega | exact q5 h
  refine Ck (Qc (Ny 2 ?_))
  refine Wk 1 (Ba 0) ?_
  refine Wk 0 (Ba 0) ?_
  refine Wk 0 (Xb 1) ?_
  refine WS.storeOI (j := 1) rfl rfl (by omega) rfl tk3 rfl ?_
  refine Wd (Qb (Qc (Ny 1 ?_)))
  refine Wk 1 Za ?_
  refine Wd ?_
  refine QS.sel [1, 1, 1, 1] rfl ?_
  exact QS.head ((s.1 + 1, s.2.1, s.2.2.set (nth (Jaa G.p ms.l).2.2 s.1).a.toNat (nth (Jaa G.p ms.l).2.2 s.1).b)) rfl rfl ⟨⟨by simp; omega, by simp; omega, hs3, hs4, by simp only [List.length_set]; exact hs5, fun _ => q6, fun h => by simp only at h; omega⟩, by simp; omega⟩
 refine Cv (Qe (Qe (Qx (Qc (Nz 2 ?_)))))
 refine Wk 2 (Jda (s := ra) sl33 rfl hra1) ?_
 refine Wt 0 rfl rfl (fun hg => Cb rfl rfl Jft (fun u hu => Jbu u g (hW.st hu))) ?_
 refine Wk 1 Pa ?_
 exact Wd (Qc (Cr (out1 rfl rfl (Jab (by rw [hs7 (by omega)]; simp)))))
end Go.Proofs.YtohneogdekdboaaGreatDoor
