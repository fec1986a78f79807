/- Contracts of functions, printed by a program of the prover (gen.py). -/
import Derived.Test.YtaeagngfhceceaaGreatDoorZz
import Derived.Test.YtaeagngfhceceaaGreatDoorY0
import Derived.Test.YtaeagngfhceceaaGreatDoorY11
import Derived.Test.YtaeagngfhceceaaGreatDoorY12
import Derived.Test.YtaeagngfhceceaaGreatDoorY16
import Derived.Test.YtaeagngfhceceaaGreatDoorY17
import Derived.Test.YtaeagngfhceceaaGreatDoorY18
import Derived.Test.YtaeagngfhceceaaGreatDoorY23
import Derived.Test.YtaeagngfhceceaaGreatDoorY26
import Derived.Test.YtaeagngfhceceaaGreatDoorY27
import Derived.Test.YtaeagngfhceceaaGreatDoorY28
import Derived.Test.YtaeagngfhceceaaGreatDoorY35
set_option maxHeartbeats 8000000
namespace Go.Proofs.YtaeagngfhceceaaGreatDoor
open Go.RowKit Go.Proofs
set_option maxRecDepth 100000
set_option linter.unusedVariables false
set_option linter.unusedSimpArgs false
theorem PlayKnows_c (G : Game) (w : World) (hG : GameOk w G) (g : Sl ByteArray) (hW : GOk w g) (ms : Sl Move) (hk : SlT cMove w ms) :
  Calls Tryz.prog 9 #[.agg #[G.rm.pls.v, G.rm.ths.v, G.rm.prs.v, G.rm.wys.v, G.rm.acs.v, G.rm.aus.v, .int .i64 G.rm.ply, G.rm.gl.v, G.lks.v, G.cds.v, G.nts.v, .int .i64 G.tr], ms.v] w (RetB w (.bool true)) := by
 have lms := hk.le
 have klk := hG.lks
 have llk := hG.lks.le
 refine enter Tryz.func9 rfl rfl (Nat.le_of_ble_eq_true rfl) ?_
 refine Nz 0 ?_
 refine Wb 1 rfl rfl (fun _ => rfl) (fun _ => rfl) fun b2 hb2 => ?_
 refine Wd (Qc (Cs (Nz 0 ?_)))
 refine Wk 0 (by first | exact det_loadb0 (j := 0) rfl rfl tk36 | exact det_loadbN (j := 0) rfl rfl (by rfl) tk36 | exact det_loadwN rfl (by assumption) (by rfl) tk36 | exact det_loadbK (n := 12) (j := 0) rfl rfl rfl rfl tk36) ?_
 refine Wk 1 (Cb rfl rfl ent14 (fun u hu => FarG_c G u (hG.st hu))) ?_
 refine Wf 0 rfl rfl (fun hg => Fm) ?_
 refine Wf 0 rfl rfl (fun hg => Nc (eg_ hg rfl)) ?_
 refine Wf 0 rfl rfl (fun hg => Fg) ?_
 refine Wk 1 Po ?_
 refine Wf 0 rfl rfl (fun hg => by first | exact det_loadb0 (j := 0) rfl rfl tk36 | exact det_loadbN (j := 0) rfl rfl (by rfl) tk36 | exact det_loadwN rfl (by assumption) (by rfl) tk36 | exact det_loadbK (n := 12) (j := 0) rfl rfl rfl rfl tk36) ?_
 refine Wf 0 rfl rfl (fun hg => Cb rfl (ec_ (eg_ hg rfl) en_) ent15 (fun u hu => GRCheck_c G u (hG.st hu) (clB_iff.1 (by cases hq : clB (NearG G) <;> simp_all)))) ?_
 refine Wf 0 rfl rfl (fun hg => Fr) ?_
 refine Wk 0 Po ?_
 refine Wd (Qc (CS.cond rfl ?_ ?_))<;>intro hc1<;>try simp only [bq] at hc1
 ·
  refine Nz 0 ?_
  refine Wk 1 (Cb rfl rfl ent27 (fun u hu => worksG_c u g (hW.st hu))) ?_
  exact Wd (Qc (Cr (Qr (out1 rfl rfl retB))))
 ·
  have hn : NearG G := clB_iff.1 hc1.1.1
  have hck : checkG G.p = 0 := hc1.2
  have hV := good_of hck
  have hml : ms.l.length ≤ 30 := by omega
  have hnl := hV.nl
  refine Ck (Qc (Nz 0 ?_))
  refine Wk 0 (by first | exact det_loadb0 (j := 0) rfl rfl tk36 | exact det_loadbN (j := 0) rfl rfl (by rfl) tk36 | exact det_loadwN rfl (by assumption) (by rfl) tk36 | exact det_loadbK (n := 12) (j := 0) rfl rfl rfl rfl tk36) ?_
  refine Wc rfl rfl ent17 (fun u hu => CopyG_c G u (hG.st hu) hn) (fun _ => rfl) ?_; rintro c ⟨hcp, uc, hcok⟩
  have hnc := near_p hcp hn
  have o1 := Sl.one hcok.rm.pls
  have o2 := Sl.one hcok.rm.ths
  have o3 := Sl.one hcok.rm.prs
  have o4 := Sl.one hcok.rm.wys
  have o5 := Sl.one hcok.rm.acs
  have o6 := Sl.one hcok.rm.aus
  have o7 := Sl.one hcok.rm.gl
  have o8 := Sl.one hcok.lks
  have o9 := Sl.one hcok.cds
  have o10 := Sl.one hcok.nts
  refine Wl 0 zv36 (fun _ => rfl) (fun _ => rfl) fun b5 hb5 => ?_
  refine Wv 0 0 ?_
  refine Wd (Qc (Nz 0 ?_))
  refine Wk 0 (by first | exact det_loadb0 (j := 0) rfl rfl tk36 | exact det_loadbN (j := 0) rfl rfl (by rfl) tk36 | exact det_loadwN rfl (by assumption) (by rfl) tk36 | exact det_loadbK (n := 12) (j := 0) rfl rfl rfl rfl tk36) ?_
  refine Wc rfl rfl ent43 (fun u hu => (by have q := BeginI_c c u (hu.ro (j := 1) rfl) g (hW.st hu) hnc; rw [hcp] at q; exact q)) (fun _ => rfl) ?_; rintro x ⟨hxx, ux, hxok⟩
  obtain ⟨hxa, hxb, hxc⟩ := hxok.st.ones
  have hxd := Sl.one hxok.rd
  refine Wz 3 ?_
  refine Wl 0 zv68 (fun _ => rfl) (fun _ => rfl) fun b6 hb6 => ?_
  refine Wv 1 0 ?_
  refine Wd (Qc (Cs (Nz 2 ?_)))
  refine Wd (Qc (CS.cond rfl ?_ ?_))<;>intro hc2<;>try simp only [bq] at hc2
  ·
   have hb27 : (BeginGV G.p).1 = 27 := begin_27 hck hc2
   refine Nz 3 ?_
   refine Wt 0 rfl rfl (fun hg => Cb rfl rfl ent27 (fun u hu => worksG_c u g (hW.st hu))) ?_
   refine Wk 1 Pa ?_
   exact Wd (Qc (Cr (Qr (out1 rfl rfl (retBe (by rw [hb27]; rfl))))))
  ·
   have hb0 : (BeginGV G.p).1 = 0 := hc2
   have hq0 := begin_pos hb0
   refine Ck (Qc (Nz 1 ?_))
   refine Wk 0 (by first | exact det_loadb (j := 4) rfl rfl rfl tk32 | exact det_loadw rfl (by assumption) rfl tk32) ?_
   refine Wk 0 Nc ?_
   refine WS.makeInts sl42 rfl rfl zv3 (by omega) (by omega) (by omega) (fun _ => rfl) ?_; intro v48; refine WS.oc (j := 0) rfl (fun hv48 => ?_)
   refine Wz 1 ?_
   refine Wd (Qc (Cs (Nz 1 ?_)))
   refine Wd (Qc (Ce ?_))
   refine CS.loopM (σ := Int × Pos × List Int) [4, 10, 11, 12, 13, 14, 15, 16, 17, 49, 50, 51, 52, 53, 54, 55, 56, 57, 58, 59, 60, 61, 62, 63, 64, 65, 66, 67, 68, 69, 70, 71, 72, 73, 74, 75, 76, 77, 78, 79, 80, 81, 82, 83, 84, 85, 86, 87, 88, 89, 90, 91, 92, 93, 94, 95, 96, 97, 98, 99, 100, 101, 102, 103, 104, 105, 106, 107, 108, 109, 110, 111, 112, 113, 114, 115, 116, 117, 118, 119, 120, 121, 122, 123, 124, 125, 126, 127, 128, 129, 130, 131, 132, 133, 134, 135, 136, 137, 138, 139, 140, 141, 142, 143, 144, 145, 146, 147, 148, 149, 150, 151, 152, 153, 154, 155, 156, 157, 158, 159, 160, 161, 162, 163, 164, 165, 166, 167] (fun s => [(9, .int .i64 s.1)]) (fun s => [oints 3 v48 s.2.2, blk b6 [s.2.1.st.ths.v, s.2.1.st.prs.v, s.2.1.st.pls.v, s.2.1.rd.v] 68, roS fun u => PosOk u s.2.1, blk b5 [c.rm.pls.v, c.rm.ths.v, c.rm.prs.v, c.rm.wys.v, c.rm.acs.v, c.rm.aus.v, .int .i64 c.rm.ply, c.rm.gl.v, c.lks.v, c.cds.v, c.nts.v, .int .i64 c.tr] 36, roS fun u => GameOk u c, blk b2 [G.rm.pls.v, G.rm.ths.v, G.rm.prs.v, G.rm.wys.v, G.rm.acs.v, G.rm.aus.v, .int .i64 G.rm.ply, G.rm.gl.v, G.lks.v, G.cds.v, G.nts.v, .int .i64 G.tr] 36]) (fun s => 0 ≤ s.1 ∧ s.1 ≤ ms.l.length ∧ posG G.p s.2.1.x = 0 ∧ (∃ u0, PosOk u0 s.2.1) ∧ s.2.2.length = G.lks.l.length ∧ (0 < s.1 → ∀ k : Int, 0 ≤ k → k < G.lks.l.length → readN G.p k (cluN G.p s.2.1.rd.l k) ≤ nth s.2.2 k)) (fun s => (ms.l.length + 1 - s.1).toNat) (0, x, List.replicate (G.lks.l.length : Int).toNat 0) (fun _ _ => rfl) rfl rfl ⟨by simp, by simp, by rw [hxx]; exact hq0, ⟨_, hxok⟩, by simp, fun h => absurd h (by simp)⟩ ?_
   intro i t hs
   obtain ⟨hi1, hi2, hi3, ⟨ui, hiok⟩, hi5, hi6⟩ := hs
   obtain ⟨hya, hyb, hyc⟩ := hiok.st.ones
   have hyd := Sl.one hiok.rd
   have hP := goodp_of hi3
   have hsmy := hP.small
   have hpl := hP.ln
   have hyrd := hiok.rd
   refine Cs (Nz 2 ?_)
   refine Wk 1 Nc ?_
   refine Wd (Qc (CS.cond rfl ?_ ?_))<;>intro hc3<;>try simp only [bq] at hc3
   ·
    refine Ck (Qc (Cs (Ce (Cs ?_))))
    refine CS.drawnAll (k := 9) mixed rfl rfl ?_
    refine Ak 0 [] rfl (by first | exact det_loadb0 (j := 3) rfl rfl tk36 | exact det_loadbN (j := 3) rfl rfl (by rfl) tk36 | exact det_loadwN rfl (by assumption) (by rfl) tk36 | exact det_loadbK (n := 12) (j := 3) rfl rfl rfl rfl tk36) ?_
    refine Ak 1 [] rfl (by first | exact det_loadb0 (j := 1) rfl rfl tk68 | exact det_loadbN (j := 1) rfl rfl (by rfl) tk68 | exact det_loadwN rfl (by assumption) (by rfl) tk68 | exact det_loadbK (n := 4) (j := 1) rfl rfl rfl rfl tk68) ?_
    refine Ao 2 rfl ?_
    refine Wc rfl rfl ent29 (fun u hu => CopyPos_c i.2.1 u (hu.ro (j := 2) rfl) hsmy) (fun _ => rfl) ?_; rintro z ⟨hzx, uz, hzok⟩
    obtain ⟨hza, hzb, hzc⟩ := hzok.st.ones
    have hzd := Sl.one hzok.rd
    refine Wd (Qa ?_)
    refine Ao 3 rfl ?_
    refine Wc rfl rfl ent37 (fun u hu => (by have q := OpensI_c c u (hu.ro (j := 5) rfl) g (hW.st hu) hnc z (hu.ro (j := 0) rfl); rw [hcp, hzx] at q; exact q)) (fun _ => rfl) ?_; rintro ol ⟨uol, hol⟩
    rw [show OpensV G.p i.2.1.x = (0, ((iotaI G.lks.l.length).map (openB G.p i.2.1.rd.l))) from if_pos hi3] at hol ⊢
    refine Wd (Qa ?_)
    refine Ar [4,5,6,7,8] ?_
    refine Ae ?_
    refine Qc (Cs (Nz 3 ?_))
    refine Wf 0 rfl rfl (fun hg => Fm) ?_
    refine Wf 0 rfl rfl (fun hg => Nc (s := ⟨ol, ((iotaI G.lks.l.length).map (openB G.p i.2.1.rd.l))⟩) (eg_ hg rfl)) ?_
    refine Wf 0 rfl rfl (fun hg => Ff) ?_
    refine Wf 0 rfl rfl (fun hg => by first | exact det_loadb (j := 7) (eg_ hg rfl) rfl rfl tk32 | exact det_loadw (eg_ hg rfl) (by assumption) rfl tk32) ?_
    refine Wf 0 rfl rfl (fun hg => Nc (eg_ hg rfl)) ?_
    refine Wf 0 rfl rfl (fun hg => Fr) ?_
    refine Wk 0 Po ?_
    refine Wd (Qc (CS.cond rfl ?_ ?_))<;>intro hc4<;>try simp only [bq] at hc4
    ·
     exact absurd hc4 (by simp [iotaI])
    ·
     refine Ck (Qc (Cs (Nz 1 ?_)))
     refine Wd (Qc (Ce ?_))
     refine CS.sel [2, 0, 1, 1, 1, 1, 1] rfl ?_
     refine CS.loopM (σ := Int × List Int) [4, 13, 14, 72, 73, 74, 75, 76, 77, 78, 79, 80, 81, 82, 83, 84, 85, 86, 87, 88, 89, 90, 91, 92, 93, 94, 95, 96, 97, 98, 99, 100, 101, 102, 103, 104, 105, 106, 107, 108, 109, 110, 111, 112, 113, 114, 115, 116, 117, 118] (fun s => [(12, .int .i64 s.1)]) (fun s => [oints 3 v48 s.2, roT cBool ⟨ol, ((iotaI G.lks.l.length).map (openB G.p i.2.1.rd.l))⟩, blk b6 [i.2.1.st.ths.v, i.2.1.st.prs.v, i.2.1.st.pls.v, i.2.1.rd.v] 68, roS fun u => PosOk u i.2.1, blk b5 [c.rm.pls.v, c.rm.ths.v, c.rm.prs.v, c.rm.wys.v, c.rm.acs.v, c.rm.aus.v, .int .i64 c.rm.ply, c.rm.gl.v, c.lks.v, c.cds.v, c.nts.v, .int .i64 c.tr] 36, roS fun u => GameOk u c, blk b2 [G.rm.pls.v, G.rm.ths.v, G.rm.prs.v, G.rm.wys.v, G.rm.acs.v, G.rm.aus.v, .int .i64 G.rm.ply, G.rm.gl.v, G.lks.v, G.cds.v, G.nts.v, .int .i64 G.tr] 36]) (fun s => 0 ≤ s.1 ∧ s.1 ≤ G.lks.l.length ∧ s.2.length = G.lks.l.length ∧ (∀ j : Int, 0 ≤ j → j < s.1 → nth s.2 j = readN G.p j (cluN G.p i.2.1.rd.l j)) ∧ ∀ j : Int, s.1 ≤ j → j < G.lks.l.length → nth s.2 j = nth i.2.2 j) (fun s => (G.lks.l.length - s.1).toNat) (0, i.2.2) (fun _ _ => rfl) rfl rfl ⟨by simp, by simp, hi5, fun j a b => absurd b (by simp; omega), fun j _ _ => rfl⟩ ?_
     intro k t hs
     obtain ⟨hk1, hk2, hk3, hk4, hk5⟩ := hs
     refine Cs (Nz 2 ?_)
     refine Wk 1 (Nb 0) ?_
     refine Wd (Qc (CS.cond rfl ?_ ?_))<;>intro hc5<;>try simp only [bq] at hc5
     ·
      have hkl : k.1 < G.lks.l.length := by omega
      have hrv := rdV (G := G) (p := i.2.1) hi3 hk1 hkl
      have hge := readN_pos hV hk1 hkl (ns := cluN G.p i.2.1.rd.l k.1) clu_of
      have hop := op_at (G := G) (rd := i.2.1.rd.l) hk1 hkl
      have hbk := hk5 k.1 (Int.le_refl _) hkl
      have hle : 0 < i.1 → (readN G.p k.1 (cluN G.p i.2.1.rd.l k.1)) ≤ nth k.2 k.1 := fun h => by rw [hbk]; exact hi6 h k.1 hk1 hkl
      refine Ck (Qc (Cs (Ce (Cs ?_))))
      refine CS.drawnAll (k := 10) mixed rfl rfl ?_
      refine Ak 0 [] rfl (by first | exact det_loadb0 (j := 4) rfl rfl tk36 | exact det_loadbN (j := 4) rfl rfl (by rfl) tk36 | exact det_loadwN rfl (by assumption) (by rfl) tk36 | exact det_loadbK (n := 12) (j := 4) rfl rfl rfl rfl tk36) ?_
      refine Ak 1 [3] rfl (by first | exact det_loadb0 (j := 2) rfl rfl tk68 | exact det_loadbN (j := 2) rfl rfl (by rfl) tk68 | exact det_loadwN rfl (by assumption) (by rfl) tk68 | exact det_loadbK (n := 4) (j := 2) rfl rfl rfl rfl tk68) ?_
      refine Ao 2 rfl ?_
      refine Wc rfl rfl ent29 (fun u hu => CopyPos_c i.2.1 u (hu.ro (j := 3) rfl) hsmy) (fun _ => rfl) ?_; rintro z2 ⟨hz2x, uz2, hz2ok⟩
      obtain ⟨hz2a, hz2b, hz2c⟩ := hz2ok.st.ones
      have hz2d := Sl.one hz2ok.rd
      refine Wd (Qa ?_)
      refine Ao 4 rfl ?_
      refine Wk 0 (Cb rfl rfl ent34 (fun u hu => (by have q := ReadingsI_c c u (hu.ro (j := 6) rfl) g (hW.st hu) hnc z2 (hu.ro (j := 0) rfl) k.1; rw [hcp, hz2x, hrv] at q; exact q))) ?_
      refine Wd (Qa ?_)
      refine Ar [5,6,7,8,9] ?_
      refine Ae ?_
      refine Qc (Cs (Cs (Dr mixed 3 ?_)))
      refine Df 0 rfl rfl (fun hg => Fm) ?_
      refine Df 0 rfl rfl (fun hg => Fl) ?_
      refine Dk 1 Po ?_
      refine Df 0 rfl rfl (fun hg => Fm) ?_
      refine Df 0 rfl rfl (fun hg => Fg) ?_
      refine Df 0 rfl rfl (fun hg => Fm (eg_ hg rfl)) ?_
      refine Dn 0 rfl rfl rfl (fun hg => Fm) ?_
      refine Dn 0 rfl rfl rfl (fun hg => Fm) ?_
      refine Dn 0 rfl rfl rfl (fun hg => Fm) ?_
      refine Dn 0 rfl rfl rfl (fun hg => Xb 1 (eg_ hg rfl)) ?_
      refine Dn 0 rfl rfl rfl (fun hg => Ib 1) ?_
      refine Dn 0 rfl rfl rfl (fun hg => Fg) ?_
      refine Df 0 rfl rfl (fun hg => det_pick_and (eg_ hg rfl) (ev_nestT hg rfl) rfl) ?_
      refine Dk 1 Po ?_
      refine Df 0 rfl rfl (fun hg => Fm) ?_
      refine Df 0 rfl rfl (fun hg => Fm) ?_
      refine Df 0 rfl rfl (fun hg => Xc (s := ⟨ol, ((iotaI G.lks.l.length).map (openB G.p i.2.1.rd.l))⟩) (eg_ hg rfl) (eg_ hg rfl) (h1 := (by rw [List.length_map, iota_len]; omega))) ?_
      refine Df 0 rfl rfl (fun hg => det_ldR1 (jj := 2) (s := ⟨ol, ((iotaI G.lks.l.length).map (openB G.p i.2.1.rd.l))⟩) rfl (eg_ hg rfl) rfl rfl ⟨by omega, by rw [List.length_map, iota_len]; omega⟩ rfl tk4) ?_
      refine Df 0 rfl rfl (fun hg => Fm) ?_
      refine Df 0 rfl rfl (fun hg => Ff) ?_
      refine Df 0 rfl rfl (fun hg => by first | exact det_loadb (j := 7) (eg_ hg rfl) rfl rfl tk3 | exact det_loadw (eg_ hg rfl) (by assumption) rfl tk3) ?_
      refine Df 0 rfl rfl (fun hg => Fk) ?_
      refine Df 0 rfl rfl (fun hg => det_neb (eg_ hg rfl) (eg_ hg rfl) Tryz.underlying4) ?_
      refine Dk 0 Po ?_
      refine Dd (Qc (CS.cond rfl ?_ ?_))<;>intro hc6<;>try simp only [bq] at hc6
      ·
       exfalso
       simp [hop] at hc6
       omega
      ·
       refine Ck (Qc (Ny 3 ?_))
       refine Wk 0 (Xb 1) ?_
       refine WS.storeOI (j := 1) rfl rfl (by omega) rfl tk3 rfl ?_
       refine Wd (Qb (Qc (Ny 1 ?_)))
       refine Wk 1 Za ?_
       refine Wd ?_
       refine QS.sel [1, 1, 1, 1, 1, 1, 1] rfl ?_
       exact QS.head ((k.1 + 1, k.2.set k.1.toNat (readN G.p k.1 (cluN G.p i.2.1.rd.l k.1)))) rfl rfl ⟨⟨by simp; omega, by simp; omega, by simp; exact hk3, fun j a b => by
           by_cases e : j = k.1
           ·
            subst e; exact nth_set_eq hk1 (by omega)
           ·
            show nth (k.2.set k.1.toNat _) j = _
            simp only at b
            rw [nth_set_ne hk1 a e]; exact hk4 j a (by omega), fun j a b => by
           simp only at a
           show nth (k.2.set k.1.toNat _) j = _
           rw [nth_set_ne hk1 (by omega) (by omega)]; exact hk5 j (by omega) b⟩, by simp; omega⟩
     ·
      have hkd : k.1 = G.lks.l.length := by omega
      refine Cv (Qe (Qe (Qx (Qc (Cs (Nz 2 ?_))))))
      refine Wk 1 Nc ?_
      refine Wd (Qc (CS.cond rfl ?_ ?_))<;>intro hc7<;>try simp only [bq] at hc7
      ·
       refine Cv (Qe (Qn (Qe (Qe (Qx (Qc (Nz 0 ?_)))))))
       refine Wk 1 (Cb rfl rfl ent27 (fun u hu => worksG_c u g (hW.st hu))) ?_
       exact Wd (Qc (Cr (out1 rfl rfl retB)))
      ·
       refine Ck (Qc ?_)
       refine CS.cut (σ := Nat × Pos) [123, 124, 125, 126, 127, 128, 129, 130, 131, 132, 133] (fun s => [(15, .pointer (some ⟨s.1, 0, none⟩)), (16, .int .i64 (StepGV G.p i.2.1.x (nth ms.l i.1)).1)]) (fun s => [blk s.1 [s.2.st.ths.v, s.2.st.prs.v, s.2.st.pls.v, s.2.rd.v] 68, roS fun u => PosOk u s.2, oints 3 v48 k.2, blk b6 [i.2.1.st.ths.v, i.2.1.st.prs.v, i.2.1.st.pls.v, i.2.1.rd.v] 68, roS fun u => PosOk u i.2.1, blk b5 [c.rm.pls.v, c.rm.ths.v, c.rm.prs.v, c.rm.wys.v, c.rm.acs.v, c.rm.aus.v, .int .i64 c.rm.ply, c.rm.gl.v, c.lks.v, c.cds.v, c.nts.v, .int .i64 c.tr] 36, roS fun u => GameOk u c, blk b2 [G.rm.pls.v, G.rm.ths.v, G.rm.prs.v, G.rm.wys.v, G.rm.acs.v, G.rm.aus.v, .int .i64 G.rm.ply, G.rm.gl.v, G.lks.v, G.cds.v, G.nts.v, .int .i64 G.tr] 36]) (fun s => s.2.x = (StepGV G.p i.2.1.x (nth ms.l i.1)).2 ∧ ∃ u0, PosOk u0 s.2) (fun _ _ => rfl) ?_ ?_
       ·
        refine CS.drawnAll (k := 14) mixed rfl rfl ?_
        refine Ak 0 [] rfl (by first | exact det_loadb0 (j := 4) rfl rfl tk36 | exact det_loadbN (j := 4) rfl rfl (by rfl) tk36 | exact det_loadwN rfl (by assumption) (by rfl) tk36 | exact det_loadbK (n := 12) (j := 4) rfl rfl rfl rfl tk36) ?_
        refine Ak 1 [3,4] rfl (by first | exact det_loadb0 (j := 2) rfl rfl tk68 | exact det_loadbN (j := 2) rfl rfl (by rfl) tk68 | exact det_loadwN rfl (by assumption) (by rfl) tk68 | exact det_loadbK (n := 4) (j := 2) rfl rfl rfl rfl tk68) ?_
        refine Ak 5 [] rfl Xc ?_
        refine Ak 6 [] rfl (by first | exact det_ldU rfl (by assumption) rfl ⟨(by omega), (by omega)⟩ rfl tk91 | exact det_ldRN (jj := 1) rfl rfl rfl ⟨(by omega), (by omega)⟩ rfl tk91 | exact det_ldRN (jj := 3) rfl rfl rfl ⟨(by omega), (by omega)⟩ rfl tk91 | exact det_ldRN (jj := 5) rfl rfl rfl ⟨(by omega), (by omega)⟩ rfl tk91) ?_
        refine AS.two (i := 2) (j := 11) (by kernel_rfl) rfl rfl (by first | exact fun _ h => h | exact fun _ h => h.sub (by repeat first | exact List.Sublist.refl _ | apply List.Sublist.cons_cons | apply List.Sublist.cons)) rfl rfl ?_ ?_
        ·
         refine Wc rfl rfl ent29 (fun u hu => CopyPos_c i.2.1 u (hu.ro (j := 3) rfl) hsmy) (fun _ => rfl) ?_; rintro z3 ⟨hz3x, uz3, hz3ok⟩
         obtain ⟨hz3a, hz3b, hz3c⟩ := hz3ok.st.ones
         have hz3d := Sl.one hz3ok.rd
         refine Wd (Qa ?_)
         refine AS.two (i := 7) (j := 11) (by kernel_rfl) rfl rfl (by first | exact fun _ h => h | exact fun _ h => h.sub (by repeat first | exact List.Sublist.refl _ | apply List.Sublist.cons_cons | apply List.Sublist.cons)) rfl rfl ?_ ?_
         ·
          refine Wc rfl rfl ent48 (fun u hu => (by have q := StepI_c c u (hu.ro (j := 6) rfl) g (hW.st hu) hnc z3 (hu.ro (j := 0) rfl) (nth ms.l i.1); rw [hcp, hz3x] at q; exact q)) (fun _ => rfl) ?_; rintro x3 ⟨hx3x, ux3, hx3ok⟩
          obtain ⟨hx3a, hx3b, hx3c⟩ := hx3ok.st.ones
          have hx3d := Sl.one hx3ok.rd
          refine Wd (Qa ?_)
          refine Ar [8,9,10] ?_
          refine Ao 11 rfl ?_
          refine Wl 0 zv68 (fun _ => rfl) (fun _ => rfl) fun b15 hb15 => ?_
          refine Wd (Qa ?_)
          refine Ao 12 rfl ?_
          refine Wv 0 0 ?_
          refine Wd (Qa ?_)
          refine Ar [13] ?_
          refine Ae ?_
          refine QS.sel [0, 0, 1, 2, 2, 2, 2, 2] rfl ?_
          exact QS.head ((b15, x3)) rfl rfl ⟨hx3x, ux3, hx3ok⟩
         ·
          refine Wl 0 zv68 (fun _ => rfl) (fun _ => rfl) fun b15 hb15 => ?_
          refine Wd (Qa ?_)
          refine Ao 7 rfl ?_
          refine Wc rfl rfl ent48 (fun u hu => (by have q := StepI_c c u (hu.ro (j := 7) rfl) g (hW.st hu) hnc z3 (hu.ro (j := 1) rfl) (nth ms.l i.1); rw [hcp, hz3x] at q; exact q)) (fun _ => rfl) ?_; rintro x3 ⟨hx3x, ux3, hx3ok⟩
          obtain ⟨hx3a, hx3b, hx3c⟩ := hx3ok.st.ones
          have hx3d := Sl.one hx3ok.rd
          refine Wd (Qa ?_)
          refine Ar [8,9,10] ?_
          refine Ao 12 rfl ?_
          refine Wv 0 1 ?_
          refine Wd (Qa ?_)
          refine Ar [13] ?_
          refine Ae ?_
          refine QS.sel [1, 0, 1, 2, 2, 2, 2, 2] rfl ?_
          exact QS.head ((b15, x3)) rfl rfl ⟨hx3x, ux3, hx3ok⟩
        ·
         refine Wl 0 zv68 (fun _ => rfl) (fun _ => rfl) fun b15 hb15 => ?_
         refine Wd (Qa ?_)
         refine Ao 2 rfl ?_
         refine Wc rfl rfl ent29 (fun u hu => CopyPos_c i.2.1 u (hu.ro (j := 4) rfl) hsmy) (fun _ => rfl) ?_; rintro z3 ⟨hz3x, uz3, hz3ok⟩
         obtain ⟨hz3a, hz3b, hz3c⟩ := hz3ok.st.ones
         have hz3d := Sl.one hz3ok.rd
         refine Wd (Qa ?_)
         refine Ao 7 rfl ?_
         refine Wc rfl rfl ent48 (fun u hu => (by have q := StepI_c c u (hu.ro (j := 7) rfl) g (hW.st hu) hnc z3 (hu.ro (j := 0) rfl) (nth ms.l i.1); rw [hcp, hz3x] at q; exact q)) (fun _ => rfl) ?_; rintro x3 ⟨hx3x, ux3, hx3ok⟩
         obtain ⟨hx3a, hx3b, hx3c⟩ := hx3ok.st.ones
         have hx3d := Sl.one hx3ok.rd
         refine Wd (Qa ?_)
         refine Ar [8,9,10] ?_
         refine Ao 12 rfl ?_
         refine Wv 0 2 ?_
         refine Wd (Qa ?_)
         refine Ar [13] ?_
         refine Ae ?_
         refine QS.sel [2, 0, 1, 2, 2, 2, 2, 2] rfl ?_
         exact QS.head ((b15, x3)) rfl rfl ⟨hx3x, ux3, hx3ok⟩
       ·
        intro s t hs
        obtain ⟨b15, x3⟩ := s
        obtain ⟨hx3x, ux3, hx3ok⟩ := hs
        obtain ⟨hx3a, hx3b, hx3c⟩ := hx3ok.st.ones
        have hx3d := Sl.one hx3ok.rd
        refine Cs (Nz 2 ?_)
        refine Wd (Qc (CS.cond rfl ?_ ?_))<;>intro hc8<;>try simp only [bq] at hc8
        ·
         refine Cv (Qe (Qx (Qc (Ny 1 ?_))))
         refine Wk 1 Za ?_
         refine Wd ?_
         refine QS.sel [2, 2, 2, 2, 2, 2] rfl ?_
         exact QS.head ((i.1 + 1, i.2.1, k.2)) rfl rfl ⟨⟨by simp; omega, by simp; omega, hi3, ⟨_, hiok⟩, hk3, fun _ j a b => by rw [hk4 j a (by omega)]; exact Int.le_refl _⟩, by simp; omega⟩
        ·
         have hS0 : (StepGV G.p i.2.1.x (nth ms.l i.1)).1 = 0 := (step_err_g hi3).resolve_right hc8
         have hxr : x3.rd.l = (StepGV G.p i.2.1.x (nth ms.l i.1)).2.2 := congrArg Prod.snd hx3x
         have hxl : x3.rd.l.length = i.2.1.rd.l.length := by rw [hxr]; exact step_len hS0
         have hxrd := hx3ok.rd
         refine Ck (Qc (Cs (Nz 3 ?_)))
         refine Wf 0 rfl rfl (fun hg => Ff) ?_
         refine Wf 0 rfl rfl (fun hg => by first | exact det_loadb (j := 0) (eg_ hg rfl) rfl rfl tk66 | exact det_loadb (j := 1) (eg_ hg rfl) rfl rfl tk66 | exact det_loadb (j := 2) (eg_ hg rfl) rfl rfl tk66 | exact det_loadb (j := 3) (eg_ hg rfl) rfl rfl tk66 | exact det_loadb (j := 4) (eg_ hg rfl) rfl rfl tk66 | exact det_loadb (j := 5) (eg_ hg rfl) rfl rfl tk66 | exact det_loadb (j := 6) (eg_ hg rfl) rfl rfl tk66 | exact det_loadb (j := 7) (eg_ hg rfl) rfl rfl tk66 | exact det_loadb (j := 8) (eg_ hg rfl) rfl rfl tk66 | exact det_loadb (j := 9) (eg_ hg rfl) rfl rfl tk66 | exact det_loadb (j := 10) (eg_ hg rfl) rfl rfl tk66 | exact det_loadb (j := 11) (eg_ hg rfl) rfl rfl tk66 | exact det_loadb (j := 12) (eg_ hg rfl) rfl rfl tk66 | exact det_loadb (j := 13) (eg_ hg rfl) rfl rfl tk66 | exact det_loadw (eg_ hg rfl) (by assumption) rfl tk66) ?_
         refine Wf 0 rfl rfl (fun hg => Nc (eg_ hg rfl)) ?_
         refine Wf 0 rfl rfl (fun hg => Ff) ?_
         refine Wf 0 rfl rfl (fun hg => by first | exact det_loadb (j := 3) (eg_ hg rfl) rfl rfl tk66 | exact det_loadw (eg_ hg rfl) (by assumption) rfl tk66) ?_
         refine Wf 0 rfl rfl (fun hg => Nc (eg_ hg rfl)) ?_
         refine Wf 0 rfl rfl (fun hg => Fr) ?_
         refine Wk 0 Po ?_
         refine Wd (Qc (CS.cond rfl ?_ ?_))<;>intro hc9<;>try simp only [bq] at hc9
         ·
          exfalso
          rw [hS0] at hc9
          simp at hc9
          omega
         ·
          refine Ck (Qc (Cs (Nz 1 ?_)))
          refine Wd (Qc (Ce ?_))
          refine CS.loopM (σ := Int) [4, 147, 148, 149, 150, 151, 152, 153, 154, 155, 156, 157, 158, 159, 160, 161, 162, 163, 164, 165, 166] (fun s => [(17, .int .i64 s)]) (fun _ => _) (fun s => 0 ≤ s ∧ s ≤ i.2.1.rd.l.length) (fun s => (i.2.1.rd.l.length - s).toNat) 0 (fun _ _ => rfl) rfl rfl ⟨by omega, by omega⟩ ?_
          intro q t hs
          obtain ⟨hq1, hq2⟩ := hs
          refine Cs (Nz 2 ?_)
          refine Wk 0 (by first | exact det_loadb (j := 3) rfl rfl rfl tk66 | exact det_loadw rfl (by assumption) rfl tk66) ?_
          refine Wk 1 Nc ?_
          refine Wd (Qc (CS.cond rfl ?_ ?_))<;>intro hc10<;>try simp only [bq] at hc10
          ·
           refine Ck (Qc (Cs (Ce (Nz 1 ?_))))
           refine Wk 1 (by first | exact det_loadb (j := 3) rfl rfl rfl tk66 | exact det_loadw rfl (by assumption) rfl tk66) ?_
           refine Wk 0 Xc ?_
           refine Wk 1 (det_ldPB (jj := 4) rfl (fun u (h : PosOk u i.2.1) => h.rd) rfl rfl ⟨by omega, by omega⟩ rfl tk4) ?_
           refine Wt 0 rfl rfl (fun hg => Ff) ?_
           refine Wt 0 rfl rfl (fun hg => by first | exact det_loadb (j := 0) (eg_ hg rfl) rfl rfl tk66 | exact det_loadb (j := 1) (eg_ hg rfl) rfl rfl tk66 | exact det_loadb (j := 2) (eg_ hg rfl) rfl rfl tk66 | exact det_loadb (j := 3) (eg_ hg rfl) rfl rfl tk66 | exact det_loadb (j := 4) (eg_ hg rfl) rfl rfl tk66 | exact det_loadb (j := 5) (eg_ hg rfl) rfl rfl tk66 | exact det_loadb (j := 6) (eg_ hg rfl) rfl rfl tk66 | exact det_loadb (j := 7) (eg_ hg rfl) rfl rfl tk66 | exact det_loadb (j := 8) (eg_ hg rfl) rfl rfl tk66 | exact det_loadb (j := 9) (eg_ hg rfl) rfl rfl tk66 | exact det_loadb (j := 10) (eg_ hg rfl) rfl rfl tk66 | exact det_loadb (j := 11) (eg_ hg rfl) rfl rfl tk66 | exact det_loadb (j := 12) (eg_ hg rfl) rfl rfl tk66 | exact det_loadb (j := 13) (eg_ hg rfl) rfl rfl tk66 | exact det_loadw (eg_ hg rfl) (by assumption) rfl tk66) ?_
           refine Wt 0 rfl rfl (fun hg => Fm) ?_
           refine Wt 0 rfl rfl (fun hg => Xc (s := x3.rd) (eg_ hg rfl) (eg_ hg rfl)) ?_
           refine Wt 0 rfl rfl (fun hg => det_ldPB (jj := 1) rfl (fun u (h : PosOk u x3) => h.rd) (eg_ hg rfl) rfl ⟨by omega, by omega⟩ rfl tk4) ?_
           refine Wt 0 rfl rfl (fun hg => Fn) ?_
           refine Wk 0 Pa ?_
           refine Wd (Qc (CS.cond rfl ?_ ?_))<;>intro hc11<;>try simp only [bq] at hc11
           ·
            exfalso
            have hgr := step_reads (m := nth ms.l i.1) hS0 hq1
            obtain ⟨h9, h10⟩ := (by simpa using hc11 : nth i.2.1.rd.l q = true ∧ nth x3.rd.l q = false)
            rw [hxr, hgr h9] at h10
            cases h10
           ·
            refine Ck (Qb (Qc (Ny 1 ?_)))
            refine Wk 1 Za ?_
            exact Wd (QS.head (q + 1) rfl rfl ⟨⟨by omega, by omega⟩, by omega⟩)
          ·
           refine Cv (Qe (Qe (Qx (Qc (Ny 0 ?_)))))
           refine Wk 0 (by first | exact det_loadb0 (j := 0) rfl rfl tk68 | exact det_loadb0 (j := 1) rfl rfl tk68 | exact det_loadb0 (j := 2) rfl rfl tk68 | exact det_loadb0 (j := 3) rfl rfl tk68 | exact det_loadb0 (j := 4) rfl rfl tk68 | exact det_loadb0 (j := 5) rfl rfl tk68 | exact det_loadb0 (j := 6) rfl rfl tk68 | exact det_loadb0 (j := 7) rfl rfl tk68 | exact det_loadb0 (j := 8) rfl rfl tk68 | exact det_loadb0 (j := 9) rfl rfl tk68 | exact det_loadb0 (j := 10) rfl rfl tk68 | exact det_loadb0 (j := 11) rfl rfl tk68 | exact det_loadb0 (j := 12) rfl rfl tk68 | exact det_loadb0 (j := 13) rfl rfl tk68 | exact det_loadbN (j := 0) rfl rfl (by rfl) tk68 | exact det_loadbN (j := 1) rfl rfl (by rfl) tk68 | exact det_loadbN (j := 2) rfl rfl (by rfl) tk68 | exact det_loadbN (j := 3) rfl rfl (by rfl) tk68 | exact det_loadbN (j := 4) rfl rfl (by rfl) tk68 | exact det_loadbN (j := 5) rfl rfl (by rfl) tk68 | exact det_loadbN (j := 6) rfl rfl (by rfl) tk68 | exact det_loadbN (j := 7) rfl rfl (by rfl) tk68 | exact det_loadbN (j := 8) rfl rfl (by rfl) tk68 | exact det_loadbN (j := 9) rfl rfl (by rfl) tk68 | exact det_loadbN (j := 10) rfl rfl (by rfl) tk68 | exact det_loadbN (j := 11) rfl rfl (by rfl) tk68 | exact det_loadbN (j := 12) rfl rfl (by rfl) tk68 | exact det_loadbN (j := 13) rfl rfl (by rfl) tk68 | exact det_loadwN rfl (by assumption) (by rfl) tk68 | exact det_loadbK (n := 4) (j := 0) rfl rfl rfl rfl tk68 | exact det_loadbK (n := 4) (j := 1) rfl rfl rfl rfl tk68 | exact det_loadbK (n := 4) (j := 2) rfl rfl rfl rfl tk68 | exact det_loadbK (n := 4) (j := 3) rfl rfl rfl rfl tk68 | exact det_loadbK (n := 4) (j := 4) rfl rfl rfl rfl tk68 | exact det_loadbK (n := 4) (j := 5) rfl rfl rfl rfl tk68 | exact det_loadbK (n := 4) (j := 6) rfl rfl rfl rfl tk68 | exact det_loadbK (n := 4) (j := 7) rfl rfl rfl rfl tk68 | exact det_loadbK (n := 4) (j := 8) rfl rfl rfl rfl tk68 | exact det_loadbK (n := 4) (j := 9) rfl rfl rfl rfl tk68 | exact det_loadbK (n := 4) (j := 10) rfl rfl rfl rfl tk68 | exact det_loadbK (n := 4) (j := 11) rfl rfl rfl rfl tk68 | exact det_loadbK (n := 4) (j := 12) rfl rfl rfl rfl tk68 | exact det_loadbK (n := 4) (j := 13) rfl rfl rfl rfl tk68) ?_
           refine Wv 0 3 ?_
           refine Wd (Qb (Qc (Ny 1 ?_)))
           refine Wk 1 Za ?_
           refine Wd ?_
           refine QS.sel [2, 2, 1, 2, 2, 2] rfl ?_
           skip
           exact QS.head ((i.1 + 1, x3, k.2)) rfl rfl ⟨⟨by simp; omega, by simp; omega, by show posG G.p x3.x = 0; rw [hx3x]; exact (step_good hS0).2.2, ⟨_, hx3ok⟩, hk3, fun _ j a b => by show readN G.p j (cluN G.p x3.rd.l j) ≤ nth k.2 j; rw [hxr, hk4 j a (by omega)]; exact step_readN hS0⟩, by simp; omega⟩
   ·
    refine Cv (Qe (Qe (Qx (Qc (Nz 0 ?_)))))
    refine Wk 1 (Cb rfl rfl ent27 (fun u hu => worksG_c u g (hW.st hu))) ?_
    exact Wd (Qc (Cr (out1 rfl rfl retB)))
end Go.Proofs.YtaeagngfhceceaaGreatDoor
