/- Merged texts of this proof (walks and plain laws), printed by a program of the prover. -/
import Derived.Test.YtaeagngfhceceaaGreatDoorZn
import Derived.Test.YtaeagngfhceceaaGreatDoorZk
import Derived.Test.YtaeagngfhceceaaGreatDoorZb
import Derived.Test.YtaeagngfhceceaaGreatDoorZe
import Derived.Test.YtaeagngfhceceaaGreatDoorZl
set_option maxHeartbeats 8000000
namespace Go.Proofs.YtaeagngfhceceaaGreatDoor
open Go.RowKit Go.Proofs
set_option maxRecDepth 100000
set_option linter.unusedVariables false
set_option linter.unusedSimpArgs false
theorem pcheck_c (G : Game) (w : World) (hG : GameOk w G) (g : Sl ByteArray) (hW : GOk w g) (hn : NearG G) (p : Pos) (hp : PosOk w p) :
  Calls Tryz.prog 137 #[.agg #[G.rm.pls.v, G.rm.ths.v, G.rm.prs.v, G.rm.wys.v, G.rm.acs.v, G.rm.aus.v, .int .i64 G.rm.ply, G.rm.gl.v, G.lks.v, G.cds.v, G.nts.v, .int .i64 G.tr], .agg #[p.st.ths.v, p.st.prs.v, p.st.pls.v, p.rd.v]] w (RetB w (.int .i64 (posG G.p p.x))) := by
 have knt := hG.nts
 have krd := hp.rd
 refine enter Tryz.func137 rfl rfl (Nat.le_of_ble_eq_true rfl) ?_
 refine Nz 0 ?_
 refine Wb 0 rfl rfl (fun _ => rfl) (fun _ => rfl) fun b2 hb2 => ?_
 refine Wb 1 rfl rfl (fun _ => rfl) (fun _ => rfl) fun b3 hb3 => ?_
 refine Wd (Qc (Cs (Nz 0 ?_)))
 refine Wk 0 (Bb 1) ?_
 refine Wk 1 (Cb rfl rfl ent46 (fun u hu => GICheck_c G u (hG.st hu) g (hW.st hu) hn)) ?_
 refine Wd (Qc (Nz 2 ?_))
 refine Wd (Qc (CS.cond rfl ?_ ?_))<;>intro hc1<;>try simp only [bq] at hc1
 ·
  refine Nz 2 ?_
  exact Wd (Qc (Cr (Qr (out1 rfl rfl (retBe (by rw [posG_p, or0_n rfl hc1]))))))
 ·
  refine Ck (Qc (Cs (Nz 1 ?_)))
  refine Wk 1 (Bc 1) ?_
  refine Wk 0 (Bc 0) ?_
  refine Wk 1 (Cb rfl rfl ent139 (fun u hu => ICheckState_c G.rm u (hG.rm.st hu) g (hW.st hu) hn.rm p.st (hp.st.st hu))) ?_
  refine Wd (Qc (Nz 2 ?_))
  refine Wd (Qc (CS.cond rfl ?_ ?_))<;>intro hc2<;>try simp only [bq] at hc2
  ·
   refine Nz 2 ?_
   exact Wd (Qc (Cr (Qr (out1 rfl rfl (retBe (by rw [posG_p, or0_z hc1, or0_n rfl hc2]))))))
  ·
   refine Ck (Qc (Cs (Nz 1 ?_)))
   refine Wk 0 (Ba 0) ?_
   refine Wk 1 Nc ?_
   refine Wk 0 (Ba 1) ?_
   refine Wk 1 Nc ?_
   refine Wd (Qc (CS.cond rfl ?_ ?_))<;>intro hc3<;>try simp only [bq] at hc3
   ·
    refine Nz 1 ?_
    exact Wd (Qc (Cr (Qr (out1 rfl rfl (retBe (by rw [posG_p, or0_z hc1, or0_z hc2, if_neg (by omega)]))))))
   ·
    refine Ck (Qc (Nz 1 ?_))
    exact Wd (Qc (Cr (out1 rfl rfl (retBe (by rw [posG_p, or0_z hc1, or0_z hc2, if_pos (by omega)])))))
theorem hasLock_c (G : Game) (w : World) (hG : GameOk w G) (lk : Int) :
  Calls Tryz.prog 66 #[.agg #[G.rm.pls.v, G.rm.ths.v, G.rm.prs.v, G.rm.wys.v, G.rm.acs.v, G.rm.aus.v, .int .i64 G.rm.ply, G.rm.gl.v, G.lks.v, G.cds.v, G.nts.v, .int .i64 G.tr], .int .i64 lk] w (RetB w (.int .i64 (if (decide (0 ≤ lk) && decide (lk ≤ (G.lks.l.length : Int) - 1)) = true then 0 else 1))) := by
 have klk := hG.lks
 have llk := hG.lks.le
 refine enter Tryz.func66 rfl rfl (Nat.le_of_ble_eq_true rfl) ?_
 refine Nz 0 ?_
 refine Wb 1 rfl rfl (fun _ => rfl) (fun _ => rfl) fun b2 hb2 => ?_
 refine Wd (Qc (Cs (Nz 2 ?_)))
 refine Wk 0 (Ba 0) ?_
 refine Wk 0 Nc ?_
 refine Wk 0 Zb ?_
 refine Wk 1 (Cb rfl rfl ent105 (fun u hu => gwithin_c _ _ _ u)) ?_
 refine Wd (Qc (CS.cond rfl ?_ ?_))<;>intro hc1<;>try simp only [bq] at hc1
 ·
  refine Nz 1 ?_
  exact Wd (Qc (Cr (Qr (out1 rfl rfl (retBe (by rw [if_neg (by simp only [Bool.and_eq_true, decide_eq_true_eq]; omega)]))))))
 ·
  refine Ck (Qc (Nz 1 ?_))
  exact Wd (Qc (Cr (out1 rfl rfl (retBe (by rw [if_pos (by simp only [Bool.and_eq_true, decide_eq_true_eq]; omega)])))))
theorem checkLock_c (G : Game) (w : World) (hG : GameOk w G) (g : Sl ByteArray) (hW : GOk w g) (hn : NearG G) (p : Pos) (hp : PosOk w p) (lk : Int) :
  Calls Tryz.prog 87 #[.agg #[G.rm.pls.v, G.rm.ths.v, G.rm.prs.v, G.rm.wys.v, G.rm.acs.v, G.rm.aus.v, .int .i64 G.rm.ply, G.rm.gl.v, G.lks.v, G.cds.v, G.nts.v, .int .i64 G.tr], .agg #[p.st.ths.v, p.st.prs.v, p.st.pls.v, p.rd.v], .int .i64 lk] w (RetB w (.int .i64 (lockG G.p p.x lk))) := by
 refine enter Tryz.func87 rfl rfl (Nat.le_of_ble_eq_true rfl) ?_
 refine Nz 0 ?_
 refine Wb 0 rfl rfl (fun _ => rfl) (fun _ => rfl) fun b3 hb3 => ?_
 refine Wb 1 rfl rfl (fun _ => rfl) (fun _ => rfl) fun b4 hb4 => ?_
 refine Wd (Qc (Cs (Nz 0 ?_)))
 refine Wk 0 (Bb 1) ?_
 refine Wk 0 (Bb 0) ?_
 refine Wk 1 (Cb rfl rfl ent137 (fun u hu => pcheck_c G u (hG.st hu) g (hW.st hu) hn p (hp.toSt hu))) ?_
 refine Wd (Qc (Nz 2 ?_))
 refine Wd (Qc (CS.cond rfl ?_ ?_))<;>intro hc1<;>try simp only [bq] at hc1
 ·
  refine Nz 2 ?_
  exact Wd (Qc (Cr (Qr (out1 rfl rfl (retBe (by rw [lockG, or0_n rfl hc1]))))))
 ·
  refine Ck (Qc (Nz 0 ?_))
  refine Wk 1 (Bb 1) ?_
  refine Wk 1 (Cb rfl rfl ent66 (fun u hu => hasLock_c G u (hG.st hu) _)) ?_
  exact Wd (Qc (Cr (out1 rfl rfl (retBe (by rw [lockG, or0_z hc1]; rfl)))))
theorem CopyPos0_c (p : Pos) (w : World) (hp : PosOk w p) (hm : (p.st.ths.l.length ≤ 1000000 ∧ p.st.prs.l.length ≤ 1000000 ∧ p.st.pls.l.length ≤ 1000000) ∧ p.rd.l.length ≤ 1000000) :
  Calls Tryz.prog 29 #[.agg #[p.st.ths.v, p.st.prs.v, p.st.pls.v, p.rd.v]] w (fun e w' => ∃ x : Stt × Value, ((x.1.x = p.st.x ∧ ∃ u0, SttOk u0 x.1) ∧ x.2.oneCell' = true) ∧ RetF w (.agg #[x.1.ths.v, x.1.prs.v, x.1.pls.v, x.2]) (star [roS fun u => SttOk u x.1, oT cBool 4 x.2 p.rd.l]) e w') := by
 have krd := hp.rd
 have lrd := hm.2
 refine enter Tryz.func29 rfl rfl (Nat.le_of_ble_eq_true rfl) ?_
 refine Nz 0 ?_
 refine Wb 0 rfl rfl (fun _ => rfl) (fun _ => rfl) fun b1 hb1 => ?_
 refine Wl 0 zv68 (fun _ => rfl) (fun _ => rfl) fun b2 hb2 => ?_
 refine Wd (Qc (Cs ?_))
 refine CS.drawnTill 6 (k := 9) mixed rfl rfl ?_
 refine Tr 9 [0] ?_
 refine Tk 9 1 [4] rfl (Bc 1) ?_
 refine Tk 9 5 [] rfl (Ba 1) ?_
 refine AT.two (i := 2) (j := 3) (by kernel_rfl) rfl rfl (by first | (intro h; exact absurd h (by decide)) | exact fun _ _ h => h | exact fun _ _ h => h.sub (by repeat first | exact List.Sublist.refl _ | apply List.Sublist.cons_cons | apply List.Sublist.cons)) rfl rfl ?_ ?_
 ·
  refine Wc rfl rfl ent85 (fun u hu => CopyStateR_c p.st u (hp.st.st hu) hm.1) (fun _ => rfl) ?_; rintro y ⟨hyx, uy, hyok⟩
  obtain ⟨hya, hyb, hyc⟩ := hyok.ones
  refine Wd (Qt ?_)
  refine To 3 rfl ?_
  refine WS.build0 sl66 zv4 (fun _ => rfl) ?_; intro v6
  refine Wd (Qt ?_)
  refine To 6 rfl ?_
  refine WS.append0 (j := 0) (news := flatC cBool p.rd.l) (m := p.rd.l.length) sl66 zv4 rfl (by decide) rfl rfl rfl (fun u hu => (krd.st hu).sp) krd.one (by omega) (by omega) (fun _ => rfl) (fun _ => rfl) ?_; intro v9; refine WS.oc (j := 0) rfl (fun hv9 => ?_)
  refine Wd (Qt ?_)
  refine To 7 rfl ?_
  refine Wk 0 (det_buildG plc68 zv68 rfl (.agg (.one hv9 .nil)) rfl) ?_
  refine Wd (Qt ?_)
  refine To 8 rfl ?_
  refine Wv 0 2 ?_
  refine Wd (Qt ?_)
  refine Te ?_
  exact Qc (Cr (outR (resc rfl (cell_rvN (j := 2) rfl rfl tk68)) (fun u hu => ⟨(y, v9), ⟨⟨hyx, uy, hyok⟩, hv9⟩, retFs (hu.sel [1, 0] rfl) (List.Perm.refl _)⟩)))
 ·
  refine WS.build0 sl66 zv4 (fun _ => rfl) ?_; intro v6
  refine Wd (Qt ?_)
  refine To 2 rfl ?_
  refine Wc rfl rfl ent85 (fun u hu => CopyStateR_c p.st u (hp.st.st hu) hm.1) (fun _ => rfl) ?_; rintro y ⟨hyx, uy, hyok⟩
  obtain ⟨hya, hyb, hyc⟩ := hyok.ones
  refine Wd (Qt ?_)
  refine To 6 rfl ?_
  refine WS.append0 (j := 1) (news := flatC cBool p.rd.l) (m := p.rd.l.length) sl66 zv4 rfl (by decide) rfl rfl rfl (fun u hu => (krd.st hu).sp) krd.one (by omega) (by omega) (fun _ => rfl) (fun _ => rfl) ?_; intro v9; refine WS.oc (j := 1) rfl (fun hv9 => ?_)
  refine Wd (Qt ?_)
  refine To 7 rfl ?_
  refine Wk 0 (det_buildG plc68 zv68 rfl (.agg (.one hv9 .nil)) rfl) ?_
  refine Wd (Qt ?_)
  refine To 8 rfl ?_
  refine Wv 0 2 ?_
  refine Wd (Qt ?_)
  refine Te ?_
  exact Qc (Cr (outR (resc rfl (cell_rvN (j := 2) rfl rfl tk68)) (fun u hu => ⟨(y, v9), ⟨⟨hyx, uy, hyok⟩, hv9⟩, retFs (hu.sel [0, 0] rfl) (List.Perm.refl _)⟩)))
theorem CopyPos_c (p : Pos) (w : World) (hp : PosOk w p) (hm : (p.st.ths.l.length ≤ 1000000 ∧ p.st.prs.l.length ≤ 1000000 ∧ p.st.pls.l.length ≤ 1000000) ∧ p.rd.l.length ≤ 1000000) :
  Calls Tryz.prog 29 #[.agg #[p.st.ths.v, p.st.prs.v, p.st.pls.v, p.rd.v]] w (RetP w p.x fun v => v) := by
 refine Calls.mono (CopyPos0_c p w hp hm) ?_
 rintro e u ⟨⟨y, v⟩, ⟨⟨hyx, uy, hyok⟩, hv⟩, h⟩
 have h2 : RetF w (.agg #[y.ths.v, y.prs.v, y.pls.v, v]) (roS fun u => PosOk u ⟨y, ⟨v, p.rd.l⟩⟩) e u := h.toRo fun S u h => ⟨Star.ro (L := [roS fun u => SttOk u y, oT cBool 4 v p.rd.l]) (j := 0) rfl h.1, boolT (Star.osl (L := [roS fun u => SttOk u y, oT cBool 4 v p.rd.l]) (j := 1) rfl h.1)⟩
 exact ⟨⟨y, ⟨v, p.rd.l⟩⟩, ⟨by simp [Pos.x, hyx], u, h2.now⟩, h2⟩
theorem CloneB_c (s0 : Sl Bool) (w : World) (hk : SlT cBool w s0) (hm : s0.l.length ≤ 1000000) :
  Calls Tryz.prog 138 #[s0.v] w (fun e w' => ∃ v' : Value, v'.oneCell' = true ∧ RetF w v' (oT cBool 4 v' s0.l) e w') := by
 obtain ⟨v, l⟩ := s0
 obtain ⟨⟨hl, p, cap, hv, hcap, hq⟩, he⟩ := hk
 simp only at hv hl hcap hq hm ⊢
 subst hv
 have hk : SlT cBool w ⟨.slice p l.length cap, l⟩ := ⟨⟨hl, p, cap, rfl, hcap, hq⟩, he⟩
 clear hl hcap hq he
 refine enter Tryz.func138 rfl rfl (Nat.le_of_ble_eq_true rfl) ?_
 refine Nz 1 ?_
 refine Wd (Qc (Cs (Nz 1 ?_)))
 refine Wk 0 (det_eqnil sl66 rfl rfl) ?_
 refine Wd (Qc (CS.cond rfl ?_ ?_))<;>intro hc1<;>try simp only [bq] at hc1
 ·
  have hx0 : l = [] := by
   have : p = none := by simpa using hc1
   subst this
   exact List.eq_nil_of_length_eq_zero (SlC.nil hk.sp)
  subst hx0
  refine Nz 1 ?_
  exact Wd (Qc (Cr (Qr (out1 rfl rfl (fun u hu => ⟨_, rfl, retF (j := 0) rfl u hu.osl0⟩)))))
 ·
  refine Ck (Qc (Nz 0 ?_))
  refine WS.build0 sl66 zv4 (fun _ => rfl) ?_; intro v5
  refine Wz 1 ?_
  refine WS.append0 (j := 0) (news := flatC cBool l) (m := l.length) sl66 zv4 rfl (by decide) rfl rfl rfl (fun u hu => (hk.st hu).sp) hk.one (by omega) (by omega) (fun _ => rfl) (fun _ => rfl) ?_; intro v7; refine WS.oc (j := 0) rfl (fun hv7 => ?_)
  refine Wz 1 ?_
  exact Wd (Qc (Cr (out1 rfl rfl (fun u hu => ⟨v7, hv7, retF (j := 0) rfl u hu⟩))))
end Go.Proofs.YtaeagngfhceceaaGreatDoor
set_option maxHeartbeats 8000000
namespace Go.Proofs.YtaeagngfhceceaaGreatDoor
open Go.RowKit Go.Proofs
set_option maxRecDepth 100000
set_option linter.unusedVariables false
set_option linter.unusedSimpArgs false
theorem clued_c (G : Game) (w : World) (hG : GameOk w G) (ns : List Int) (nv : Value) (h2 : SlI w nv ns) (hn : ∀ k ∈ ns, 0 ≤ k ∧ k < G.nts.l.length) (hm : ns.length ≤ 1000) :
  Calls Tryz.prog 147 #[.agg #[G.rm.pls.v, G.rm.ths.v, G.rm.prs.v, G.rm.wys.v, G.rm.acs.v, G.rm.aus.v, .int .i64 G.rm.ply, G.rm.gl.v, G.lks.v, G.cds.v, G.nts.v, .int .i64 G.tr], nv] w (fun e w' => ∃ v' : Value, v'.oneCell' = true ∧ RetF w v' (osl 48 7 v' (clsG G ns).length (clFlat (clsG G ns) (gvsG G ns))) e w') := by
 have knt := hG.nts
 refine enter Tryz.func147 rfl rfl (Nat.le_of_ble_eq_true rfl) ?_
 refine Nz 0 ?_
 refine Wb 1 rfl rfl (fun _ => rfl) (fun _ => rfl) fun b2 hb2 => ?_
 refine Wd (Qc (Nz 1 ?_))
 refine Wd (Qc (Cs (Nz 1 ?_)))
 refine Wd (Qc (Ce ?_))
 refine CS.weak (fun _ hu => hu.osl0 (e := 48) (size := 7)) ?_
 refine CS.loopM (σ := Int × Value) [7, 8, 9, 10, 11, 12, 13, 14, 15, 16, 17, 18, 19, 20, 21, 22, 23, 24] (fun s => [(5, s.2), (6, .int .i64 s.1)]) (fun s => [osl 48 7 s.2 (clsG G (ns.take s.1.toNat)).length (clFlat (clsG G (ns.take s.1.toNat)) (gvsG G (ns.take s.1.toNat))), blk b2 [G.rm.pls.v, G.rm.ths.v, G.rm.prs.v, G.rm.wys.v, G.rm.acs.v, G.rm.aus.v, .int .i64 G.rm.ply, G.rm.gl.v, G.lks.v, G.cds.v, G.nts.v, .int .i64 G.tr] 36]) (fun s => 0 ≤ s.1 ∧ s.1 ≤ ns.length) (fun s => (ns.length - s.1).toNat) (0, .slice none 0 0) (fun _ _ => rfl) rfl rfl ⟨by simp, by simp⟩ ?_
 intro s t hs
 obtain ⟨hs1, hs2⟩ := hs
 have htl := List.length_take_le s.1.toNat ns
 have hcl : (clsG G (ns.take s.1.toNat)).length = (ns.take s.1.toNat).length := by simp [clsG]
 refine Cs (Nz 2 ?_)
 refine Wk 1 Na ?_
 refine Wd (Qc (CS.cond rfl ?_ ?_))<;>intro hc1<;>try simp only [bq] at hc1
 ·
  have hs3 : s.1 < ns.length := by omega
  have hat := hn _ (nth_mem hs1 hs3)
  have hnt : cNote.ok w (nth G.nts.l (nth ns s.1)) := knt.at hat.1 hat.2
  have hg1 := hnt.2.one1
  refine Ck (Qc (Cs (Ce ?_)))
  refine CS.drawnTill 11 (k := 13) mixed rfl rfl ?_
  refine Tr 13 [0,1] ?_
  refine Tk 13 2 [3,4] rfl (Ba 1) ?_
  refine Tk 13 5 [] rfl Xa ?_
  refine Tk 13 6 [] rfl Ia ?_
  refine Tk 13 7 [8] rfl Xc ?_
  refine Tk 13 9 [] rfl (det_ldUs 11 4 7 rfl knt rfl ⟨by omega, by omega⟩ rfl rfl tk48) ?_
  refine To 10 rfl ?_
  refine WS.buildC1 sl46 zv48 (c := (nth G.nts.l (nth ns s.1)).cl) (gv := (nth G.nts.l (nth ns s.1)).gv) rfl (fun _ => rfl) ?_; intro v23
  refine Wd (Qt ?_)
  refine To 11 rfl ?_
  refine WS.appendCl (j := 1) (jz := 0) sl46 zv48 rfl rfl rfl (by simp [clsG, gvsG]) rfl rfl hg1 (by omega) (by omega) (fun _ => rfl) (fun _ => rfl) ?_; intro v24 hv24
  refine Wd (Qt ?_)
  refine To 12 rfl ?_
  refine Wz 1 ?_
  refine Wd (Qt ?_)
  refine Te ?_
  refine Qb (Qc (Ny 1 ?_))
  refine Wk 1 Za ?_
  refine Wd ?_
  refine QS.sel [1, 1] rfl ?_
  exact QS.head ((s.1 + 1, v24)) rfl (by simp only [clsG, gvsG, map_snoc (fun i => (nth G.nts.l i).cl) hs1 hs3, map_snoc (fun i => (nth G.nts.l i).gv) hs1 hs3]) ⟨⟨by simp; omega, by simp; omega⟩, by simp; omega⟩
 ·
  refine Cv (Qe (Qe (Qx (Qc (Nz 2 ?_)))))
  refine Wd (Qc (Cr ?_))
  refine QS.oc (j := 0) rfl (fun hv5 => ?_)
  have hta : ns.take s.1.toNat = ns := List.take_of_length_le (by omega)
  rw [hta]
  exact out1 rfl rfl (fun u hu => ⟨_, hv5, retF (j := 0) rfl u hu⟩)
theorem readingsR_c (G : Game) (w : World) (hG : GameOk w G) (hV : GoodG G) (lk : Int) (h0 : 0 ≤ lk) (h1 : lk < G.lks.l.length) (ns : List Int) (nv : Value) (h2 : SlI w nv ns) (hns : NotesOf G lk ns) (hl : ns.length ≤ 20) :
  Calls Tryz.prog 92 #[.agg #[G.rm.pls.v, G.rm.ths.v, G.rm.prs.v, G.rm.wys.v, G.rm.acs.v, G.rm.aus.v, .int .i64 G.rm.ply, G.rm.gl.v, G.lks.v, G.cds.v, G.nts.v, .int .i64 G.tr], .int .i64 lk, nv] w (RetB w (.int .i64 (readN G.p lk ns))) := by
 have klk := hG.lks
 have hE := cluesE_ok hV h0 h1 hns hl
 refine enter Tryz.func92 rfl rfl (Nat.le_of_ble_eq_true rfl) ?_
 refine Nz 0 ?_
 refine Wb 1 rfl rfl (fun _ => rfl) (fun _ => rfl) fun b3 hb3 => ?_
 refine Wd (Qc (Cs ?_))
 refine CS.drawnAll (k := 14) mixed rfl rfl ?_
 refine Ar [0] ?_
 refine Ak 1 [2] rfl (Ba 0) ?_
 refine Ak 3 [] rfl Xc ?_
 refine Ak 4 [] rfl Ua ?_
 refine Ak 5 [6] rfl (Bb 0) ?_
 refine Ao 7 rfl ?_
 refine Wc rfl rfl ent147 (fun u hu => clued_c G u (hG.st hu) ns nv (h2.st hu) (fun k hk ↦ (hns k hk).1) (by omega)) (fun _ => rfl) ?_; rintro v17 hv17
 refine Wd (Qa ?_)
 refine Ao 8 rfl ?_
 refine Wk 0 (Cb rfl rfl ent146 (fun u hu => RCount_k _ _ _ _ _ u (clS_of (hG.st hu) hns (osl_SlC hu (j := 0) rfl)))) ?_
 refine Wd (Qa ?_)
 refine Ar [9,10,11,12,13] ?_
 refine Ae ?_
 refine Qc (Nz 2 ?_)
 exact Wd (Qc (Cr (out1 rfl rfl (retBe (by rw [readN_p, hE]; rfl)))))
end Go.Proofs.YtaeagngfhceceaaGreatDoor
