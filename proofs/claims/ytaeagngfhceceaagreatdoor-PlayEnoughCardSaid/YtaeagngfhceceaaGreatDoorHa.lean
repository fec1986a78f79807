/- Contracts of functions, printed by a program of the prover (gen.py). -/
import Derived.Test.YtaeagngfhceceaaGreatDoorZz
import Derived.Test.YtaeagngfhceceaaGreatDoorY3
import Derived.Test.YtaeagngfhceceaaGreatDoorY6
import Derived.Test.YtaeagngfhceceaaGreatDoorY11
import Derived.Test.YtaeagngfhceceaaGreatDoorY14
import Derived.Test.YtaeagngfhceceaaGreatDoorY16
import Derived.Test.YtaeagngfhceceaaGreatDoorY21
import Derived.Test.YtaeagngfhceceaaGreatDoorY23
import Derived.Test.YtaeagngfhceceaaGreatDoorY24
import Derived.Test.YtaeagngfhceceaaGreatDoorY25
import Derived.Test.YtaeagngfhceceaaGreatDoorY34
set_option maxHeartbeats 8000000
namespace Go.Proofs.YtaeagngfhceceaaGreatDoor
open Go.RowKit Go.Proofs
set_option maxRecDepth 100000
set_option linter.unusedVariables false
set_option linter.unusedSimpArgs false
theorem PlayEnough_c (G : Game) (w : World) (hG : GameOk w G) (g : Sl ByteArray) (hW : GOk w g) (lk : Int) :
  Calls Tryz.prog 13 #[.agg #[G.rm.pls.v, G.rm.ths.v, G.rm.prs.v, G.rm.wys.v, G.rm.acs.v, G.rm.aus.v, .int .i64 G.rm.ply, G.rm.gl.v, G.lks.v, G.cds.v, G.nts.v, .int .i64 G.tr], .int .i64 lk] w (RetB w (.bool true)) := by
 have klk := hG.lks
 have llk := hG.lks.le
 have knt := hG.nts
 have lnt := hG.nts.le
 refine enter Tryz.func13 rfl rfl (Nat.le_of_ble_eq_true rfl) ?_
 refine Nz 0 ?_
 refine Wb 1 rfl rfl (fun _ => rfl) (fun _ => rfl) fun b2 hb2 => ?_
 refine Wd (Qc (Cs (Nz 0 ?_)))
 refine Wk 0 (by first | exact det_loadb0 (j := 0) rfl rfl tk36 | exact det_loadbN (j := 0) rfl rfl (by rfl) tk36 | exact det_loadwN rfl (by assumption) (by rfl) tk36 | exact det_loadbK (n := 12) (j := 0) rfl rfl rfl rfl tk36) ?_
 refine Wk 1 (Cb rfl rfl ent14 (fun u hu => FarG_c G u (hG.st hu))) ?_
 refine Wf 0 rfl rfl (fun hg => by first | exact det_loadb0 (j := 0) rfl rfl tk36 | exact det_loadbN (j := 0) rfl rfl (by rfl) tk36 | exact det_loadwN rfl (by assumption) (by rfl) tk36 | exact det_loadbK (n := 12) (j := 0) rfl rfl rfl rfl tk36) ?_
 refine Wf 0 rfl rfl (fun hg => Cb rfl (ec_ (eg_ hg rfl) en_) ent15 (fun u hu => GRCheck_c G u (hG.st hu) (clB_iff.1 (by cases hq : clB (NearG G) <;> simp_all)))) ?_
 refine Wf 0 rfl rfl (fun hg => Fr) ?_
 refine Wk 1 Po ?_
 refine Wf 0 rfl rfl (fun hg => Fm) ?_
 refine Wf 0 rfl rfl (fun hg => Fl) ?_
 refine Wk 1 Po ?_
 refine Wf 0 rfl rfl (fun hg => Fm) ?_
 refine Wf 0 rfl rfl (fun hg => Ff) ?_
 refine Wf 0 rfl rfl (fun hg => by first | exact det_loadb (j := 0) (eg_ hg rfl) rfl rfl tk32 | exact det_loadw (eg_ hg rfl) (by assumption) rfl tk32) ?_
 refine Wf 0 rfl rfl (fun hg => Nc (eg_ hg rfl)) ?_
 refine Wf 0 rfl rfl (fun hg => Fh) ?_
 refine Wk 0 Po ?_
 refine Wd (Qc (CS.cond rfl ?_ ?_))<;>intro hc1<;>try simp only [bq] at hc1
 ·
  refine Nz 0 ?_
  refine Wk 1 (Cb rfl rfl ent27 (fun u hu => worksG_c u g (hW.st hu))) ?_
  exact Wd (Qc (Cr (Qr (out1 rfl rfl retB))))
 ·
  have hn : NearG G := clB_iff.1 hc1.1.1.1
  have hck : checkG G.p = 0 := hc1.1.1.2
  have hV := good_of hck
  have hnn := hV.nn
  have hnl := hV.nl
  have hl0 : 0 ≤ lk := by omega
  have hl1 : lk < G.lks.l.length := by omega
  have hnv : NeedV G.p lk = (0, (needX G.p lk (allN G.p lk).length)) := (if_pos hck).trans (if_pos (by simp only [Bool.and_eq_true, decide_eq_true_eq]; exact ⟨hl0, by show lk ≤ (G.lks.l.length : Int) - 1; omega⟩))
  have htv : TwinsV G.p = (0, (filI G.lks.l.length fun lk => decide (1 < readN G.p lk (allN G.p lk)))) := if_pos hck
  have hnx : NotesOf G lk (needX G.p lk (allN G.p lk).length) := needX_of _
  have hnxl : (needX G.p lk (allN G.p lk).length).length ≤ 16 := needX_len hV _
  have htwl : ((filI G.lks.l.length fun lk => decide (1 < readN G.p lk (allN G.p lk))).length : Int) ≤ G.lks.l.length := filI_len (by omega)
  refine Ck (Qc (Nz 0 ?_))
  refine Wk 0 (by first | exact det_loadb0 (j := 0) rfl rfl tk36 | exact det_loadbN (j := 0) rfl rfl (by rfl) tk36 | exact det_loadwN rfl (by assumption) (by rfl) tk36 | exact det_loadbK (n := 12) (j := 0) rfl rfl rfl rfl tk36) ?_
  refine Wc rfl rfl ent17 (fun u hu => CopyG_c G u (hG.st hu) hn) (fun _ => rfl) ?_; rintro c ⟨hcp, uc, hcok⟩
  have hnc := near_p hcp hn
  have o1 := Sl.one hcok.rm.pls
  have o2 := Sl.one hcok.rm.ths
  have o3 := Sl.one hcok.rm.prs
  have o4 := Sl.one hcok.rm.wys
  have o5 := Sl.one hcok.rm.acs
  have o6 := Sl.one hcok.rm.aus
  have o7 := Sl.one hcok.rm.gl
  have o8 := Sl.one hcok.lks
  have o9 := Sl.one hcok.cds
  have o10 := Sl.one hcok.nts
  refine Wl 0 zv36 (fun _ => rfl) (fun _ => rfl) fun b5 hb5 => ?_
  refine Wv 0 0 ?_
  refine Wd (Qc (Nz 0 ?_))
  refine Wk 1 (by first | exact det_loadb0 (j := 0) rfl rfl tk36 | exact det_loadbN (j := 0) rfl rfl (by rfl) tk36 | exact det_loadwN rfl (by assumption) (by rfl) tk36 | exact det_loadbK (n := 12) (j := 0) rfl rfl rfl rfl tk36) ?_
  refine Wc rfl rfl ent19 (fun u hu => (by have q := NeededI_c c u (hu.ro (j := 1) rfl) g (hW.st hu) hnc lk; rw [hcp, hnv] at q; exact q)) (fun _ => rfl) ?_; rintro l ⟨ul, hl⟩
  refine Wz 5 ?_
  refine Wd (Qc (Nz 0 ?_))
  refine Wk 0 (by first | exact det_loadb0 (j := 1) rfl rfl tk36 | exact det_loadbN (j := 1) rfl rfl (by rfl) tk36 | exact det_loadwN rfl (by assumption) (by rfl) tk36 | exact det_loadbK (n := 12) (j := 1) rfl rfl rfl rfl tk36) ?_
  refine Wc rfl rfl ent18 (fun u hu => (by have q := TwinsI_c c u (hu.ro (j := 2) rfl) g (hW.st hu) hnc; rw [hcp, htv] at q; exact q)) (fun _ => rfl) ?_; rintro tw ⟨utw, htw⟩
  refine Wz 5 ?_
  refine Wd (Qc (Cs (Nz 3 ?_)))
  refine Wf 0 rfl rfl (fun hg => Fm) ?_
  refine Wf 0 rfl rfl (fun hg => Fr) ?_
  refine Wk 0 Po ?_
  refine Wd (Qc (CS.cond rfl ?_ ?_))<;>intro hc2<;>try simp only [bq] at hc2
  ·
   exact absurd hc2 (by simp)
  ·
   refine Ck (Qc (Nz 1 ?_))
   refine Wk 0 (by first | exact det_loadb0 (j := 4) rfl rfl tk31 | exact det_loadbN (j := 4) rfl rfl (by rfl) tk31 | exact det_loadwN rfl (by assumption) (by rfl) tk31 | exact det_loadbK (n := 8) (j := 4) rfl rfl rfl rfl tk31) ?_
   refine Wc rfl rfl ent54 (fun u hu => RBegin_c G.rm u (hG.rm.st hu) hn.rm) (fun _ => rfl) ?_; rintro z ⟨hzx, uz, hzok⟩
   obtain ⟨hza, hzb, hzc⟩ := hzok.ones
   refine Wz 3 ?_
   refine Wl 0 zv65 (fun _ => rfl) (fun _ => rfl) fun b10 hb10 => ?_
   refine Wv 1 0 ?_
   refine Wd (Qc (Cs (Nz 2 ?_)))
   refine Wd (Qc (CS.cond rfl ?_ ?_))<;>intro hc3<;>try simp only [bq] at hc3
   ·
    refine Nz 0 ?_
    refine Wk 1 (Cb rfl rfl ent27 (fun u hu => worksG_c u g (hW.st hu))) ?_
    exact Wd (Qc (Cr (Qr (out1 rfl rfl retB))))
   ·
    have hb0 : (BeginV G.rm).1 = 0 := hc3
    have hIz : StIn G.rm z.x := by rw [hzx]; exact BeginV_in hV.ck hb0
    refine Ck (Qc (Nz 1 ?_))
    refine Wk 0 (by first | exact det_loadb (j := 6) rfl rfl rfl tk34 | exact det_loadw rfl (by assumption) rfl tk34) ?_
    refine Wk 0 Nc ?_
    refine WS.makeB sl66 rfl rfl zv4 (by omega) (by omega) (by omega) (fun _ => rfl) ?_; intro v75; refine WS.oc (j := 0) rfl (fun hv75 => ?_)
    refine Wz 1 ?_
    refine Wd (Qc (Nz 1 ?_))
    refine Wk 0 (by first | exact det_loadb (j := 7) rfl rfl rfl tk34 | exact det_loadw rfl (by assumption) rfl tk34) ?_
    refine Wk 0 Nc ?_
    refine WS.makeB sl66 rfl rfl zv4 (by omega) (by omega) (by omega) (fun _ => rfl) ?_; intro v79; refine WS.oc (j := 0) rfl (fun hv79 => ?_)
    refine Wz 1 ?_
    refine Wd (Qc (Cs (Nz 1 ?_)))
    refine Wd (Qc (Ce ?_))
    refine CS.sel [1, 0, 0, 0, 1, 0, 0, 0, 0] rfl ?_
    refine CS.loopM (σ := Int × List Bool) [80, 81, 82, 83, 84, 85, 86, 87, 88] (fun s => [(14, .int .i64 s.1)]) (fun s => [oT cBool 4 v75 s.2, oT cBool 4 v79 (List.replicate (G.nts.l.length : Int).toNat false), blk b10 [z.ths.v, z.prs.v, z.pls.v] 65, roS fun u => SttOk u z, roI l (needX G.p lk (allN G.p lk).length), roI tw (filI G.lks.l.length fun lk => decide (1 < readN G.p lk (allN G.p lk))), blk b5 [c.rm.pls.v, c.rm.ths.v, c.rm.prs.v, c.rm.wys.v, c.rm.acs.v, c.rm.aus.v, .int .i64 c.rm.ply, c.rm.gl.v, c.lks.v, c.cds.v, c.nts.v, .int .i64 c.tr] 36, roS fun u => GameOk u c, blk b2 [G.rm.pls.v, G.rm.ths.v, G.rm.prs.v, G.rm.wys.v, G.rm.acs.v, G.rm.aus.v, .int .i64 G.rm.ply, G.rm.gl.v, G.lks.v, G.cds.v, G.nts.v, .int .i64 G.tr] 36]) (fun s => 0 ≤ s.1 ∧ s.1 ≤ G.nts.l.length ∧ s.2 = flagL G.nts.l.length (iotaI s.1.toNat)) (fun s => (G.nts.l.length - s.1).toNat) (0, List.replicate (G.nts.l.length : Int).toNat false) (fun _ _ => rfl) rfl rfl ⟨by simp, by simp, by show List.replicate _ false = flagL _ []; rw [flag_nil, Int.toNat_natCast]⟩ ?_
    intro a t hs
    obtain ⟨ha1, ha2, ha3⟩ := hs
    have hal : a.2.length = G.nts.l.length := by rw [ha3, flag_len]
    refine Cs (Nz 2 ?_)
    refine Wk 1 (det_lenOT (j := 0) sl66 rfl rfl) ?_
    refine Wd (Qc (CS.cond rfl ?_ ?_))<;>intro hc4<;>try simp only [bq] at hc4
    ·
     refine Ck (Qc (Cs (Ce (Ny 2 ?_))))
     refine Wk 0 (det_idxOT (j := 0) sl66 rfl rfl rfl rfl (by omega) (by omega)) ?_
     refine WS.storeTc (C := cBool) 1 0 true (j := 0) rfl rfl rfl ⟨by omega, by omega⟩ (by decide) rfl rfl tk4 rfl rfl ?_
     refine Wd (Qb (Qc (Ny 1 ?_)))
     refine Wk 1 Za ?_
     exact Wd (QS.head ((a.1 + 1, a.2.set a.1.toNat true)) rfl rfl ⟨⟨by simp; omega, by simp; omega, by show a.2.set a.1.toNat true = _; rw [ha3, flag_iota ha1 (by omega)]⟩, by simp; omega⟩)
    ·
     have haa : a.2 = flagL G.nts.l.length (iotaI G.nts.l.length) := by rw [ha3, show a.1.toNat = G.nts.l.length by omega]
     have hrvA := (rdAll hck (v := v75) hIz (fl := a.2) (by omega) hl0 hl1).trans (by rw [haa, clu_full])
     refine Cv (Qe (Qe (Qx (Qc (Cs (Nz 1 ?_))))))
     refine Wd (Qc (Ce ?_))
     refine CS.loopM (σ := Int × List Bool) [4, 89, 90, 91, 92, 93, 94, 95, 96, 97, 98, 99, 100, 101, 102, 103, 104, 105, 106, 107, 108, 109, 110, 111, 112, 113, 114, 115, 116, 117, 118, 119, 120, 121, 122, 123, 124, 125, 126, 127] (fun s => [(15, .int .i64 s.1)]) (fun s => [oT cBool 4 v75 a.2, oT cBool 4 v79 s.2, blk b10 [z.ths.v, z.prs.v, z.pls.v] 65, roS fun u => SttOk u z, roI l (needX G.p lk (allN G.p lk).length), roI tw (filI G.lks.l.length fun lk => decide (1 < readN G.p lk (allN G.p lk))), blk b5 [c.rm.pls.v, c.rm.ths.v, c.rm.prs.v, c.rm.wys.v, c.rm.acs.v, c.rm.aus.v, .int .i64 c.rm.ply, c.rm.gl.v, c.lks.v, c.cds.v, c.nts.v, .int .i64 c.tr] 36, roS fun u => GameOk u c, blk b2 [G.rm.pls.v, G.rm.ths.v, G.rm.prs.v, G.rm.wys.v, G.rm.acs.v, G.rm.aus.v, .int .i64 G.rm.ply, G.rm.gl.v, G.lks.v, G.cds.v, G.nts.v, .int .i64 G.tr] 36]) (fun s => 0 ≤ s.1 ∧ s.1 ≤ (needX G.p lk (allN G.p lk).length).length ∧ s.2 = flagL G.nts.l.length ((needX G.p lk (allN G.p lk).length).take s.1.toNat)) (fun s => ((needX G.p lk (allN G.p lk).length).length - s.1).toNat) (0, List.replicate (G.nts.l.length : Int).toNat false) (fun _ _ => rfl) rfl rfl ⟨by simp, by simp, by show List.replicate _ false = flagL _ []; rw [flag_nil, Int.toNat_natCast]⟩ ?_
     intro d t hs
     obtain ⟨hd1, hd2, hd3⟩ := hs
     have hdl : d.2.length = G.nts.l.length := by rw [hd3, flag_len]
     refine Cs (Nz 2 ?_)
     refine Wk 1 (det_lenS sl42 rfl hl) ?_
     refine Wd (Qc (CS.cond rfl ?_ ?_))<;>intro hc5<;>try simp only [bq] at hc5
     ·
      have hni := hnx _ (nth_mem (i := d.1) (xs := (needX G.p lk (allN G.p lk).length)) hd1 (by omega))
      refine Ck (Qc (Cs (Ce (Cs (Cs (Dr mixed 2 ?_))))))
      refine Dk 0 (det_idxI sl42 rfl rfl hl (by omega) (by omega)) ?_
      refine Dk 2 (det_ldIR rfl (j := 4) rfl ⟨by omega, by omega⟩ tk3) ?_
      refine Df 0 rfl rfl (fun hg => Fm) ?_
      refine Df 0 rfl rfl (fun hg => Fm) ?_
      refine Df 0 rfl rfl (fun hg => det_idxI sl42 (eg_ hg rfl) (eg_ hg rfl) hl (by omega) (by omega)) ?_
      refine Df 0 rfl rfl (fun hg => det_ldIR (eg_ hg rfl) (j := 4) rfl ⟨by omega, by omega⟩ tk3) ?_
      refine Df 0 rfl rfl (fun hg => Fm) ?_
      refine Df 0 rfl rfl (fun hg => det_lenOT (j := 1) sl66 (eg_ hg rfl) rfl) ?_
      refine Df 0 rfl rfl (fun hg => Fh) ?_
      refine Dk 1 Po ?_
      refine Df 0 rfl rfl (fun hg => Ff) ?_
      refine Df 0 rfl rfl (fun hg => by first | exact det_loadb (j := 8) (eg_ hg rfl) rfl rfl tk34 | exact det_loadw (eg_ hg rfl) (by assumption) rfl tk34) ?_
      refine Df 0 rfl rfl (fun hg => Fm) ?_
      refine Df 0 rfl rfl (fun hg => Fm) ?_
      refine Df 0 rfl rfl (fun hg => det_idxI sl42 (eg_ hg rfl) (eg_ hg rfl) hl (by omega) (by omega)) ?_
      refine Df 0 rfl rfl (fun hg => det_ldIR (eg_ hg rfl) (j := 4) rfl ⟨by omega, by omega⟩ tk3) ?_
      refine Df 0 rfl rfl (fun hg => Xc (eg_ hg rfl)) ?_
      refine Df 0 rfl rfl (fun hg => Ff) ?_
      refine Df 0 rfl rfl (fun hg => by first | exact det_ldUc 11 2 (eg_ hg rfl) (by assumption) rfl ⟨(by (try simp only [bq] at hg); omega), (by (try simp only [bq] at hg); omega)⟩ (by decide) rfl tk3 | exact det_ldRU (jj := 3) 11 2 rfl (eg_ hg rfl) rfl ⟨(by (try simp only [bq] at hg); omega), (by (try simp only [bq] at hg); omega)⟩ (by decide) rfl tk3 | exact det_ldRU (jj := 4) 11 2 rfl (eg_ hg rfl) rfl ⟨(by (try simp only [bq] at hg); omega), (by (try simp only [bq] at hg); omega)⟩ (by decide) rfl tk3 | exact det_ldRU (jj := 5) 11 2 rfl (eg_ hg rfl) rfl ⟨(by (try simp only [bq] at hg); omega), (by (try simp only [bq] at hg); omega)⟩ (by decide) rfl tk3 | exact det_ldRU (jj := 7) 11 2 rfl (eg_ hg rfl) rfl ⟨(by (try simp only [bq] at hg); omega), (by (try simp only [bq] at hg); omega)⟩ (by decide) rfl tk3) ?_
      refine Df 0 rfl rfl (fun hg => Fm) ?_
      refine Df 0 rfl rfl (fun hg => Fr) ?_
      refine Dk 0 Po ?_
      refine Dd (Qc (CS.cond rfl ?_ ?_))<;>intro hc6<;>try simp only [bq] at hc6
      ·
       exfalso
       obtain ⟨⟨h7, h8⟩, h9⟩ := hni
       simp [h9] at hc6
       omega
      ·
       refine Ck (Qc (Ny 3 ?_))
       refine Wk 0 (det_idxI sl42 rfl rfl hl (by omega) (by omega)) ?_
       refine Wk 0 (det_ldIR rfl (j := 4) rfl ⟨by omega, by omega⟩ tk3) ?_
       refine Wk 0 (det_idxOT (j := 1) sl66 rfl rfl rfl rfl (by omega) (by omega)) ?_
       refine WS.storeTc (C := cBool) 1 0 true (j := 1) rfl rfl rfl ⟨by omega, by omega⟩ (by decide) rfl rfl tk4 rfl rfl ?_
       refine Wd (Qb (Qc (Ny 1 ?_)))
       refine Wk 1 Za ?_
       exact Wd (QS.head ((d.1 + 1, d.2.set (nth (needX G.p lk (allN G.p lk).length) d.1).toNat true)) rfl rfl ⟨⟨by simp; omega, by simp; omega, by show d.2.set _ true = _; rw [hd3, flag_take hd1 (by omega) hni.1]⟩, by simp; omega⟩)
     ·
      have hdd : d.2 = flagL G.nts.l.length (needX G.p lk (allN G.p lk).length) := by rw [hd3, List.take_of_length_le (by omega)]
      have hrvF := (rdAll hck (v := v79) hIz (fl := d.2) (by omega) hl0 hl1).trans (by rw [hdd, clu_flag hnx, need_same])
      refine Cv (Qe (Qe (Qx (Qc (Nz 0 ?_)))))
      refine Wk 0 (by first | exact det_loadb0 (j := 6) rfl rfl tk36 | exact det_loadbN (j := 6) rfl rfl (by rfl) tk36 | exact det_loadwN rfl (by assumption) (by rfl) tk36 | exact det_loadbK (n := 12) (j := 6) rfl rfl rfl rfl tk36) ?_
      refine Wk 1 (by first | exact det_loadb0 (j := 2) rfl rfl tk65 | exact det_loadbN (j := 2) rfl rfl (by rfl) tk65 | exact det_loadwN rfl (by assumption) (by rfl) tk65 | exact det_loadbK (n := 3) (j := 2) rfl rfl rfl rfl tk65) ?_
      refine Wk 1 (det_buildG plc68 zv68 (pcs := [(0, [z.ths.v, z.prs.v, z.pls.v]), (1, [v75])]) rfl (CellsOf.agg (CellsOf.one hv75 CellsOf.nil)) rfl) ?_
      refine Wk 5 (Cb rfl rfl ent34 (fun u hu => (by have q := ReadingsI_c c u (hu.ro (j := 7) rfl) g (hW.st hu) hnc ⟨z, ⟨v75, a.2⟩⟩ ⟨hu.ro (j := 3) rfl, oT_SlT hu (j := 0) rfl fun _ _ ↦ trivial⟩ lk; rw [hcp, hrvA] at q; exact q))) ?_
      refine Wd (Qc (Nz 0 ?_))
      refine Wk 0 (by first | exact det_loadb0 (j := 6) rfl rfl tk36 | exact det_loadbN (j := 6) rfl rfl (by rfl) tk36 | exact det_loadwN rfl (by assumption) (by rfl) tk36 | exact det_loadbK (n := 12) (j := 6) rfl rfl rfl rfl tk36) ?_
      refine Wk 1 (by first | exact det_loadb0 (j := 2) rfl rfl tk65 | exact det_loadbN (j := 2) rfl rfl (by rfl) tk65 | exact det_loadwN rfl (by assumption) (by rfl) tk65 | exact det_loadbK (n := 3) (j := 2) rfl rfl rfl rfl tk65) ?_
      refine Wk 1 (det_buildG plc68 zv68 (pcs := [(0, [z.ths.v, z.prs.v, z.pls.v]), (1, [v79])]) rfl (CellsOf.agg (CellsOf.one hv79 CellsOf.nil)) rfl) ?_
      refine Wk 5 (Cb rfl rfl ent34 (fun u hu => (by have q := ReadingsI_c c u (hu.ro (j := 7) rfl) g (hW.st hu) hnc ⟨z, ⟨v79, d.2⟩⟩ ⟨hu.ro (j := 3) rfl, oT_SlT hu (j := 1) rfl fun _ _ ↦ trivial⟩ lk; rw [hcp, hrvF] at q; exact q))) ?_
      refine Wd (Qc (Cs (Nz 3 ?_)))
      refine Wf 0 rfl rfl (fun hg => Fm) ?_
      refine Wf 0 rfl rfl (fun hg => Fr) ?_
      refine Wk 1 Po ?_
      refine Wf 0 rfl rfl (fun hg => Fm) ?_
      refine Wf 0 rfl rfl (fun hg => Fm) ?_
      refine Wf 0 rfl rfl (fun hg => Fr) ?_
      refine Wk 0 Po ?_
      refine Wd (Qc (CS.cond rfl ?_ ?_))<;>intro hc7<;>try simp only [bq] at hc7
      ·
       exact absurd hc7 (by simp)
      ·
       refine Ck (Qc (Cs (Nz 1 ?_)))
       refine Wd (Qc (Ce ?_))
       refine CS.loopM (σ := Int) [4, 21, 22, 157, 158, 159, 160, 161, 162, 163, 164, 165, 166, 167, 168, 169, 170, 171, 172, 173, 174, 175, 176, 177, 178, 179, 180, 181, 182, 183, 184, 185, 186, 187, 188, 189, 190] (fun s => [(20, .int .i64 s)]) (fun s => [oT cBool 4 v75 a.2, oT cBool 4 v79 d.2, blk b10 [z.ths.v, z.prs.v, z.pls.v] 65, roS fun u => SttOk u z, roI l (needX G.p lk (allN G.p lk).length), roI tw (filI G.lks.l.length fun lk => decide (1 < readN G.p lk (allN G.p lk))), blk b5 [c.rm.pls.v, c.rm.ths.v, c.rm.prs.v, c.rm.wys.v, c.rm.acs.v, c.rm.aus.v, .int .i64 c.rm.ply, c.rm.gl.v, c.lks.v, c.cds.v, c.nts.v, .int .i64 c.tr] 36, roS fun u => GameOk u c, blk b2 [G.rm.pls.v, G.rm.ths.v, G.rm.prs.v, G.rm.wys.v, G.rm.acs.v, G.rm.aus.v, .int .i64 G.rm.ply, G.rm.gl.v, G.lks.v, G.cds.v, G.nts.v, .int .i64 G.tr] 36]) (fun s => 0 ≤ s ∧ s ≤ (needX G.p lk (allN G.p lk).length).length) (fun s => ((needX G.p lk (allN G.p lk).length).length - s).toNat) 0 (fun _ _ => rfl) rfl rfl ⟨by omega, by omega⟩ ?_
       intro k t hs
       obtain ⟨hk1, hk2⟩ := hs
       refine Cs (Nz 2 ?_)
       refine Wk 1 (det_lenS sl42 rfl hl) ?_
       refine Wd (Qc (CS.cond rfl ?_ ?_))<;>intro hc8<;>try simp only [bq] at hc8
       ·
        have hkm := nth_mem (i := k) (xs := (needX G.p lk (allN G.p lk).length)) hk1 (by omega)
        obtain ⟨⟨h7, h8⟩, h9⟩ := hnx _ hkm
        have hcl : (d.2.set (nth (needX G.p lk (allN G.p lk).length) k).toNat false) = flagL G.nts.l.length ((needX G.p lk (allN G.p lk).length).filter fun q => !decide (q = (nth (needX G.p lk (allN G.p lk).length) k))) := by rw [hdd, flag_clear h7 h8]
        have hback : (d.2.set (nth (needX G.p lk (allN G.p lk).length) k).toNat false).set (nth (needX G.p lk (allN G.p lk).length) k).toNat true = d.2 := by rw [hcl, flag_back h7 h8 hkm, ← hdd]
        have hrvC := (rdAll hck (v := v79) hIz (fl := (d.2.set (nth (needX G.p lk (allN G.p lk).length) k).toNat false)) (by rw [List.length_set]; omega) hl0 hl1).trans (by rw [hcl, clu_flag hnx.filt])
        have hmo := need_more hkm
        refine Ck (Qc (Cs (Ce (Nz 3 ?_))))
        refine Wk 0 (det_idxI sl42 rfl rfl hl (by omega) (by omega)) ?_
        refine Wk 0 (det_ldIR rfl (j := 4) rfl ⟨by omega, by omega⟩ tk3) ?_
        refine Wk 0 (det_idxOT (j := 1) sl66 rfl rfl rfl rfl (by omega) (by omega)) ?_
        refine WS.storeTc (C := cBool) 1 0 false (j := 1) rfl rfl rfl ⟨by omega, by omega⟩ (by decide) rfl rfl tk4 rfl rfl ?_
        refine Wd (Qc (Nz 0 ?_))
        refine Wk 0 (by first | exact det_loadb0 (j := 6) rfl rfl tk36 | exact det_loadbN (j := 6) rfl rfl (by rfl) tk36 | exact det_loadwN rfl (by assumption) (by rfl) tk36 | exact det_loadbK (n := 12) (j := 6) rfl rfl rfl rfl tk36) ?_
        refine Wk 1 (by first | exact det_loadb0 (j := 2) rfl rfl tk65 | exact det_loadbN (j := 2) rfl rfl (by rfl) tk65 | exact det_loadwN rfl (by assumption) (by rfl) tk65 | exact det_loadbK (n := 3) (j := 2) rfl rfl rfl rfl tk65) ?_
        refine Wk 1 (det_buildG plc68 zv68 (pcs := [(0, [z.ths.v, z.prs.v, z.pls.v]), (1, [v79])]) rfl (CellsOf.agg (CellsOf.one hv79 CellsOf.nil)) rfl) ?_
        refine Wk 5 (Cb rfl rfl ent34 (fun u hu => (by have q := ReadingsI_c c u (hu.ro (j := 7) rfl) g (hW.st hu) hnc ⟨z, ⟨v79, (d.2.set (nth (needX G.p lk (allN G.p lk).length) k).toNat false)⟩⟩ ⟨hu.ro (j := 3) rfl, oT_SlT hu (j := 1) rfl fun _ _ ↦ trivial⟩ lk; rw [hcp, hrvC] at q; exact q))) ?_
        refine Wd (Qc (Nz 3 ?_))
        refine Wk 0 (det_idxI sl42 rfl rfl hl (by omega) (by omega)) ?_
        refine Wk 0 (det_ldIR rfl (j := 4) rfl ⟨by omega, by omega⟩ tk3) ?_
        refine Wk 0 (det_idxOT (j := 1) sl66 rfl rfl rfl rfl (by omega) (by rw [List.length_set]; omega)) ?_
        refine WS.storeTc (C := cBool) 1 0 true (j := 1) rfl rfl rfl ⟨by omega, (by rw [List.length_set]; omega)⟩ (by decide) rfl rfl tk4 rfl rfl ?_
        refine Wd (Qc (Nz 3 ?_))
        refine Wf 0 rfl rfl (fun hg => Fm) ?_
        refine Wf 0 rfl rfl (fun hg => Fm) ?_
        refine Wf 0 rfl rfl (fun hg => Fk) ?_
        refine Wk 0 Po ?_
        refine Wd (Qc (CS.cond rfl ?_ ?_))<;>intro hc9<;>try simp only [bq] at hc9
        ·
         exfalso
         simp at hc9
         omega
        ·
         refine Ck (Qb (Qc (Ny 1 ?_)))
         refine Wk 1 Za ?_
         exact Wd (QS.head (k + 1) rfl (by rw [hback]) ⟨⟨by omega, by omega⟩, by omega⟩)
       ·
        refine Cv (Qe (Qe (Qx (Qc (Nz 1 ?_)))))
        refine Wd (Qc (Cs (Nz 1 ?_)))
        refine Wd (Qc (Ce ?_))
        refine CS.loopM (σ := Int × Bool) [191, 192, 193, 194, 195, 196, 197, 198, 199, 200, 201, 202, 203, 204, 205] (fun s => [(24, .int .i64 s.1), (23, .bool s.2)]) (fun _ => _) (fun s => 0 ≤ s.1 ∧ s.1 ≤ (filI G.lks.l.length fun lk => decide (1 < readN G.p lk (allN G.p lk))).length ∧ s.2 = ((filI G.lks.l.length fun lk => decide (1 < readN G.p lk (allN G.p lk))).take s.1.toNat).any fun y => decide (y = lk)) (fun s => ((filI G.lks.l.length fun lk => decide (1 < readN G.p lk (allN G.p lk))).length - s.1).toNat) (0, false) (fun _ _ => rfl) rfl rfl ⟨by simp, by simp, by simp⟩ ?_
        intro e t hs
        obtain ⟨he1, he2, he3⟩ := hs
        refine Cs (Nz 2 ?_)
        refine Wk 1 (det_lenS sl42 rfl htw) ?_
        refine Wd (Qc (CS.cond rfl ?_ ?_))<;>intro hc10<;>try simp only [bq] at hc10
        ·
         refine Ck (Qc (Cs (Ce (Ny 2 ?_))))
         refine Wf 0 rfl rfl (fun hg => Fm) ?_
         refine Wf 0 rfl rfl (fun hg => Fm) ?_
         refine Wf 0 rfl rfl (fun hg => det_idxI sl42 (eg_ hg rfl) (eg_ hg rfl) htw (by omega) (by omega)) ?_
         refine Wf 0 rfl rfl (fun hg => det_ldIR (eg_ hg rfl) (j := 5) rfl ⟨by omega, by omega⟩ tk3) ?_
         refine Wf 0 rfl rfl (fun hg => Fm) ?_
         refine Wf 0 rfl rfl (fun hg => Fq) ?_
         refine Wk 1 Po ?_
         refine Wd (Qb (Qc (Ny 1 ?_)))
         refine Wk 1 Za ?_
         exact Wd (QS.head ((e.1 + 1, e.2 || decide (nth (filI G.lks.l.length fun lk => decide (1 < readN G.p lk (allN G.p lk))) e.1 = lk))) rfl rfl ⟨⟨by simp; omega, by simp; omega, by simp only; rw [he3, any_snocI he1 (by omega)]⟩, by simp; omega⟩)
        ·
         have htt : e.2 = decide (1 < readN G.p lk (allN G.p lk)) := by rw [he3, List.take_of_length_le (by omega), any_filI ⟨hl0, hl1⟩]
         refine Cv (Qe (Qe (Qx (Qc (Nz 3 ?_)))))
         refine Wk 1 (det_eqb rfl rfl Tryz.underlying4) ?_
         refine Wt 0 rfl rfl (fun hg => Cb rfl rfl ent27 (fun u hu => worksG_c u g (hW.st hu))) ?_
         refine Wk 1 Pa ?_
         exact Wd (Qc (Cr (out1 rfl rfl (retBe (by rw [htt]; simp)))))
end Go.Proofs.YtaeagngfhceceaaGreatDoor
