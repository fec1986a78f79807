/- Merged texts of this proof (walks and plain laws), printed by a program of the prover. -/
import Derived.Test.YtdpbapffdmahnaaGreatDoorZb
import Derived.Test.YtdpbapffdmahnaaGreatDoorShelf
import Derived.Test.YtdpbapffdmahnaaGreatDoorZf
import Derived.Test.YtdpbapffdmahnaaGreatDoorZk
set_option maxHeartbeats 8000000
namespace Go.Proofs.YtdpbapffdmahnaaGreatDoor
open Go.RowKit Go.Proofs
set_option maxRecDepth 100000
set_option linter.unusedVariables false
set_option linter.unusedSimpArgs false
theorem Jed (n:Int) (w:World) (h:0≤n∧n < 10) :
  Calls Tryz.prog 29 #[.int .i64 n] w (RetB w (.string (digB n))):=by
 refine enter Tryz.func29 rfl rfl (Nat.le_of_ble_eq_true rfl) ?_
 refine Nz 1 ?_
 refine Wd (Qc (Nz 1 ?_))
 refine Wk 1 (Jkn rfl rfl (by omega) (by omega)) ?_
 refine Wk 0 (Jkn rfl rfl (by omega) (by omega)) ?_
 refine Wk 0 Za ?_
 refine Wk 1 (Ji8 Tryz.underlying9 rfl rfl rfl (by show _∧_∧_≤((10:Nat):Int); omega)) ?_
 refine Wd (Qc (Cs (Nz 2 ?_)))
 refine Wd (Qc (CS.cond rfl ?_ ?_))<;>intro hc1<;>try simp only [bq] at hc1
 ·
  refine Nz 2 ?_
  exact Wd (Qc (Cr (Qr (out1 rfl rfl (Jaa (by rcases (show n=0∨n=1∨n=2∨n=3∨n=4∨n=5∨n=6∨n=7∨n=8∨n=9 by omega) with rfl | rfl | rfl | rfl | rfl | rfl | rfl | rfl | rfl | rfl <;> exact congrArg Value.string (by kernel_rfl)))))))
 exact absurd hc1 (by omega)
theorem Jjn (n:Int) (w:World) (h:0≤n∧n < 100):Calls Tryz.prog 24 #[.int .i64 n] w (RetB w (.string (digB n))):=by
 have e:n=((n.toNat:Nat):Int):=by omega
 have q:=Tryz.strconv_Itoa_small n.toNat (by omega) w
 rw [← e] at q
 refine q.mono ?_
 rintro e' w' ⟨rfl,rfl⟩
 exact ⟨rfl,Below.refl _ _⟩
theorem Jnl (r:Room) (w:World) (hr:RoomOk w r) (hn:Near r) (z:Stt) (hz:SttOk w z) :
  Calls Tryz.prog 12 #[.agg #[r.pls.v,r.ths.v,r.prs.v,r.wys.v,r.acs.v,r.aus.v,.int .i64 r.ply,r.gl.v],.agg #[z.ths.v,z.prs.v,z.pls.v]] w (RetB w (.tuple #[.string (ShowV r z.x).2,.int .i64 (ShowV r z.x).1])):=by
 have kpl:=hr.pls
 have lpl:=hr.pls.le
 have kth:=hr.ths
 have lth:=hr.ths.le
 have kpr:=hr.prs
 have lpr:=hr.prs.le
 have kwy:=hr.wys
 have lwy:=hr.wys.le
 have kac:=hr.acs
 have lac:=hr.acs.le
 have kau:=hr.aus
 have lau:=hr.aus.le
 have kgl:=hr.gl
 have lgl:=hr.gl.le
 have zth:=hz.ths.ints
 have zpr:=hz.prs.ints
 have zpl:=hz.pls.ints
 have sp32:(⟨#[32]⟩:ByteArray).size=1:=rfl
 have sp61:(⟨#[61]⟩:ByteArray).size=1:=rfl
 have sp64:(⟨#[64]⟩:ByteArray).size=1:=rfl
 have sp4:(⟨#[103,111,110,101]⟩:ByteArray).size=4:=rfl
 have n1:=hn.ths
 have n2:=hn.prs
 refine enter Tryz.func12 rfl rfl (Nat.le_of_ble_eq_true rfl) ?_
 refine Nz 0 ?_
 refine Wb 0 rfl rfl (fun _=>rfl) (fun _=>rfl) fun b2 hb2=>?_
 refine Wb 2 rfl rfl (fun _=>rfl) (fun _=>rfl) fun b3 hb3=>?_
 refine Wd (Qc (Nz 0 ?_))
 refine Wk 0 (by first | exact Ja3 (j:=1) rfl rfl tk31 | exact Jat (j:=1) rfl rfl (by rfl) tk31 | exact Ja2 rfl (by assumption) (by rfl) tk31 | exact Ja1 (n:=8) (j:=1) rfl rfl rfl rfl tk31) ?_
 refine Wk 0 (by first | exact Ja3 (j:=0) rfl rfl tk34 | exact Jat (j:=0) rfl rfl (by rfl) tk34 | exact Ja2 rfl (by assumption) (by rfl) tk34 | exact Ja1 (n:=3) (j:=0) rfl rfl rfl rfl tk34) ?_
 refine Wk 1 (Cb rfl rfl Jpu (fun u hu=>Je4 r u (hr.st hu) hn z (hz.st hu))) ?_
 refine Wd (Qc (Cs (Nz 2 ?_)))
 refine Wd (Qc (CS.cond rfl ?_ ?_))<;>intro hc1<;>try simp only [bq] at hc1
 ·
  have hS:¬ stL r z.x=0:=hc1
  refine Nz 3 ?_
  exact Wd (Qc (Cr (Qr (out2 rfl rfl rfl (Jaa (by unfold ShowV; rw [if_neg hS]; rfl))))))
 have hS:stL r z.x=0:=hc1
 have hsh:Shown r z.x:=Shown.of (Jcm (Jds.1 hS).1) (Jds.1 hS).2
 have z1:z.ths.l.length=r.ths.l.length:=hsh.lt
 have z2:z.prs.l.length=r.prs.l.length:=hsh.lp
 have z3:1≤z.pls.l.length∧z.pls.l.length≤4:=hsh.ll
 refine Ck (Qc (Nz 1 ?_))
 refine Wd (Qc (Cs (Nz 1 ?_)))
 refine Wd (Qc (Ce ?_))
 refine CS.loopM (σ:=Int × ByteArray) [19,20,21,22,23,24,25,26,27,28,29,30,31,32,33,34,35,36,37,38,39,40,41,42] (fun s=>[(8,.int .i64 s.1),(7,.string s.2)]) (fun _=>_) (fun s=>0≤s.1∧s.1≤r.ths.l.length∧s.2=catB ((Jaw s.1.toNat).map (pcT r z.x))∧(s.2.size:Int)≤300 * (s.1+0)) (fun s=>(r.ths.l.length - s.1).toNat) (0,⟨#[]⟩) (fun _ _=>rfl) rfl rfl ⟨by simp,by simp,rfl,by show ((0:Nat):Int)≤300 * (0+0); omega⟩ ?_
 intro a t hs
 obtain ⟨ha1,ha2,ha3,ha4⟩:=hs
 refine Cs (Nz 2 ?_)
 refine Wk 0 (by first | exact Jab (j:=1) rfl rfl rfl tk23 | exact Jaj rfl (by assumption) rfl tk23) ?_
 refine Wk 1 Nc ?_
 refine Wd (Qc (CS.cond rfl ?_ ?_))<;>intro hc2<;>try simp only [bq] at hc2
 ·
  have hnm:=hn.th _ (Jad ha1 (show a.1 < (r.ths.l.length:Int) by omega))
  have hd:0≤nth z.ths.l a.1∧nth z.ths.l a.1 < 10:=hsh.th a.1 ha1 (by show a.1 < (z.ths.l.length:Int); omega)
  have hds:=Jbp hd
  refine Ck (Qc (Cs (Ce (Dr mixed 1 ?_))))
  refine Dk 1 (Jar rfl rfl (by (try simp only [ByteArray.size_append]); omega)) ?_
  refine Dk 1 (by first | exact Jab (j:=1) rfl rfl rfl tk23 | exact Jaj rfl (by assumption) rfl tk23) ?_
  refine Dk 1 Xc ?_
  refine Dk 0 (Uc 4 0) ?_
  refine Dk 0 (Jar rfl rfl (by (try simp only [ByteArray.size_append]); omega)) ?_
  refine Dk 1 (Jar rfl rfl (by (try simp only [ByteArray.size_append]); omega)) ?_
  refine Dk 1 (by first | exact Jab (j:=0) rfl rfl rfl tk32 | exact Jaj rfl (by assumption) rfl tk32) ?_
  refine Dk 0 (by first | exact Jcb sl32 rfl rfl (by assumption) (by omega) (by omega) | exact Jby sl32 rfl rfl (by omega) (by omega)) ?_
  refine Dk 0 (by first | exact Jcw rfl (by assumption) (by omega) tk3 | exact Jab (j:=0) rfl rfl rfl tk3 | exact Jab (j:=1) rfl rfl rfl tk3 | exact Jab (j:=2) rfl rfl rfl tk3 | exact Jab (j:=3) rfl rfl rfl tk3 | exact Jaj rfl (by assumption) rfl tk3) ?_
  refine Dk 0 (Cb rfl rfl Jm7 (fun u hu=>Jed _ u hd)) ?_
  refine Dk 1 (Jar rfl rfl (by (try simp only [ByteArray.size_append]); omega)) ?_
  refine Dd (Qb (Qc (Ny 1 ?_)))
  refine Wk 1 Za ?_
  refine Wd ?_
  exact QS.head ((a.1+1,a.2++(⟨#[32]⟩:ByteArray)++(nth r.ths.l a.1).nm++(⟨#[61]⟩:ByteArray)++digB (nth z.ths.l a.1))) rfl rfl ⟨⟨by simp; omega,by simp; omega,by
     show _=catB ((Jaw (a.1+1).toNat).map (pcT r z.x))
     rw [Jbh ha1,List.map_append,List.map_singleton,Jei,ha3]; simp only [pcT,ByteArray.append_assoc] <;> rfl,by
     simp only [ByteArray.size_append]; omega⟩,by simp; omega⟩
 refine Cv (Qe (Qe (Qx (Qc (Cs (Nz 1 ?_))))))
 refine Wd (Qc (Ce ?_))
 refine CS.loopM (σ:=Int × ByteArray) [10,11,43,44,45,46,47,48,49,50,51,52,53,54,55,56,57,58,59,60,61,62,63,64,65,66,67,68,69,70,71,72,73,74,75,76,77,78] (fun s=>[(9,.int .i64 s.1),(7,.string s.2)]) (fun _=>_) (fun s=>0≤s.1∧s.1≤r.prs.l.length∧s.2=catB ((Jaw r.ths.l.length).map (pcT r z.x)++(Jaw s.1.toNat).map (pcP r z.x))∧(s.2.size:Int)≤300 * (s.1+15)) (fun s=>(r.prs.l.length - s.1).toNat) (0,a.2) (fun _ _=>rfl) rfl rfl ⟨by simp,by simp,by show a.2=_; rw [ha3,show a.1.toNat=r.ths.l.length by omega]; simp [Jaw],by show (a.2.size:Int)≤300 * (0+15); omega⟩ ?_
 intro b t hs
 obtain ⟨hb1,hb2,hb3,hb4⟩:=hs
 refine Cs (Nz 2 ?_)
 refine Wk 0 (by first | exact Jab (j:=1) rfl rfl rfl tk24 | exact Jaj rfl (by assumption) rfl tk24) ?_
 refine Wk 1 Nc ?_
 refine Wd (Qc (CS.cond rfl ?_ ?_))<;>intro hc3<;>try simp only [bq] at hc3
 ·
  have hnm:=(hn.pr _ (Jad hb1 (show b.1 < (r.prs.l.length:Int) by omega))).1
  have hd:(0≤nth z.prs.l b.1∧nth z.prs.l b.1 < r.pls.l.length)∨nth z.prs.l b.1 = -1∨(-5≤nth z.prs.l b.1∧nth z.prs.l b.1 ≤ -2):=hsh.pr b.1 hb1 (by show b.1 < (z.prs.l.length:Int); omega)
  refine Ck (Qc (Cs (Ce (Nz 1 ?_))))
  refine Wk 1 (by first | exact Jab (j:=0) rfl rfl rfl tk32 | exact Jaj rfl (by assumption) rfl tk32) ?_
  refine Wk 0 (by first | exact Jcb sl32 rfl rfl (by assumption) (by omega) (by omega) | exact Jby sl32 rfl rfl (by omega) (by omega)) ?_
  refine Wk 1 (by first | exact Jcw rfl (by assumption) (by omega) tk3 | exact Jab (j:=0) rfl rfl rfl tk3 | exact Jab (j:=1) rfl rfl rfl tk3 | exact Jab (j:=2) rfl rfl rfl tk3 | exact Jab (j:=3) rfl rfl rfl tk3 | exact Jaj rfl (by assumption) rfl tk3) ?_
  refine Wd (Qc (Nz 1 ?_))
  refine Wd (Qc ?_)
  refine CS.cut (σ:=ByteArray) [55,56,57,58,59,60,61] (fun s=>[(11,.string s)]) (fun s=>[blk b3 [z.ths.v,z.prs.v,z.pls.v] 34,blk b2 [r.pls.v,r.ths.v,r.prs.v,r.wys.v,r.acs.v,r.aus.v,.int .i64 r.ply,r.gl.v] 31]) (fun s=>(if 0≤nth z.prs.l b.1 then s=nth r.pls.l (nth z.prs.l b.1) else s=⟨#[103,111,110,101]⟩)∧s.size≤100) (fun _ _=>rfl) ?_ ?_
  ·
   refine Nz 2 ?_
   refine Wd (Qc (CS.cond rfl ?_ ?_))<;>intro hc4<;>try simp only [bq] at hc4
   ·
    have hpn:=hn.pl _ (Jad hc4 (show nth z.prs.l b.1 < (r.pls.l.length:Int) by omega))
    refine Ny 1 ?_
    refine Wk 1 (by first | exact Jab (j:=1) rfl rfl rfl tk22 | exact Jaj rfl (by assumption) rfl tk22) ?_
    refine Wk 0 Xc ?_
    refine Wk 1 Ub ?_
    exact Wd (QS.head ((nth r.pls.l (nth z.prs.l b.1))) rfl rfl ⟨by rw [if_pos hc4],hpn⟩)
   exact Ck (QS.head (⟨#[103,111,110,101]⟩) rfl rfl ⟨by rw [if_neg hc4],by decide⟩)
  intro p t hs
  obtain ⟨hp1,hp2⟩:=hs
  refine CS.cut (σ:=ByteArray) [62,63,64,65,66] (fun s=>[(11,.string s)]) (fun s=>[blk b3 [z.ths.v,z.prs.v,z.pls.v] 34,blk b2 [r.pls.v,r.ths.v,r.prs.v,r.wys.v,r.acs.v,r.aus.v,.int .i64 r.ply,r.gl.v] 31]) (fun s=>s=whP r (nth z.prs.l b.1)∧s.size≤100) (fun _ _=>rfl) ?_ ?_
  ·
   refine Nz 2 ?_
   refine Wd (Qc (CS.cond rfl ?_ ?_))<;>intro hc5<;>try simp only [bq] at hc5
   ·
    have hdd:0 ≤ -2 - nth z.prs.l b.1 ∧ -2 - nth z.prs.l b.1 < 10:=by omega
    have hds:=Jbp hdd
    refine Ny 1 ?_
    refine Wk 0 Zb ?_
    refine Wk 1 (Cb rfl rfl Jm7 (fun u hu=>Jed _ u hdd)) ?_
    exact Wd (QS.head ((digB (-2 - nth z.prs.l b.1))) rfl rfl ⟨by unfold whP; rw [if_neg (by omega),if_pos hc5],by omega⟩)
   exact Ck (QS.head (p) rfl rfl ⟨by unfold whP; split at hp1 <;> rename_i h <;> first | (rw [if_pos h]; exact hp1) | (rw [if_neg h,if_neg hc5]; exact hp1),hp2⟩)
  intro q t hs
  obtain ⟨hq1,hq2⟩:=hs
  refine Ny 1 ?_
  refine Wk 1 (Jar rfl rfl (by (try simp only [ByteArray.size_append]); omega)) ?_
  refine Wk 1 (by first | exact Jab (j:=1) rfl rfl rfl tk24 | exact Jaj rfl (by assumption) rfl tk24) ?_
  refine Wk 1 Xc ?_
  refine Wk 0 (Uc 3 0) ?_
  refine Wk 0 (Jar rfl rfl (by (try simp only [ByteArray.size_append]); omega)) ?_
  refine Wk 1 (Jar rfl rfl (by (try simp only [ByteArray.size_append]); omega)) ?_
  refine Wk 1 (Jar rfl rfl (by (try simp only [ByteArray.size_append]); omega)) ?_
  refine Wd (Qb (Qc (Ny 1 ?_)))
  refine Wk 1 Za ?_
  refine Wd ?_
  exact QS.head ((b.1+1,b.2++(⟨#[32]⟩:ByteArray)++(nth r.prs.l b.1).nm++(⟨#[64]⟩:ByteArray)++q)) rfl rfl ⟨⟨by simp; omega,by simp; omega,by
     show _=catB ((Jaw r.ths.l.length).map (pcT r z.x)++(Jaw (b.1+1).toNat).map (pcP r z.x))
     rw [Jbh hb1,List.map_append,List.map_singleton, ← List.append_assoc,Jei,hb3]; simp only [pcP,ByteArray.append_assoc,hq1] <;> rfl,by
     simp only [ByteArray.size_append]; omega⟩,by simp; omega⟩
 refine Cv (Qe (Qe (Qx (Qc (Cs (Nz 1 ?_))))))
 refine Wd (Qc (Ce ?_))
 refine CS.loopM (σ:=Int × ByteArray) [79,80,81,82,83,84,85,86,87,88,89,90,91,92,93,94,95,96,97,98,99,100,101] (fun s=>[(12,.int .i64 s.1),(7,.string s.2)]) (fun _=>_) (fun s=>0≤s.1∧s.1≤z.pls.l.length∧s.2=catB ((Jaw r.ths.l.length).map (pcT r z.x)++(Jaw r.prs.l.length).map (pcP r z.x)++(Jaw s.1.toNat).map (pcL r z.x))∧(s.2.size:Int)≤300 * (s.1+29)) (fun s=>(z.pls.l.length - s.1).toNat) (0,b.2) (fun _ _=>rfl) rfl rfl ⟨by simp,by simp,by show b.2=_; rw [hb3,show b.1.toNat=r.prs.l.length by omega]; simp [Jaw],by show (b.2.size:Int)≤300 * (0+29); omega⟩ ?_
 intro d t hs
 obtain ⟨hd1,hd2,hd3,hd4⟩:=hs
 refine Cs (Nz 2 ?_)
 refine Wk 0 (by first | exact Jab (j:=0) rfl rfl rfl tk32 | exact Jaj rfl (by assumption) rfl tk32) ?_
 refine Wk 1 (by first | exact Jb0 sl32 rfl (by assumption) | exact Jb0 sl32 rfl (by first | exact SlL.sp (by assumption) | exact ClS.sp (by assumption)) | exact Jd0 sl32 rfl | exact Jgw sl32 rfl ⟨_,_,rfl⟩) ?_
 refine Wd (Qc (CS.cond rfl ?_ ?_))<;>intro hc6<;>try simp only [bq] at hc6
 ·
  have hd:0≤nth z.pls.l d.1∧nth z.pls.l d.1 < r.pls.l.length:=hsh.pl d.1 hd1 (by show d.1 < (z.pls.l.length:Int); omega)
  have hpn:=hn.pl _ (Jad hd.1 hd.2)
  have hdd:0≤d.1∧d.1 < 10:=by omega
  have hds:=Jbp hdd
  refine Ck (Qc (Cs (Ce (Dr mixed 1 ?_))))
  refine Dk 1 (Jar rfl rfl (by (try simp only [ByteArray.size_append]); omega)) ?_
  refine Dk 0 (Cb rfl rfl Jm7 (fun u hu=>Jed _ u hdd)) ?_
  refine Dk 0 (Jar rfl rfl (by (try simp only [ByteArray.size_append]); omega)) ?_
  refine Dk 1 (Jar rfl rfl (by (try simp only [ByteArray.size_append]); omega)) ?_
  refine Dk 1 (by first | exact Jab (j:=1) rfl rfl rfl tk22 | exact Jaj rfl (by assumption) rfl tk22) ?_
  refine Dk 1 (by first | exact Jab (j:=0) rfl rfl rfl tk32 | exact Jaj rfl (by assumption) rfl tk32) ?_
  refine Dk 0 (by first | exact Jcb sl32 rfl rfl (by assumption) (by omega) (by omega) | exact Jby sl32 rfl rfl (by omega) (by omega)) ?_
  refine Dk 0 (by first | exact Jcw rfl (by assumption) (by omega) tk3 | exact Jab (j:=0) rfl rfl rfl tk3 | exact Jab (j:=1) rfl rfl rfl tk3 | exact Jab (j:=2) rfl rfl rfl tk3 | exact Jab (j:=3) rfl rfl rfl tk3 | exact Jaj rfl (by assumption) rfl tk3) ?_
  refine Dk 0 Xc ?_
  refine Dk 0 Ub ?_
  refine Dk 1 (Jar rfl rfl (by (try simp only [ByteArray.size_append]); omega)) ?_
  refine Dd (Qb (Qc (Ny 1 ?_)))
  refine Wk 1 Za ?_
  refine Wd ?_
  exact QS.head ((d.1+1,d.2++(⟨#[32]⟩:ByteArray)++digB d.1++(⟨#[64]⟩:ByteArray)++nth r.pls.l (nth z.pls.l d.1))) rfl rfl ⟨⟨by simp; omega,by simp; omega,by
     show _=catB ((Jaw r.ths.l.length).map (pcT r z.x)++(Jaw r.prs.l.length).map (pcP r z.x)++(Jaw (d.1+1).toNat).map (pcL r z.x))
     rw [Jbh hd1,List.map_append,List.map_singleton, ← List.append_assoc,Jei,hd3]; simp only [pcL,ByteArray.append_assoc] <;> rfl,by
     simp only [ByteArray.size_append]; omega⟩,by simp; omega⟩
 have hcp:d.2=catB (pcs r z.x):=by rw [hd3,show d.1.toNat=z.x.2.2.length from by show d.1.toNat=z.pls.l.length; omega]; rfl
 have hpl:0 < (pcs r z.x).length:=by
  unfold pcs Jaw
  simp only [List.length_append,List.length_map,List.length_range]
  have:z.x.2.2.length=z.pls.l.length:=rfl
  omega
 have hcs:(1:Int)≤d.2.size:=by rw [hcp]; have:=Jkz hpl; omega
 refine Cv (Qe (Qe (Qx (Qc (Nz 1 ?_)))))
 refine Wk 2 (Jh1 Tryz.underlying9 rfl rfl ⟨by omega,hcs⟩) ?_
 exact Wd (Qc (Cr (out2 rfl rfl rfl (Jaa (by unfold ShowV; rw [if_pos hS, ← Jnr hpl,hcp]; rfl)))))
theorem Joj (s:Sl ByteArray) (w:World) (hk:SlT cStr w s) (hp:0 < s.l.length) {n:Nat} (hb:∀ x∈s.l,x.size≤n) (hn:(n+1) * s.l.length≤140737488355328) (hm:s.l.length≤1000000) :
  Calls Tryz.prog 25 #[s.v,.string ⟨#[32]⟩] w (RetB w (.string (jnB s.l))):=by
 obtain ⟨b,o,c,e,h1,h2,h3⟩:=Jhx hk hp
 have hj:=Jlu hb
 have q:=Tryz.strings_Join b o c s.l ⟨#[32]⟩ w h3 h2 (by omega) h1 (Nat.le_trans hj hn)
 rw [← e] at q
 refine q.mono ?_
 rintro e' w' ⟨rfl,h4⟩
 exact ⟨rfl,h4⟩
theorem Jm6 (r:Room) (w:World) (hr:RoomOk w r) (g:Sl ByteArray) (hG:GOk w g) (hn:Near r) (z:Stt) (hz:SttOk w z) :
  Calls Tryz.prog 9 #[.agg #[r.pls.v,r.ths.v,r.prs.v,r.wys.v,r.acs.v,r.aus.v,.int .i64 r.ply,r.gl.v],.agg #[z.ths.v,z.prs.v,z.pls.v]] w (RetB w (.tuple #[.string (ShowV r z.x).2,.int .i64 (ShowV r z.x).1])):=by
 have kpl:=hr.pls
 have lpl:=hr.pls.le
 have kth:=hr.ths
 have lth:=hr.ths.le
 have kpr:=hr.prs
 have lpr:=hr.prs.le
 have kwy:=hr.wys
 have lwy:=hr.wys.le
 have kac:=hr.acs
 have lac:=hr.acs.le
 have kau:=hr.aus
 have lau:=hr.aus.le
 have kgl:=hr.gl
 have lgl:=hr.gl.le
 have zth:=hz.ths.ints
 have zpr:=hz.prs.ints
 have zpl:=hz.pls.ints
 have sp32:(⟨#[32]⟩:ByteArray).size=1:=rfl
 have sp61:(⟨#[61]⟩:ByteArray).size=1:=rfl
 have sp64:(⟨#[64]⟩:ByteArray).size=1:=rfl
 have sp4:(⟨#[103,111,110,101]⟩:ByteArray).size=4:=rfl
 have n1:=hn.ths
 have n2:=hn.prs
 refine enter Tryz.func9 rfl rfl (Nat.le_of_ble_eq_true rfl) ?_
 refine Nz 0 ?_
 refine Wb 0 rfl rfl (fun _=>rfl) (fun _=>rfl) fun b2 hb2=>?_
 refine Wb 2 rfl rfl (fun _=>rfl) (fun _=>rfl) fun b3 hb3=>?_
 refine Wd (Qc (Cs (Nz 0 ?_)))
 refine Wk 0 (by first | exact Ja3 (j:=1) rfl rfl tk31 | exact Jat (j:=1) rfl rfl (by rfl) tk31 | exact Ja2 rfl (by assumption) (by rfl) tk31 | exact Ja1 (n:=8) (j:=1) rfl rfl rfl rfl tk31) ?_
 refine Wk 0 (by first | exact Ja3 (j:=0) rfl rfl tk34 | exact Jat (j:=0) rfl rfl (by rfl) tk34 | exact Ja2 rfl (by assumption) (by rfl) tk34 | exact Ja1 (n:=3) (j:=0) rfl rfl rfl rfl tk34) ?_
 refine Wk 1 (Cb rfl rfl Jnk (fun u hu=>Jcc r u (hr.st hu) g (hG.st hu) hn z (hz.st hu))) ?_
 refine Wd (Qc (Nz 2 ?_))
 refine Wd (Qc (CS.cond rfl ?_ ?_))<;>intro hc1<;>try simp only [bq] at hc1
 ·
  have hS:¬ stL r z.x=0:=hc1
  refine Nz 3 ?_
  exact Wd (Qc (Cr (Qr (out2 rfl rfl rfl (Jaa (by unfold ShowV; rw [if_neg hS]; rfl))))))
 have hS:stL r z.x=0:=hc1
 have hsh:Shown r z.x:=Shown.of (Jcm (Jds.1 hS).1) (Jds.1 hS).2
 have z1:z.ths.l.length=r.ths.l.length:=hsh.lt
 have z2:z.prs.l.length=r.prs.l.length:=hsh.lp
 have z3:1≤z.pls.l.length∧z.pls.l.length≤4:=hsh.ll
 refine Ck (Qc (Nz 1 ?_))
 refine Wd (Qc (Cs (Nz 1 ?_)))
 refine Wk 0 (by first | exact Jab (j:=1) rfl rfl rfl tk23 | exact Jaj rfl (by assumption) rfl tk23) ?_
 refine Wk 1 Nc ?_
 refine Wd (Qc (Ce ?_))
 refine CS.weak (fun _ hu=>hu.osl0 (e:=9) (size:=1)) ?_
 refine CS.loopM (σ:=Int × Value) [8,9,26,27,28,29,30,31,32,33,34,35,36,37,38,39,40,41,42,43] (fun s=>[(25,.int .i64 s.1),(7,s.2)]) (fun s=>[oT cStr 9 s.2 ((Jaw s.1.toNat).map (pcT r z.x)),blk b3 [z.ths.v,z.prs.v,z.pls.v] 34,blk b2 [r.pls.v,r.ths.v,r.prs.v,r.wys.v,r.acs.v,r.aus.v,.int .i64 r.ply,r.gl.v] 31]) (fun s=>0≤s.1∧s.1≤r.ths.l.length) (fun s=>(r.ths.l.length - s.1).toNat) (0,.slice none 0 0) (fun _ _=>rfl) rfl rfl ⟨by simp,by simp⟩ ?_
 intro a t hs
 obtain ⟨ha1,ha2⟩:=hs
 refine Nz 1 ?_
 refine Wd (Qc (Cs (CS.cond rfl ?_ ?_)))<;>intro hc2<;>try simp only [bq] at hc2
 ·
  have hnm:=hn.th _ (Jad ha1 (show a.1 < (r.ths.l.length:Int) by omega))
  have hd:0≤nth z.ths.l a.1∧nth z.ths.l a.1 < 10:=hsh.th a.1 ha1 (by show a.1 < (z.ths.l.length:Int); omega)
  have hds:=Jbp hd
  refine Ck (Qc (Cs (Ce (Nz 1 ?_))))
  refine Wk 0 Xc ?_
  refine Wk 0 Ua ?_
  refine Wl 1 zv55 (fun _=>rfl) (fun _=>rfl) fun b9 hb9=>?_
  refine Wv 0 0 ?_
  refine Wd (Qc ?_)
  refine CS.drawnTill 12 (k:=14) mixed rfl rfl ?_
  refine Tr 14 [0,1] ?_
  refine Tk 14 2 [] rfl (by first | exact Jab (j:=0) rfl rfl rfl tk9 | exact Jaj rfl (by assumption) rfl tk9) ?_
  refine Tk 14 3 [4] rfl (Jar rfl rfl (by (try simp only [ByteArray.size_append]); omega)) ?_
  refine Tk 14 5 [6] rfl (by first | exact Jab (j:=2) rfl rfl rfl tk32 | exact Jaj rfl (by assumption) rfl tk32) ?_
  refine Tk 14 7 [] rfl (by first | exact Jcb sl32 rfl rfl (by assumption) (by omega) (by omega) | exact Jby sl32 rfl rfl (by omega) (by omega)) ?_
  refine Tk 14 8 [] rfl (by first | exact Jcw rfl (by assumption) (by omega) tk3 | exact Jab (j:=0) rfl rfl rfl tk3 | exact Jab (j:=1) rfl rfl rfl tk3 | exact Jab (j:=2) rfl rfl rfl tk3 | exact Jab (j:=3) rfl rfl rfl tk3 | exact Jaj rfl (by assumption) rfl tk3) ?_
  refine Tk 14 9 [] rfl (Cb rfl rfl Jne (fun u hu=>Jjn _ u ⟨by omega,by omega⟩)) ?_
  refine Tk 14 10 [] rfl (Jar rfl rfl (by (try simp only [ByteArray.size_append]); omega)) ?_
  refine To 11 rfl ?_
  refine WS.buildS1 (b:=pcT r z.x a.1) sl22 zv9 rfl (fun _=>rfl) ?_; intro v41
  refine Wd (Qt ?_)
  refine To 12 rfl ?_
  refine WS.appendT1 (j:=2) (jz:=0) sl22 zv9 rfl (by decide) rfl rfl rfl rfl (w:=w) trivial (by simp [Jaw]; omega) (by simp [Jaw]; omega) (fun _=>rfl) (fun _=>rfl) ?_; intro v42 hv42
  refine Wd (Qt ?_)
  refine To 13 rfl ?_
  refine Wz 1 ?_
  refine Wd (Qt ?_)
  refine Te ?_
  refine Qb (Qc (Ny 0 ?_))
  refine Wk 1 Za ?_
  refine Wd ?_
  refine QS.sel [2,2,2] rfl ?_
  exact QS.head ((a.1+1,v42)) rfl (by first | (rw [show (a.1+1,v42).1=a.1+1 from rfl,Jbh ha1,List.map_append,List.map_singleton]; done) | (rw [show (a.1+1,v42).1=a.1+1 from rfl,Jbh ha1,List.map_append,List.map_singleton]; rfl)) ⟨⟨by simp; omega,by simp; omega⟩,by simp; omega⟩
 refine Cv (Qe (Qe (Qx (Qc (Cs (Nz 1 ?_))))))
 refine Wk 0 (by first | exact Jab (j:=2) rfl rfl rfl tk24 | exact Jaj rfl (by assumption) rfl tk24) ?_
 refine Wk 1 Nc ?_
 refine Wd (Qc (Ce ?_))
 refine CS.loopM (σ:=Int × Value) [10,11,12,13,48,49,50,51,52,53,54,55,56,57,58,59,60,61,62,63,64,65,66,67,68,69,70,71,72,73,74,75,76,77,78,79] (fun s=>[(47,.int .i64 s.1),(7,s.2)]) (fun s=>[oT cStr 9 s.2 ((Jaw r.ths.l.length).map (pcT r z.x)++(Jaw s.1.toNat).map (pcP r z.x)),blk b3 [z.ths.v,z.prs.v,z.pls.v] 34,blk b2 [r.pls.v,r.ths.v,r.prs.v,r.wys.v,r.acs.v,r.aus.v,.int .i64 r.ply,r.gl.v] 31]) (fun s=>0≤s.1∧s.1≤r.prs.l.length) (fun s=>(r.prs.l.length - s.1).toNat) (0,a.2) (fun _ _=>rfl) rfl (by rw [show a.1.toNat=r.ths.l.length by omega]; simp [Jaw]) ⟨by simp,by simp⟩ ?_
 intro b t hs
 obtain ⟨hb1,hb2⟩:=hs
 refine Nz 1 ?_
 refine Wd (Qc (Cs (CS.cond rfl ?_ ?_)))<;>intro hc3<;>try simp only [bq] at hc3
 ·
  have hnm:=(hn.pr _ (Jad hb1 (show b.1 < (r.prs.l.length:Int) by omega))).1
  have hpo:=hr.prs.at hb1 (show b.1 < (r.prs.l.length:Int) by omega)
  have hd:(0≤nth z.prs.l b.1∧nth z.prs.l b.1 < r.pls.l.length)∨nth z.prs.l b.1 = -1∨(-5≤nth z.prs.l b.1∧nth z.prs.l b.1 ≤ -2):=hsh.pr b.1 hb1 (by show b.1 < (z.prs.l.length:Int); omega)
  refine Ck (Qc (Cs (Ce (Nz 1 ?_))))
  refine Wk 0 Xc ?_
  refine Wk 0 Ua ?_
  refine Wl 1 zv57 (fun _=>rfl) (fun _=>rfl) fun b11 hb11=>?_
  refine Wv 0 0 ?_
  refine Wd (Qc (Nz 1 ?_))
  refine Wd (Qc ?_)
  refine CS.cut (σ:=ByteArray) [13,52,53,54,55,56,57,58,59,60,61,62,63,64,65,66,67,68,69,70] (fun s=>[(12,.string s)]) (fun s=>[oT cStr 9 b.2 ((Jaw r.ths.l.length).map (pcT r z.x)++(Jaw b.1.toNat).map (pcP r z.x)),blk b11 (cPro.cells (nth r.prs.l b.1)) 57,blk b3 [z.ths.v,z.prs.v,z.pls.v] 34,blk b2 [r.pls.v,r.ths.v,r.prs.v,r.wys.v,r.acs.v,r.aus.v,.int .i64 r.ply,r.gl.v] 31]) (fun s=>s=whP r (nth z.prs.l b.1)∧s.size≤100) (fun _ _=>rfl) ?_ ?_
  ·
   refine Nz 1 ?_
   refine Wk 1 (by first | exact Jab (j:=2) rfl rfl rfl tk32 | exact Jaj rfl (by assumption) rfl tk32) ?_
   refine Wk 0 (by first | exact Jcb sl32 rfl rfl (by assumption) (by omega) (by omega) | exact Jby sl32 rfl rfl (by omega) (by omega)) ?_
   refine Wk 1 (by first | exact Jcw rfl (by assumption) (by omega) tk3 | exact Jab (j:=0) rfl rfl rfl tk3 | exact Jab (j:=1) rfl rfl rfl tk3 | exact Jab (j:=2) rfl rfl rfl tk3 | exact Jab (j:=3) rfl rfl rfl tk3 | exact Jaj rfl (by assumption) rfl tk3) ?_
   refine Wd (Qc (Ce (Nz 3 ?_)))
   refine Wd (Qc (CS.cond rfl ?_ ?_))<;>intro hc4<;>try simp only [bq] at hc4
   ·
    have hpn:=hn.pl _ (Jad hc4 (show nth z.prs.l b.1 < (r.pls.l.length:Int) by omega))
    refine Ny 1 ?_
    refine Wk 1 (by first | exact Jab (j:=3) rfl rfl rfl tk22 | exact Jaj rfl (by assumption) rfl tk22) ?_
    refine Wk 0 Xc ?_
    refine Wk 1 Ub ?_
    refine Wd (Qb ?_)
    refine QS.sel [1,0,0,0] rfl ?_
    exact QS.head ((nth r.pls.l (nth z.prs.l b.1))) rfl rfl ⟨by unfold whP; rw [if_pos hc4],hpn⟩
   refine Nz 3 ?_
   refine Wd (Qc (CS.cond rfl ?_ ?_))<;>intro hc5<;>try simp only [bq] at hc5
   ·
    have hdd:0 ≤ -2 - nth z.prs.l b.1 ∧ -2 - nth z.prs.l b.1 < 10:=by omega
    have hds:=Jbp hdd
    refine Ny 1 ?_
    refine Wk 0 Zb ?_
    refine Wk 1 (Cb rfl rfl Jne (fun u hu=>Jjn _ u ⟨by omega,by omega⟩)) ?_
    refine Wd (Qb ?_)
    refine QS.sel [1,0,0,0] rfl ?_
    exact QS.head ((digB (-2 - nth z.prs.l b.1))) rfl rfl ⟨by unfold whP; rw [if_neg (by omega),if_pos (by omega)],by omega⟩
   refine Ck (Qb ?_)
   refine QS.sel [1,0,0,0] rfl ?_
   exact QS.head (⟨#[103,111,110,101]⟩) rfl rfl ⟨by unfold whP; rw [if_neg (by omega),if_neg (by omega)],by decide⟩
  intro q t hs
  obtain ⟨hq1,hq2⟩:=hs
  subst hq1
  refine Ny 2 ?_
  refine Wk 0 (by first | exact Jab (j:=1) rfl rfl rfl tk9 | exact Jaj rfl (by assumption) rfl tk9) ?_
  refine Wk 1 (Jar rfl rfl (by (try simp only [ByteArray.size_append]); omega)) ?_
  refine Wk 0 (Jar rfl rfl (by (try simp only [ByteArray.size_append]); omega)) ?_
  refine WS.buildS1 (b:=pcP r z.x b.1) sl22 zv9 rfl (fun _=>rfl) ?_; intro v77
  refine WS.appendT1 (j:=1) (jz:=0) sl22 zv9 rfl (by decide) rfl rfl rfl rfl (w:=w) trivial (by simp [Jaw]; omega) (by simp [Jaw]; omega) (fun _=>rfl) (fun _=>rfl) ?_; intro v78 hv78
  refine Wz 1 ?_
  refine Wd (Qb (Qc (Ny 0 ?_)))
  refine Wk 1 Za ?_
  refine Wd ?_
  refine QS.sel [1,2,2] rfl ?_
  exact QS.head ((b.1+1,v78)) rfl (by first | (rw [show (b.1+1,v78).1=b.1+1 from rfl,Jbh hb1,List.map_append,List.map_singleton, ← List.append_assoc]; done) | (rw [show (b.1+1,v78).1=b.1+1 from rfl,Jbh hb1,List.map_append,List.map_singleton, ← List.append_assoc]; rfl)) ⟨⟨by simp; omega,by simp; omega⟩,by simp; omega⟩
 refine Cv (Qe (Qe (Qx (Qc (Cs (Nz 1 ?_))))))
 refine Wk 0 (by first | exact Jab (j:=1) rfl rfl rfl tk32 | exact Jaj rfl (by assumption) rfl tk32) ?_
 refine Wk 1 (by first | exact Jb0 sl32 rfl (by assumption) | exact Jb0 sl32 rfl (by first | exact SlL.sp (by assumption) | exact ClS.sp (by assumption)) | exact Jd0 sl32 rfl | exact Jgw sl32 rfl ⟨_,_,rfl⟩) ?_
 refine Wd (Qc (Ce ?_))
 refine CS.loopM (σ:=Int × Value) [14,15,84,85,86,87,88,89,90,91,92,93,94,95,96,97,98,99,100] (fun s=>[(83,.int .i64 s.1),(7,s.2)]) (fun s=>[oT cStr 9 s.2 ((Jaw r.ths.l.length).map (pcT r z.x)++(Jaw r.prs.l.length).map (pcP r z.x)++(Jaw s.1.toNat).map (pcL r z.x)),blk b3 [z.ths.v,z.prs.v,z.pls.v] 34,blk b2 [r.pls.v,r.ths.v,r.prs.v,r.wys.v,r.acs.v,r.aus.v,.int .i64 r.ply,r.gl.v] 31]) (fun s=>0≤s.1∧s.1≤z.pls.l.length) (fun s=>(z.pls.l.length - s.1).toNat) (0,b.2) (fun _ _=>rfl) rfl (by rw [show b.1.toNat=r.prs.l.length by omega]; simp [Jaw]) ⟨by simp,by simp⟩ ?_
 intro d t hs
 obtain ⟨hd1,hd2⟩:=hs
 refine Nz 1 ?_
 refine Wd (Qc (Cs (CS.cond rfl ?_ ?_)))<;>intro hc6<;>try simp only [bq] at hc6
 ·
  have hd:0≤nth z.pls.l d.1∧nth z.pls.l d.1 < r.pls.l.length:=hsh.pl d.1 hd1 (by show d.1 < (z.pls.l.length:Int); omega)
  have hpn:=hn.pl _ (Jad hd.1 hd.2)
  have hdd:0≤d.1∧d.1 < 10:=by omega
  have hds:=Jbp hdd
  refine Ck (Qc (Cs (Ce (Nz 1 ?_))))
  refine Wk 0 (by first | exact Jcb sl32 rfl rfl (by assumption) (by omega) (by omega) | exact Jby sl32 rfl rfl (by omega) (by omega)) ?_
  refine Wk 2 (by first | exact Jcw rfl (by assumption) (by omega) tk3 | exact Jab (j:=0) rfl rfl rfl tk3 | exact Jab (j:=1) rfl rfl rfl tk3 | exact Jab (j:=2) rfl rfl rfl tk3 | exact Jab (j:=3) rfl rfl rfl tk3 | exact Jaj rfl (by assumption) rfl tk3) ?_
  refine Wd (Qc ?_)
  refine CS.drawnTill 11 (k:=13) mixed rfl rfl ?_
  refine Tr 13 [0,1] ?_
  refine Tk 13 2 [] rfl (Cb rfl rfl Jne (fun u hu=>Jjn _ u ⟨by omega,by omega⟩)) ?_
  refine Tk 13 3 [4] rfl (Jar rfl rfl (by (try simp only [ByteArray.size_append]); omega)) ?_
  refine Tk 13 5 [6] rfl (by first | exact Jab (j:=2) rfl rfl rfl tk22 | exact Jaj rfl (by assumption) rfl tk22) ?_
  refine Tk 13 7 [] rfl Xc ?_
  refine Tk 13 8 [] rfl Ub ?_
  refine Tk 13 9 [] rfl (Jar rfl rfl (by (try simp only [ByteArray.size_append]); omega)) ?_
  refine To 10 rfl ?_
  refine WS.buildS1 (b:=pcL r z.x d.1) sl22 zv9 rfl (fun _=>rfl) ?_; intro v98
  refine Wd (Qt ?_)
  refine To 11 rfl ?_
  refine WS.appendT1 (j:=1) (jz:=0) sl22 zv9 rfl (by decide) rfl rfl rfl rfl (w:=w) trivial (by simp [Jaw]; omega) (by simp [Jaw]; omega) (fun _=>rfl) (fun _=>rfl) ?_; intro v99 hv99
  refine Wd (Qt ?_)
  refine To 12 rfl ?_
  refine Wz 1 ?_
  refine Wd (Qt ?_)
  refine Te ?_
  refine Qb (Qc (Ny 0 ?_))
  refine Wk 1 Za ?_
  refine Wd ?_
  refine QS.sel [1,1,1] rfl ?_
  exact QS.head ((d.1+1,v99)) rfl (by first | (rw [show (d.1+1,v99).1=d.1+1 from rfl,Jbh hd1,List.map_append,List.map_singleton, ← List.append_assoc]; done) | (rw [show (d.1+1,v99).1=d.1+1 from rfl,Jbh hd1,List.map_append,List.map_singleton, ← List.append_assoc]; rfl)) ⟨⟨by simp; omega,by simp; omega⟩,by simp; omega⟩
 have hep:(Jaw r.ths.l.length).map (pcT r z.x)++(Jaw r.prs.l.length).map (pcP r z.x)++(Jaw d.1.toNat).map (pcL r z.x)=pcs r z.x:=by rw [show d.1.toNat=z.x.2.2.length from by show d.1.toNat=z.pls.l.length; omega]; rfl
 have hpsz:=Jpe hn hsh
 have hpos:=Jms hsh
 refine Cv (Qe (Qe (Qx (Qc (Nz 1 ?_)))))
 refine Wk 0 (Cb rfl rfl Jp5 (fun u hu=>by
  have hx:=Jmh hu (j:=0) rfl (fun _ _=>trivial)
  rw [hep] at hx
  have q:=Joj ⟨d.2,pcs r z.x⟩ u hx hpos hpsz.1 (by have:=hpsz.2; simp only; omega) (by have:=hpsz.2; simp only; omega)
  exact q)) ?_
 refine Wz 2 ?_
 exact Wd (Qc (Cr (out2 rfl rfl rfl (Jaa (by unfold ShowV; rw [if_pos hS])))))
end Go.Proofs.YtdpbapffdmahnaaGreatDoor
