/- Merged texts of this proof (walks and plain laws), printed by a program of the prover. -/
import Derived.Test.YtdpbapffdmahnaaGreatDoorZx
import Derived.Test.YtdpbapffdmahnaaGreatDoorZb
import Derived.Test.YtdpbapffdmahnaaGreatDoorZd
set_option maxHeartbeats 8000000
namespace Go.Proofs.YtdpbapffdmahnaaGreatDoor
open Go.RowKit Go.Proofs
set_option maxRecDepth 100000
set_option linter.unusedVariables false
set_option linter.unusedSimpArgs false
def WOk (w:World):Prop:=∀ j,j < 8→w.cell? ⟨0,j,none⟩=some (.string (kindL.getD j ByteArray.empty))
theorem WOk.ext {w u:World} (h:WOk w) (hb:Below w.heap.size w u):WOk u:=fun j hj=>Jcc hb (Nat.le_refl _) (h j hj)
theorem WOk.st {w u:World} {L:List SA} (h:WOk w) (hu:St w.heap.size w L u):WOk u:=h.ext hu.below
theorem Jm4 (tx:ByteArray) (w:World) (hW:WOk w):Calls Tryz.prog 67 #[.slice (some ⟨0,0,none⟩) 8 8,.string tx] w (RetB w (.int .i64 (Lib.idxOfS kindL tx))):=by
 refine (Tryz.slices_Index_string 0 0 8 8 kindL tx w (by decide) (by decide) (fun j hj=>by rw [Nat.zero_add]; exact hW j hj)).mono ?_
 rintro e w' ⟨rfl,rfl⟩
 exact ⟨rfl,Below.refl _ _⟩
theorem Jmi (t0:ByteArray) (w:World) (hM:MaxOk w) (hW:WOk w) (ht:(t0.size:Int)≤1000000) :
  Calls Tryz.prog 33 #[.string t0] w (Jjy w (Ja2 t0)):=by
 have hp:=Jea 32 t0
 have hsz:∀ x∈Jan 32 t0,(x.size:Int)≤1000000:=fun x hx=>by have:=Jfn hx; omega
 refine enter Tryz.func33 rfl rfl (Nat.le_of_ble_eq_true rfl) ?_
 refine Nz 0 ?_
 refine Wl 1 zv47 (fun _=>rfl) (fun _=>rfl) fun b2 hb2=>?_
 refine Wd (Qc (Nz 1 ?_))
 refine Wc rfl rfl Joh (fun u hu=>Jlg 32 t0 u (hM.st hu) (by omega)) (fun _=>rfl) ?_; rintro v13 ⟨u13,hv13⟩
 have hpw:(1:Int)≤((⟨v13,Jan 32 t0⟩:Sl ByteArray).l.length:Int):=by show (1:Int)≤((Jan 32 t0).length:Int); omega
 refine Wz 1 ?_
 refine Wd (Qc ?_)
 refine CS.cut (σ:=Bool × Sl ByteArray) [14,15,16,17,18,19,20] (fun s=>[(4,s.2.v)]) (fun s=>[blk b2 (Jag ⟨0,0,0,0,0,[],s.1⟩ (.slice none 0 0)) 47,roT cStr s.2]) (fun s=>(s.1=seq (nth (Jan 32 t0) 0) notW∧s.2.l=if s.1 then (Jan 32 t0).tail else Jan 32 t0)∧(∃ u0,SlT cStr u0 s.2)∧∀ x∈s.2.l,(x.size:Int)≤1000000) (fun _ _=>rfl) ?_ ?_
 ·
  refine Nz 1 ?_
  refine Wk 0 (Xc (s:=⟨v13,Jan 32 t0⟩)) ?_
  refine Wk 0 (Vb 0 rfl (s:=⟨v13,Jan 32 t0⟩)) ?_
  refine Wk 0 (Jb7 rfl rfl) ?_
  refine Wd (Qc (CS.cond rfl ?_ ?_))<;>intro hc1<;>try simp only [bq] at hc1
  ·
   refine Nz 1 ?_
   refine Ws 0 1 ?_
   refine Wd (Qc (Ny 1 ?_))
   refine Wk 1 (Jcf sl22 rfl rfl hv13.sp (by decide) (by omega)) ?_
   refine Wd ?_
   refine QS.weak (fun u hu=>St.roCut (lo:=1) (hi:=(Jan 32 t0).length) hu (by omega) (Nat.le_refl _)) ?_
   refine QS.sel [1,0] rfl ?_
   exact QS.head ((true,(⟨v13,Jan 32 t0⟩:Sl ByteArray).cut 1 1 (Jan 32 t0).length)) rfl rfl ⟨⟨hc1.symm,Jdi _⟩,⟨u13,hv13.cut (by omega) (Nat.le_refl _)⟩,fun x hx=>hsz x (List.mem_of_mem_drop (List.mem_of_mem_take hx))⟩
  refine Ck ?_
  refine QS.sel [1,0] rfl ?_
  exact QS.head ((false,⟨v13,Jan 32 t0⟩)) rfl rfl ⟨⟨hc1.symm,rfl⟩,⟨u13,hv13⟩,hsz⟩
 intro a t hs
 obtain ⟨nt,q⟩:=a
 obtain ⟨⟨ha1,ha2⟩,⟨ua,ha3⟩,ha4⟩:=hs
 dsimp only at ha1 ha2 ha3 ha4
 have hR:Ja2 t0=Jfi nt q.l:=Jh5 ha1 ha2
 have lq:=ha3.le
 refine Cs (Nz 1 ?_)
 refine Wk 2 (Nc (s:=q)) ?_
 refine Wf 0 rfl rfl (fun hg=>Fm) ?_
 refine Wf 0 rfl rfl (fun hg=>Xc (s:=q)) ?_
 refine Wf 0 rfl rfl (fun hg=>Vb 1 rfl (s:=q)) ?_
 refine Wf 0 rfl rfl (fun hg=>Jb7 (eg_ hg rfl) rfl) ?_
 refine Wk 0 Po ?_
 refine Wd (Qc (CS.cond rfl ?_ ?_))<;>intro hc2<;>try simp only [bq] at hc2
 ·
  have hno:Ja2 t0=none:=by rw [hR]; exact Jed hc2
  refine Nz 0 ?_
  refine Wk 0 (by first | exact Jas rfl (by assumption) (by omega) tk47 | exact Jab (j:=0) rfl rfl tk47 | exact Jac (j:=0) rfl rfl (by rfl) tk47 | exact Jae rfl (by assumption) (by rfl) tk47 | exact Jai (n:=7) (j:=0) rfl rfl rfl rfl tk47) ?_
  refine Wv 1 0 ?_
  exact Wd (Qc (Cr (Qr (outR (Jbr rfl (Jao (j:=0) rfl rfl tk47) rfl) (fun u hu=>Jcb hno rfl (Ja7 rfl) hu)))))
 have hq0:0 < q.l.length:=by omega
 have hR2:Ja2 t0=Jda nt (Jah (nth q.l 0)) q.l.tail:=by rw [hR,Jei hq0]
 have hix:=Jjr (t:=nth q.l 0) (by simpa using hc2.2)
 have hkb:=Jcm (nth q.l 0)
 refine Ck (Qc (Cs ?_))
 refine CS.drawnTill 6 (k:=7) mixed rfl rfl ?_
 refine Tk 7 0 [1] rfl (Jlp Tryz.underlying93 (by obtain ⟨i,_,h,hs,_⟩:=Jbo sl22; exact ⟨i,h,hs⟩) (by decide)) ?_
 refine Tk 7 2 [] rfl (Xc (s:=q)) ?_
 refine Tk 7 3 [] rfl (Vb 1 rfl (s:=q)) ?_
 refine Tk 7 4 [5] rfl (Cb rfl rfl Jol (fun u hu=>Jm4 _ u (hW.st hu))) ?_
 refine To 6 rfl ?_
 refine Ws 0 0 ?_
 refine Wd (Qt ?_)
 refine Te ?_
 refine Qc (Cs (Nz 1 ?_))
 refine Wk 1 (by first | exact Jad (j:=0) rfl rfl rfl tk3 | exact Jak rfl (by assumption) rfl tk3) ?_
 refine Wd (Qc (CS.cond rfl ?_ ?_))<;>intro hc3<;>try simp only [bq] at hc3
 ·
  have hk0:Jah (nth q.l 0)=0:=by
   rw [hix] at hc3
   split at hc3
   ·
    assumption
   omega
  have hno:Ja2 t0=none:=by rw [hR2,hk0]; rfl
  refine Nz 0 ?_
  refine Wk 0 (by first | exact Jas rfl (by assumption) (by omega) tk47 | exact Jab (j:=0) rfl rfl tk47 | exact Jac (j:=0) rfl rfl (by rfl) tk47 | exact Jae rfl (by assumption) (by rfl) tk47 | exact Jai (n:=7) (j:=0) rfl rfl rfl rfl tk47) ?_
  refine Wv 1 0 ?_
  exact Wd (Qc (Cr (Qr (outR (Jbr rfl (Jao (j:=0) rfl rfl tk47) rfl) (fun u hu=>Jcb hno rfl (Ja7 (c:=⟨Lib.idxOfS kindL (nth q.l 0),0,0,0,0,[],nt⟩) (gv:=.slice none 0 0) rfl) hu)))))
 have hk0:¬ Jah (nth q.l 0)=0:=fun h=>by
  rw [hix,if_pos h] at hc3
  omega
 have hkk:Lib.idxOfS kindL (nth q.l 0)=Jah (nth q.l 0):=by rw [hix,if_neg hk0]
 refine Ck (Qc ?_)
 refine CS.cut (σ:=Sl ByteArray) [41,42] (fun s=>[(4,s.v)]) (fun s=>[blk b2 (Jag ⟨(Jah (nth q.l 0)),0,0,0,0,[],nt⟩ (.slice none 0 0)) 47,roT cStr s]) (fun s=>s.l=q.l.tail∧(∃ u0,SlT cStr u0 s)∧∀ x∈s.l,(x.size:Int)≤1000000) (fun _ _=>rfl) ?_ ?_
 ·
  refine Ny 1 ?_
  refine Wk 1 (Jcf sl22 rfl rfl ha3.sp (by decide) (by omega)) ?_
  refine Wd ?_
  refine QS.sel [1,0] rfl ?_
  refine QS.weak (fun u hu=>St.roCut (lo:=1) (hi:=q.l.length) hu (by omega) (Nat.le_refl _)) ?_
  refine QS.sel [1,0] rfl ?_
  exact QS.head ((q.cut 1 1 q.l.length)) rfl (by first | (rw [hkk]; done) | (rw [hkk]; rfl)) ⟨Jdi _,⟨ua,ha3.cut (by omega) (Nat.le_refl _)⟩,fun x hx=>ha4 x (List.mem_of_mem_drop (List.mem_of_mem_take hx))⟩
 intro d t hs
 obtain ⟨hd1,⟨ud,hd2⟩,hd3⟩:=hs
 have hR3:Ja2 t0=Jda nt (Jah (nth q.l 0)) d.l:=by rw [hR2,hd1]
 have ld:=hd2.le
 refine CS.cut (σ:=Sl ByteArray × Value × List Int) [3,6,43,44,45,46,47,48,49,50,51,52,53,54,55,56,57,58,59,60,61,62,63,64,65,66,67,68,69,70,71,72,73,74,75,76,77,78,79,80] (fun s=>[(4,s.1.v)]) (fun s=>[blk b2 (Jag ⟨(Jah (nth q.l 0)),0,0,0,0,[],nt⟩ (s.2.1)) 47,roT cStr s.1,roI s.2.1 s.2.2]) (fun s=>(∀ x∈s.1.l,(x.size:Int)≤1000000)∧(∃ u0,SlT cStr u0 s.1)∧s.2.1.oneCell'=true∧Ja2 t0=rdN nt (Jah (nth q.l 0)) s.1.l s.2.2) (fun _ _=>rfl) ?_ ?_
 ·
  refine Nz 1 ?_
  refine Wk 2 (by first | exact Jad (j:=0) rfl rfl rfl tk3 | exact Jak rfl (by assumption) rfl tk3) ?_
  refine Wt 0 rfl rfl (fun hg=>Fm) ?_
  refine Wt 0 rfl rfl (fun hg=>Nc (s:=d)) ?_
  refine Wt 0 rfl rfl (fun hg=>Fq) ?_
  refine Wk 0 Pa ?_
  refine Wd (Qc (CS.cond rfl ?_ ?_))<;>intro hc4<;>try simp only [bq] at hc4
  ·
   have hd2s:((nth d.l 2).size:Int)≤1000000:=hd3 _ (Jbe (by decide) (by omega))
   refine Cs (Nz 1 ?_)
   refine Wk 0 (Xc (s:=d)) ?_
   refine Wk 0 (Vb 1 rfl (s:=d)) ?_
   refine Wk 1 (Cb rfl rfl Jnw (fun u hu=>Jgz _ _ u (by omega))) ?_
   refine Wd (Qc (CS.cond rfl ?_ ?_))<;>intro hc5<;>try simp only [bq] at hc5
   ·
    have hno:Ja2 t0=none:=by
     rw [hR3]
     exact Jc5 hc4.1 (fun h=>by rw [h.2] at hc5; simp at hc5)
    refine Nz 0 ?_
    refine Wk 0 (by first | exact Jas rfl (by assumption) (by omega) tk47 | exact Jab (j:=0) rfl rfl tk47 | exact Jac (j:=0) rfl rfl (by rfl) tk47 | exact Jae rfl (by assumption) (by rfl) tk47 | exact Jai (n:=7) (j:=0) rfl rfl rfl rfl tk47) ?_
    refine Wv 1 0 ?_
    exact Wd (Qc (Cr (Qr (Qr (outR (Jbr rfl (Jao (j:=0) rfl rfl tk47) rfl) (fun u hu=>Jcb hno rfl (Ja7 rfl) hu))))))
   have hdg:Jap (nth d.l 2) 4=true:=by simpa using hc5
   have hbl:=Jcv (nth d.l 2)
   refine Ck (Qc (Cs (Nz 1 ?_)))
   refine Wk 0 (Xc (s:=d)) ?_
   refine Wk 0 (Vb 1 rfl (s:=d)) ?_
   refine WS.bytes Tryz.underlying9 Tryz.underlying113 Tryz.underlying5 rfl (by unfold maxLen; omega) (fun _=>rfl) ?_; rintro v60 ⟨u60,hv60⟩
   refine Wk 1 (Nc (s:=⟨v60,byts (nth d.l 2)⟩)) ?_
   refine Wd (Qc (Ce ?_))
   refine CS.weak (fun _ hu=>hu.osl0 (e:=3) (size:=1)) ?_
   refine CS.sel [0,1,0,0] rfl ?_
   refine CS.loopM (σ:=Int × Value) [6,63,64,65,66,67,68,69,70,71,72,73,74] (fun s=>[(62,.int .i64 s.1)]) (fun s=>[oints 3 s.2 ((Jbj (nth d.l 2)).take s.1.toNat),blk b2 (Jag ⟨(Jah (nth q.l 0)),0,0,0,0,[],nt⟩ (s.2)) 47,roT cU8 ⟨v60,byts (nth d.l 2)⟩,roT cStr d]) (fun s=>0≤s.1∧s.1≤(nth d.l 2).size∧s.2.oneCell'=true) (fun s=>((nth d.l 2).size - s.1).toNat) (0,.slice none 0 0) (fun _ _=>rfl) rfl rfl ⟨by simp,by simp,rfl⟩ ?_
   intro i t hs
   obtain ⟨hi1,hi2,hi4⟩:=hs
   refine Nz 1 ?_
   refine Wd (Qc (Cs (CS.cond rfl ?_ ?_)))<;>intro hc6<;>try simp only [bq] at hc6
   ·
    have hi3:i.1 < ((nth d.l 2).size:Int):=by omega
    have hbn:=Jgx hi1 hi3
    have hdi:=Jg4 (Je4 hdg) hi1 hi3
    refine Ck (Qc (Cs (Ce (Nz 0 ?_))))
    refine Wk 0 (Xc (s:=⟨v60,byts (nth d.l 2)⟩)) ?_
    refine Wk 1 (Vb 2 rfl (K:=cU8) (s:=⟨v60,byts (nth d.l 2)⟩) (v:=.int .u8 (byt (nth d.l 2) i.1)) (h:=⟨hi1,by show i.1 < ((byts (nth d.l 2)).length:Int); omega⟩) (hc:=by rw [← hbn]; rfl)) ?_
    refine Wd (Qc (Ny 1 ?_))
    refine Wk 1 (by first | exact Jad (j:=1) rfl rfl rfl tk32 | exact Jak rfl (by assumption) rfl tk32) ?_
    refine Wk 0 (Jdk rfl rfl (by omega)) ?_
    refine Wk 0 (Jcy Tryz.underlying5 Tryz.underlying3 rfl (by omega)) ?_
    refine WS.buildI1 sl32 zv3 rfl (fun _=>rfl) ?_; intro v71
    refine WS.appendI (j:=1) sl32 zv3 rfl rfl rfl (fun u hu=>Jcr hu (j:=0) rfl) (by simp only [List.length_take,Jbn,List.length_singleton]; omega) (by simp only [List.length_take,Jbn,List.length_singleton]; omega) (fun _=>rfl) (fun _=>rfl) ?_; intro v72; refine WS.oc (j:=1) rfl (fun hv72=>?_)
    refine Wz 1 ?_
    refine Ws 0 2 ?_
    refine Wd (Qb (Qc (Ny 0 ?_)))
    refine Wk 1 Za ?_
    refine Wd ?_
    refine QS.sel [1,1,1,1] rfl ?_
    exact QS.head ((i.1+1,v72)) rfl (by first | (rw [show (i.1+1,v72).1=i.1+1 from rfl,Jb0 hi1 hi3]; done) | (rw [show (i.1+1,v72).1=i.1+1 from rfl,Jb0 hi1 hi3]; rfl)) ⟨⟨by simp; omega,by simp; omega,hv72⟩,by simp; omega⟩
   refine Cv (Qe (Qe (Qx (Qc (Ny 1 ?_)))))
   refine Wk 1 (Jgp sl22 rfl rfl hd2.sp (by decide) (by omega)) ?_
   refine Wd ?_
   refine QS.sel [0,2,0] rfl ?_
   refine QS.weak (fun u hu=>hu.toRoI) ?_
   refine QS.sel [1,0,0] rfl ?_
   refine QS.weak (fun u hu=>St.roCut (lo:=0) (hi:=2) hu (by omega) (by omega)) ?_
   refine QS.sel [2,0,0] rfl ?_
   exact QS.head ((d.cut 1 0 2,i.2,(Jbj (nth d.l 2)).take i.1.toNat)) rfl rfl ⟨fun x hx=>hd3 x (List.mem_of_mem_drop (List.mem_of_mem_take hx)),⟨ud,hd2.cut (by omega) (by omega)⟩,hi4,by
      rw [hR3,Jfp hc4.1 (by omega) hdg,show (Jbj (nth d.l 2)).take i.1.toNat=Jbj (nth d.l 2) from List.take_of_length_le (by rw [Jbn]; omega)]; rfl⟩
  refine Nz 1 ?_
  refine Wk 1 (by first | exact Jad (j:=0) rfl rfl rfl tk3 | exact Jak rfl (by assumption) rfl tk3) ?_
  refine Wd (Qc (CS.cond rfl ?_ ?_))<;>intro hc7<;>try simp only [bq] at hc7
  ·
   have hno:Ja2 t0=none:=by
    rw [hR3]
    exact Jc5 hc7 (fun h=>by omega)
   refine Nz 0 ?_
   refine Wk 0 (by first | exact Jas rfl (by assumption) (by omega) tk47 | exact Jab (j:=0) rfl rfl tk47 | exact Jac (j:=0) rfl rfl (by rfl) tk47 | exact Jae rfl (by assumption) (by rfl) tk47 | exact Jai (n:=7) (j:=0) rfl rfl rfl rfl tk47) ?_
   refine Wv 1 0 ?_
   exact Wd (Qc (Cr (Qr (outR (Jbr rfl (Jao (j:=0) rfl rfl tk47) rfl) (fun u hu=>Jcb hno rfl (Ja7 rfl) hu)))))
  refine Ck ?_
  refine QS.weak (fun u hu=>hu.nilRoI) ?_
  refine QS.sel [1,1,0] rfl ?_
  exact QS.head ((d,.slice none 0 0,[])) rfl rfl ⟨hd3,⟨ud,hd2⟩,rfl,by rw [hR3,Jd1 hk0 hc7]⟩
 intro e t hs
 obtain ⟨r,gv,g⟩:=e
 obtain ⟨he1,⟨ue,he2⟩,he3,he4⟩:=hs
 dsimp only at he1 he2 he3 he4
 have lr:=he2.le
 have hol:=Jg7 (Jah (nth q.l 0))
 refine Nz 0 ?_
 refine Wc rfl rfl Joi (fun u hu=>Jkm b2 (Jah (nth q.l 0)) u (by rw [Jbl (hu.blk (j:=0) rfl).2]; rfl)) (fun _=>rfl) ?_; intro v81 hv81
 refine Wz 1 ?_
 refine Wd (Qc (Cs (Nz 1 ?_)))
 refine Wk 1 (Nc (s:=r)) ?_
 refine Wk 1 (Jgy sl94 rfl (j:=0) rfl) ?_
 refine Wd (Qc (CS.cond rfl ?_ ?_))<;>intro hc8<;>try simp only [bq] at hc8
 ·
  have hno:Ja2 t0=none:=by
   rw [he4]
   exact Jiu (by omega)
  refine Nz 0 ?_
  refine Wk 0 (by first | exact Jas rfl (by assumption) (by omega) tk47 | exact Jab (j:=1) rfl rfl tk47 | exact Jac (j:=1) rfl rfl (by rfl) tk47 | exact Jae rfl (by assumption) (by rfl) tk47 | exact Jai (n:=7) (j:=1) rfl rfl rfl rfl tk47) ?_
  refine Wv 1 1 ?_
  exact Wd (Qc (Cr (Qr (outR (Jbr rfl (Jao (j:=1) rfl rfl tk47) rfl) (fun u hu=>Jcb hno rfl (Ja7 he3) hu)))))
 have hln:r.l.length=(offK (Jah (nth q.l 0))).length:=by omega
 refine Ck (Qc (Cs (Nz 1 ?_)))
 refine Wk 1 (Nc (s:=r)) ?_
 refine Wd (Qc (Ce ?_))
 refine CS.sel [1,1,1,0] rfl ?_
 refine CS.loopM (σ:=Int × List Int) [3,8,9,10,11,91,92,93,94,95,96,97,98,99,100,101,102,103,104,105,106,107,108,109] (fun s=>[(90,.int .i64 s.1)]) (fun s=>[blk b2 (setC (Jag ⟨(Jah (nth q.l 0)),0,0,0,0,[],nt⟩ gv) (offK (Jah (nth q.l 0))) s.2) 47,roT cStr r,roI gv g,osl 97 1 v81 (offK (Jah (nth q.l 0))).length (ptrL b2 (offK (Jah (nth q.l 0))))]) (fun s=>0≤s.1∧s.1≤r.l.length∧(s.2.length:Int)=s.1∧Jb2 3 (r.l.take s.1.toNat)=some s.2) (fun s=>(r.l.length - s.1).toNat) (0,[]) (fun _ _=>rfl) rfl (by rw [Jjj]) ⟨by simp,by simp,rfl,rfl⟩ ?_
 intro p t hs
 obtain ⟨hp1,hp2,hp3,hp4⟩:=hs
 refine Nz 1 ?_
 refine Wd (Qc (Cs (CS.cond rfl ?_ ?_)))<;>intro hc9<;>try simp only [bq] at hc9
 ·
  have hps:((nth r.l p.1).size:Int)≤1000000:=he1 _ (Jbe hp1 (by omega))
  obtain ⟨o,ho⟩:∃ o,(offK (Jah (nth q.l 0)))[p.1.toNat]? = some o:=⟨_,List.getElem?_eq_getElem (by omega)⟩
  have ho2:o < 7:=Jmc _ o (List.mem_of_getElem? ho)
  have hpa:(ptrL b2 (offK (Jah (nth q.l 0))))[p.1.toNat * 1]? = some (.pointer (some ⟨b2,o,none⟩)):=by rw [Nat.mul_one]; exact Jnn ho
  refine Ck (Qc (Cs (Ce (Nz 1 ?_))))
  refine Wk 0 (Xc (s:=r)) ?_
  refine Wk 2 (Vb 1 rfl (s:=r)) ?_
  refine Wd (Qc (Nz 1 ?_))
  refine Wk 5 (Cb rfl rfl Jos (fun u hu=>Jkq _ u (by omega))) ?_
  refine Wd (Qc (Cs (Nz 2 ?_)))
  refine Wd (Qc (CS.cond rfl ?_ ?_))<;>intro hc10<;>try simp only [bq] at hc10
  ·
   have hno:Ja2 t0=none:=by
    rw [he4]
    refine Jiy (Jbe hp1 (show p.1 < r.l.length by omega)) ?_
    cases hb:numB 3 (nth r.l p.1) with
    | none=>rfl
    | some n=>rw [hb] at hc10; simp at hc10
   refine Nz 0 ?_
   refine Wk 0 (Jab (j:=0) rfl rfl (by rw [Jbm]; exact tk47)) ?_
   refine WS.storeW (j:=0) rfl rfl rfl rfl (Jde _ _ _ (Ja7 he3)) tk47 (by rw [Jbm]; rfl) rfl ?_
   refine Wz 1 ?_
   exact Wd (Qc (Cr (Qr (Qs (Qr (Qr (Qs (Qr (outR (Jbr rfl (Jao (j:=0) rfl rfl (by rw [Jbm]; exact tk47)) rfl) (fun u hu=>Jcb hno (by rw [Jbm]; rfl) (Jde _ _ _ (Ja7 he3)) hu))))))))))
  obtain ⟨n,hb⟩:∃ n,numB 3 (nth r.l p.1)=some n:=by
   cases hb:numB 3 (nth r.l p.1) with
   | none=>rw [hb] at hc10; simp at hc10
   | some n=>exact ⟨n,rfl⟩
  refine Ck (Qc (Ny 2 ?_))
  refine Wk 0 (Jgn (j:=3) sl94 rfl rfl rfl (by omega) (by omega)) ?_
  refine Wk 2 (Jit (j:=3) rfl rfl hpa tk97) ?_
  refine WS.store (j:=0) rfl rfl (by rw [Jbm]; exact ho2) rfl rfl tk3 (Jcj _ _ _) rfl ?_
  refine Wd (Qb (Qc (Ny 0 ?_)))
  refine Wk 1 Za ?_
  exact Wd (QS.head ((p.1+1,p.2++[n])) rfl (by first | (rw [← Jdw (by rw [show p.2.length=p.1.toNat by omega]; exact ho),hb]; done) | (rw [← Jdw (by rw [show p.2.length=p.1.toNat by omega]; exact ho),hb]; rfl)) ⟨⟨by simp; omega,by simp; omega,by simp; omega,by show Jb2 3 (r.l.take (p.1+1).toNat)=_; rw [Jaw r.l hp1 (by omega)]; exact Jc3 hp4 hb⟩,by simp; omega⟩)
 have htk:r.l.take p.1.toNat=r.l:=List.take_of_length_le (by omega)
 rw [htk] at hp4
 have hyes:=he4.trans (Jiw hln hp4)
 have hfull:setC (Jag ⟨(Jah (nth q.l 0)),0,0,0,0,[],nt⟩ gv) (offK (Jah (nth q.l 0))) p.2=Jag (setF (Jah (nth q.l 0)) p.2 g nt) gv:=Jij (g:=g) (by rw [Jd6 hp4,hln])
 refine Cv (Qe (Qe (Qx (Qc (Nz 0 ?_)))))
 refine Wk 0 (Jab (j:=0) rfl rfl (by rw [Jbm]; exact tk47)) ?_
 refine WS.storeW (j:=0) rfl rfl rfl rfl (Jde _ _ _ (Ja7 he3)) tk47 (by rw [Jbm]; rfl) rfl ?_
 refine Wz 1 ?_
 refine Wd (Qc (Cr ?_))
 exact outR (Jbr rfl (Jao (j:=0) rfl rfl (by rw [Jbm]; exact tk47)) rfl) (fun u hu=>by
   rw [hfull]
   exact Jkt hyes he3 (j:=2) (by rw [Jla]; rfl) hu)
theorem Jls (t0:ByteArray) (w:World) (ht:(t0.size:Int)≤1000000) :
  Calls Tryz.prog 36 #[.string t0] w (Jjy w (Ja2 t0)):=by
 have hp:=Jea 32 t0
 have hsz:∀ x∈Jan 32 t0,(x.size:Int)≤1000000:=fun x hx=>by have:=Jfn hx; omega
 refine enter Tryz.func36 rfl rfl (Nat.le_of_ble_eq_true rfl) ?_
 refine Nz 0 ?_
 refine Wl 1 zv47 (fun _=>rfl) (fun _=>rfl) fun b2 hb2=>?_
 refine Wd (Qc (Nz 0 ?_))
 refine Wk 0 (Db Jc1 zv47) ?_
 refine Wl 0 zv47 (fun _=>rfl) (fun _=>rfl) fun b4 hb4=>?_
 refine Wv 0 0 ?_
 refine Wd (Qc (Nz 1 ?_))
 refine Wc rfl rfl Jom (fun u hu=>Jj9 t0 32 u (by omega)) (fun _=>rfl) ?_; rintro v14 ⟨u14,hv14⟩
 have hpw:(1:Int)≤((⟨v14,Jan 32 t0⟩:Sl ByteArray).l.length:Int):=by show (1:Int)≤((Jan 32 t0).length:Int); omega
 refine Wz 1 ?_
 refine Wd (Qc ?_)
 refine CS.cut (σ:=Bool × Sl ByteArray) [15,16,17,18,19,20,21] (fun s=>[(5,s.2.v)]) (fun s=>[blk b2 (Jag ⟨0,0,0,0,0,[],false⟩ (.slice none 0 0)) 47,blk b4 (Jag ⟨0,0,0,0,0,[],s.1⟩ (.slice none 0 0)) 47,roT cStr s.2]) (fun s=>(s.1=seq (nth (Jan 32 t0) 0) notW∧s.2.l=if s.1 then (Jan 32 t0).tail else Jan 32 t0)∧(∃ u0,SlT cStr u0 s.2)∧∀ x∈s.2.l,(x.size:Int)≤1000000) (fun _ _=>rfl) ?_ ?_
 ·
  refine Nz 1 ?_
  refine Wk 0 (Xc (s:=⟨v14,Jan 32 t0⟩)) ?_
  refine Wk 0 (Vb 0 rfl (s:=⟨v14,Jan 32 t0⟩)) ?_
  refine Wk 0 (Jb7 rfl rfl) ?_
  refine Wd (Qc (CS.cond rfl ?_ ?_))<;>intro hc1<;>try simp only [bq] at hc1
  ·
   refine Nz 1 ?_
   refine Ws 0 1 ?_
   refine Wd (Qc (Ny 1 ?_))
   refine Wk 1 (Jcf sl22 rfl rfl hv14.sp (by decide) (by omega)) ?_
   refine Wd ?_
   refine QS.sel [0,1,0] rfl ?_
   refine QS.weak (fun u hu=>St.roCut (lo:=1) (hi:=(Jan 32 t0).length) hu (by omega) (Nat.le_refl _)) ?_
   refine QS.sel [1,1,0] rfl ?_
   exact QS.head ((true,(⟨v14,Jan 32 t0⟩:Sl ByteArray).cut 1 1 (Jan 32 t0).length)) rfl rfl ⟨⟨hc1.symm,Jdi _⟩,⟨u14,hv14.cut (by omega) (Nat.le_refl _)⟩,fun x hx=>hsz x (List.mem_of_mem_drop (List.mem_of_mem_take hx))⟩
  refine Ck ?_
  refine QS.sel [2,1,0] rfl ?_
  exact QS.head ((false,⟨v14,Jan 32 t0⟩)) rfl rfl ⟨⟨hc1.symm,rfl⟩,⟨u14,hv14⟩,hsz⟩
 intro a t hs
 obtain ⟨nt,q⟩:=a
 obtain ⟨⟨ha1,ha2⟩,⟨ua,ha3⟩,ha4⟩:=hs
 dsimp only at ha1 ha2 ha3 ha4
 have hR:Ja2 t0=Jfi nt q.l:=Jh5 ha1 ha2
 have lq:=ha3.le
 refine Cs (Nz 1 ?_)
 refine Wk 1 (Nc (s:=q)) ?_
 refine Wd (Qc (CS.cond rfl ?_ ?_))<;>intro hc2<;>try simp only [bq] at hc2
 ·
  have hno:Ja2 t0=none:=by rw [hR]; exact Jed (.inl hc2)
  refine Nz 0 ?_
  refine Wk 0 (by first | exact Jas rfl (by assumption) (by omega) tk47 | exact Jab (j:=1) rfl rfl tk47 | exact Jac (j:=1) rfl rfl (by rfl) tk47 | exact Jae rfl (by assumption) (by rfl) tk47 | exact Jai (n:=7) (j:=1) rfl rfl rfl rfl tk47) ?_
  refine Wv 1 0 ?_
  exact Wd (Qc (Cr (Qr (outR (Jbr rfl (Jao (j:=0) rfl rfl tk47) rfl) (fun u hu=>Jcb hno rfl (Ja7 (c:=⟨0,0,0,0,0,[],nt⟩) (gv:=.slice none 0 0) rfl) hu)))))
 have hq0:0 < q.l.length:=by omega
 have hR2:Ja2 t0=Jda nt (Jah (nth q.l 0)) q.l.tail:=by rw [hR,Jei hq0]
 have hkb:=Jcm (nth q.l 0)
 refine Ck (Qc (Cs (Nz 1 ?_)))
 refine Wd (Qc (Ce ?_))
 refine CS.loopM (σ:=Int) [26,27,28,29,30,31,32,33,34,35,36,37,38,39,40,41] (fun s=>[(6,.int .i64 s)]) (fun s=>[blk b2 (Jag ⟨0,0,0,0,0,[],false⟩ (.slice none 0 0)) 47,blk b4 (Jag ⟨kU (nth q.l 0) s,0,0,0,0,[],nt⟩ (.slice none 0 0)) 47,roT cStr q]) (fun s=>1≤s∧s≤8) (fun s=>(8 - s).toNat) 1 (fun _ _=>rfl) rfl (by rw [kU_1]) ⟨by decide,by decide⟩ ?_
 intro k t hs
 obtain ⟨hk1,hk2⟩:=hs
 refine Cs (Nz 1 ?_)
 refine Wc rfl rfl Jns (fun u hu=>Jh6 u) (fun _=>rfl) ?_; rintro v27 ⟨u27,hv27⟩
 refine Wk 1 (Jbz (n:=8) sl22 rfl hv27.sp) ?_
 refine Wd (Qc (CS.cond rfl ?_ ?_))<;>intro hc3<;>try simp only [bq] at hc3
 ·
  refine Ck (Qc (Cs (Ce (Cs ?_))))
  refine CS.drawnAll (k:=8) mixed rfl rfl ?_
  refine Ar [1,4] ?_
  refine Ak 5 [] rfl (Xc (s:=q)) ?_
  refine Ak 6 [] rfl (Vb 3 rfl (s:=q)) ?_
  refine Ao 0 rfl ?_
  refine Wc rfl rfl Jns (fun u hu=>Jh6 u) (fun _=>rfl) ?_; rintro v32 ⟨u32,hv32⟩
  have e8:((⟨v32,kindL⟩:Sl ByteArray).l.length:Int)=8:=rfl
  refine Wd (Qa ?_)
  refine Ak 2 [] rfl (Xc (s:=⟨v32,kindL⟩)) ?_
  refine Ao 3 rfl ?_
  refine Wk 0 (Vb 0 rfl (s:=⟨v32,kindL⟩)) ?_
  refine Wd (Qa ?_)
  refine Ak 7 [] rfl (Jb7 rfl rfl) ?_
  refine Ae ?_
  refine Qc (CS.cond rfl ?_ ?_)<;>intro hc4<;>try simp only [bq] at hc4
  ·
   refine Ny 2 ?_
   refine Ws 0 3 ?_
   refine Wd (Qb (Qc (Ny 1 ?_)))
   refine Wk 1 Za ?_
   refine Wd ?_
   refine QS.sel [2,2,2] rfl ?_
   exact QS.head (k+1) rfl (by first | (rw [Jk2 hk1 (by omega) hc4]; done) | (rw [Jk2 hk1 (by omega) hc4]; rfl)) (by omega)
  refine Ck (Qb (Qc (Ny 1 ?_)))
  refine Wk 1 Za ?_
  refine Wd ?_
  refine QS.sel [2,2,2] rfl ?_
  exact QS.head (k+1) rfl (by first | (rw [Jiq hk1 (by omega) hc4]; done) | (rw [Jiq hk1 (by omega) hc4]; rfl)) (by omega)
 have hk8:kU (nth q.l 0) k=Jah (nth q.l 0):=by rw [show k=8 by omega]; exact kU_8 _
 refine Cv (Qe (Qe (Qx (Qc ?_))))
 refine CS.cut (σ:=Sl ByteArray) [42,43] (fun s=>[(5,s.v)]) (fun s=>[blk b2 (Jag ⟨0,0,0,0,0,[],false⟩ (.slice none 0 0)) 47,blk b4 (Jag ⟨(Jah (nth q.l 0)),0,0,0,0,[],nt⟩ (.slice none 0 0)) 47,roT cStr s]) (fun s=>s.l=q.l.tail∧(∃ u0,SlT cStr u0 s)∧∀ x∈s.l,(x.size:Int)≤1000000) (fun _ _=>rfl) ?_ ?_
 ·
  refine Ny 1 ?_
  refine Wk 1 (Jcf sl22 rfl rfl ha3.sp (by decide) (by omega)) ?_
  refine Wd ?_
  refine QS.sel [3,1,1] rfl ?_
  refine QS.weak (fun u hu=>St.roCut (lo:=1) (hi:=q.l.length) hu (by omega) (Nat.le_refl _)) ?_
  refine QS.sel [1,1,0] rfl ?_
  exact QS.head ((q.cut 1 1 q.l.length)) rfl (by first | (rw [hk8]; done) | (rw [hk8]; rfl)) ⟨Jdi _,⟨ua,ha3.cut (by omega) (Nat.le_refl _)⟩,fun x hx=>ha4 x (List.mem_of_mem_drop (List.mem_of_mem_take hx))⟩
 intro d t hs
 obtain ⟨hd1,⟨ud,hd2⟩,hd3⟩:=hs
 have hR3:Ja2 t0=Jda nt (Jah (nth q.l 0)) d.l:=by rw [hR2,hd1]
 have ld:=hd2.le
 refine Cs (Nz 1 ?_)
 refine Wk 1 (by first | exact Jad (j:=1) rfl rfl rfl tk3 | exact Jak rfl (by assumption) rfl tk3) ?_
 refine Wd (Qc (CS.cond rfl ?_ ?_))<;>intro hc5<;>try simp only [bq] at hc5
 ·
  have hno:Ja2 t0=none:=by rw [hR3,hc5]; rfl
  refine Nz 0 ?_
  refine Wk 0 (by first | exact Jas rfl (by assumption) (by omega) tk47 | exact Jab (j:=1) rfl rfl tk47 | exact Jac (j:=1) rfl rfl (by rfl) tk47 | exact Jae rfl (by assumption) (by rfl) tk47 | exact Jai (n:=7) (j:=1) rfl rfl rfl rfl tk47) ?_
  refine Wv 1 0 ?_
  exact Wd (Qc (Cr (Qr (outR (Jbr rfl (Jao (j:=0) rfl rfl tk47) rfl) (fun u hu=>Jcb hno rfl (Ja7 (c:=⟨(Jah (nth q.l 0)),0,0,0,0,[],nt⟩) (gv:=.slice none 0 0) rfl) hu)))))
 have hk0:¬ Jah (nth q.l 0)=0:=hc5
 refine Ck (Qc ?_)
 refine CS.cut (σ:=Sl ByteArray × Value × List Int) [3,7,48,49,50,51,52,53,54,55,56,57,58,59,60,61,62,63,64,65,66,67,68,69,70,71,72,73,74,75,76,77,78,79,80,81,82,83] (fun s=>[(5,s.1.v)]) (fun s=>[blk b2 (Jag ⟨0,0,0,0,0,[],false⟩ (.slice none 0 0)) 47,blk b4 (Jag ⟨(Jah (nth q.l 0)),0,0,0,0,[],nt⟩ (s.2.1)) 47,roT cStr s.1,roI s.2.1 s.2.2]) (fun s=>(∀ x∈s.1.l,(x.size:Int)≤1000000)∧(∃ u0,SlT cStr u0 s.1)∧s.2.1.oneCell'=true∧Ja2 t0=rdN nt (Jah (nth q.l 0)) s.1.l s.2.2) (fun _ _=>rfl) ?_ ?_
 ·
  refine Nz 1 ?_
  refine Wk 1 (by first | exact Jad (j:=1) rfl rfl rfl tk3 | exact Jak rfl (by assumption) rfl tk3) ?_
  refine Wd (Qc (CS.cond rfl ?_ ?_))<;>intro hc6<;>try simp only [bq] at hc6
  ·
   have hc6:Jah (nth q.l 0)=6:=hc6
   refine Cs (Nz 1 ?_)
   refine Wk 2 (Nc (s:=d)) ?_
   refine Wf 0 rfl rfl (fun hg=>Fm) ?_
   refine Wf 0 rfl rfl (fun hg=>Xc (s:=d)) ?_
   refine Wf 0 rfl rfl (fun hg=>Vb 2 rfl (s:=d)) ?_
   refine Wf 0 rfl rfl (fun hg=>Cb rfl (ec_ (eg_ hg rfl) (ec_ rfl en_)) Jms (fun u hu=>Jfd _ _ u (hd3 _ (Jbe (by decide) (by simp at hg; omega))))) ?_
   refine Wf 0 rfl rfl (fun hg=>Fn) ?_
   refine Wk 0 Po ?_
   refine Wd (Qc (CS.cond rfl ?_ ?_))<;>intro hc7<;>try simp only [bq] at hc7
   ·
    have hno:Ja2 t0=none:=by
     rw [hR3]
     refine Jc5 hc6 (fun h=>?_)
     rw [h.2] at hc7
     simp [h.1] at hc7
    refine Nz 0 ?_
    refine Wk 0 (by first | exact Jas rfl (by assumption) (by omega) tk47 | exact Jab (j:=1) rfl rfl tk47 | exact Jac (j:=1) rfl rfl (by rfl) tk47 | exact Jae rfl (by assumption) (by rfl) tk47 | exact Jai (n:=7) (j:=1) rfl rfl rfl rfl tk47) ?_
    refine Wv 1 0 ?_
    exact Wd (Qc (Cr (Qr (Qr (outR (Jbr rfl (Jao (j:=0) rfl rfl tk47) rfl) (fun u hu=>Jcb hno rfl (Ja7 (c:=⟨(Jah (nth q.l 0)),0,0,0,0,[],nt⟩) (gv:=.slice none 0 0) rfl) hu))))))
   have hdl:d.l.length=3:=by omega
   have hdg:Jap (nth d.l 2) 4=true:=by
    have h2:=hc7.2
    simpa using h2
   have hd2s:((nth d.l 2).size:Int)≤1000000:=hd3 _ (Jbe (by decide) (by omega))
   refine Ck (Qc (Cs (Nz 1 ?_)))
   refine Wd (Qc (Ce ?_))
   refine CS.weak (fun _ hu=>hu.osl0 (e:=3) (size:=1)) ?_
   refine CS.loopM (σ:=Int × Value) [62,63,64,65,66,67,68,69,70,71,72,73,74,75,76,77,78,79,80,81] (fun s=>[(7,.int .i64 s.1)]) (fun s=>[oints 3 s.2 ((Jbj (nth d.l 2)).take s.1.toNat),blk b2 (Jag ⟨0,0,0,0,0,[],false⟩ (.slice none 0 0)) 47,blk b4 (Jag ⟨(Jah (nth q.l 0)),0,0,0,0,[],nt⟩ (s.2)) 47,roT cStr d]) (fun s=>0≤s.1∧s.1≤(nth d.l 2).size∧s.2.oneCell'=true) (fun s=>((nth d.l 2).size - s.1).toNat) (0,.slice none 0 0) (fun _ _=>rfl) rfl rfl ⟨by simp,by simp,rfl⟩ ?_
   intro i t hs
   obtain ⟨hi1,hi2,hi4⟩:=hs
   refine Cs (Nz 2 ?_)
   refine Wk 0 (Xc (s:=d)) ?_
   refine Wk 0 (Vb 3 rfl (s:=d)) ?_
   refine Wk 1 (Jav Tryz.underlying9 rfl) ?_
   refine Wd (Qc (CS.cond rfl ?_ ?_))<;>intro hc8<;>try simp only [bq] at hc8
   ·
    have hi3:i.1 < ((nth d.l 2).size:Int):=by omega
    have hdi:=Jg4 (Je4 hdg) hi1 hi3
    refine Ck (Qc (Cs (Ce ?_)))
    refine CS.drawnTill 10 (k:=13) mixed rfl rfl ?_
    refine Tr 13 [0] ?_
    refine Tk 13 1 [2] rfl (by first | exact Jad (j:=2) rfl rfl rfl tk32 | exact Jak rfl (by assumption) rfl tk32) ?_
    refine Tk 13 3 [] rfl (Xc (s:=d)) ?_
    refine Tk 13 4 [5] rfl (Vb 3 rfl (s:=d)) ?_
    refine Tk 13 6 [] rfl (Ja4 Tryz.underlying9 rfl rfl (by omega) (by omega)) ?_
    refine Tk 13 7 [] rfl (Jdk rfl rfl (by omega)) ?_
    refine Tk 13 8 [] rfl (Jcy Tryz.underlying5 Tryz.underlying3 rfl (by omega)) ?_
    refine To 9 rfl ?_
    refine WS.buildI1 sl32 zv3 rfl (fun _=>rfl) ?_; intro v79
    refine Wd (Qt ?_)
    refine To 10 rfl ?_
    refine WS.appendI (j:=1) sl32 zv3 rfl rfl rfl (fun u hu=>Jcr hu (j:=0) rfl) (by simp only [List.length_take,Jbn,List.length_singleton]; omega) (by simp only [List.length_take,Jbn,List.length_singleton]; omega) (fun _=>rfl) (fun _=>rfl) ?_; intro v80; refine WS.oc (j:=1) rfl (fun hv80=>?_)
    refine Wd (Qt ?_)
    refine To 11 rfl ?_
    refine Wz 1 ?_
    refine Wd (Qt ?_)
    refine To 12 rfl ?_
    refine Ws 0 3 ?_
    refine Wd (Qt ?_)
    refine Te ?_
    refine Qb (Qc (Ny 1 ?_))
    refine Wk 1 Za ?_
    refine Wd ?_
    refine QS.sel [1,1,1,1] rfl ?_
    exact QS.head ((i.1+1,v80)) rfl (by first | (rw [show (i.1+1,v80).1=i.1+1 from rfl,Jb0 hi1 hi3]; done) | (rw [show (i.1+1,v80).1=i.1+1 from rfl,Jb0 hi1 hi3]; rfl)) ⟨⟨by simp; omega,by simp; omega,hv80⟩,by simp; omega⟩
   refine Cv (Qe (Qe (Qx (Qc (Ny 1 ?_)))))
   refine Wk 1 (Jgp sl22 rfl rfl hd2.sp (by decide) (by omega)) ?_
   refine Wd ?_
   refine QS.sel [0,2,0,0] rfl ?_
   refine QS.weak (fun u hu=>hu.toRoI) ?_
   refine QS.sel [1,0,0,0] rfl ?_
   refine QS.weak (fun u hu=>St.roCut (lo:=0) (hi:=2) hu (by omega) (by omega)) ?_
   refine QS.sel [2,2,0,0] rfl ?_
   exact QS.head ((d.cut 1 0 2,i.2,(Jbj (nth d.l 2)).take i.1.toNat)) rfl rfl ⟨fun x hx=>hd3 x (List.mem_of_mem_drop (List.mem_of_mem_take hx)),⟨ud,hd2.cut (by omega) (by omega)⟩,hi4,by
      rw [hR3,Jfp hc6 (by omega) hdg,show (Jbj (nth d.l 2)).take i.1.toNat=Jbj (nth d.l 2) from List.take_of_length_le (by rw [Jbn]; omega)]; rfl⟩
  have hc6:¬ Jah (nth q.l 0)=6:=hc6
  refine Ck ?_
  refine QS.weak (fun u hu=>hu.nilRoI) ?_
  refine QS.sel [1,1,1,0] rfl ?_
  exact QS.head ((d,.slice none 0 0,[])) rfl rfl ⟨hd3,⟨ud,hd2⟩,rfl,by rw [hR3,Jd1 hk0 hc6]⟩
 intro e t hs
 obtain ⟨r,gv,g⟩:=e
 obtain ⟨he1,⟨ue,he2⟩,he3,he4⟩:=hs
 dsimp only at he1 he2 he3 he4
 have lr:=he2.le
 have hol:=Jg7 (Jah (nth q.l 0))
 have hfl:=Jhp ⟨(Jah (nth q.l 0)),0,0,0,0,[],nt⟩
 dsimp only at hfl
 refine Cs (Nz 1 ?_)
 refine Wk 0 (Nc (s:=r)) ?_
 refine Wk 0 (by first | exact Jas rfl (by assumption) (by omega) tk47 | exact Jab (j:=1) rfl rfl tk47 | exact Jac (j:=1) rfl rfl (by rfl) tk47 | exact Jae rfl (by assumption) (by rfl) tk47 | exact Jai (n:=7) (j:=1) rfl rfl rfl rfl tk47) ?_
 refine Wc rfl rfl Jn9 (fun u hu=>Jio ⟨(Jah (nth q.l 0)),0,0,0,0,[],nt⟩ gv u he3) (fun _=>rfl) ?_; intro v87 hv87
 refine Wk 1 (Nb 0) ?_
 refine Wd (Qc (CS.cond rfl ?_ ?_))<;>intro hc9<;>try simp only [bq] at hc9
 ·
  have hno:Ja2 t0=none:=by
   rw [he4]
   exact Jiu (by omega)
  refine Nz 0 ?_
  refine Wk 0 (by first | exact Jas rfl (by assumption) (by omega) tk47 | exact Jab (j:=2) rfl rfl tk47 | exact Jac (j:=2) rfl rfl (by rfl) tk47 | exact Jae rfl (by assumption) (by rfl) tk47 | exact Jai (n:=7) (j:=2) rfl rfl rfl rfl tk47) ?_
  refine Wv 1 1 ?_
  exact Wd (Qc (Cr (Qr (outR (Jbr rfl (Jao (j:=1) rfl rfl tk47) rfl) (fun u hu=>Jcb hno rfl (Ja7 (c:=⟨(Jah (nth q.l 0)),0,0,0,0,[],nt⟩) (gv:=gv) he3) hu)))))
 have hln:r.l.length=(offK (Jah (nth q.l 0))).length:=by omega
 refine Ck (Qc (Nz 1 ?_))
 refine Wd (Qc (Cs (Nz 1 ?_)))
 refine Wd (Qc (Ce ?_))
 refine CS.weak (fun _ hu=>hu.osl0 (e:=3) (size:=1)) ?_
 refine CS.sel [0,1,1,1,1] rfl ?_
 refine CS.loopM (σ:=Int × Value × List Int) [3,10,11,91,92,93,94,95,96,97,98,99,100,101,102,103,104,105,106,107,108,109,110,111] (fun s=>[(9,.int .i64 s.1),(8,s.2.1)]) (fun s=>[oints 3 s.2.1 s.2.2,blk b2 (Jag ⟨0,0,0,0,0,[],false⟩ (.slice none 0 0)) 47,blk b4 (Jag ⟨(Jah (nth q.l 0)),0,0,0,0,[],nt⟩ (gv)) 47,roT cStr r,roI gv g]) (fun s=>0≤s.1∧s.1≤r.l.length∧(s.2.2.length:Int)=s.1∧Jb2 3 (r.l.take s.1.toNat)=some s.2.2) (fun s=>(r.l.length - s.1).toNat) (0,.slice none 0 0,[]) (fun _ _=>rfl) rfl rfl ⟨by simp,by simp,rfl,rfl⟩ ?_
 intro p t hs
 obtain ⟨hp1,hp2,hp3,hp4⟩:=hs
 refine Cs (Nz 2 ?_)
 refine Wk 1 (Nc (s:=r)) ?_
 refine Wd (Qc (CS.cond rfl ?_ ?_))<;>intro hc10<;>try simp only [bq] at hc10
 ·
  have hps:((nth r.l p.1).size:Int)≤1000000:=he1 _ (Jbe hp1 (by omega))
  refine Ck (Qc (Cs (Ce (Nz 2 ?_))))
  refine Wk 0 (Xc (s:=r)) ?_
  refine Wk 0 (Vb 3 rfl (s:=r)) ?_
  refine Wk 5 (Cb rfl rfl Jn5 (fun u hu=>Jh7 _ u (by omega))) ?_
  refine Wd (Qc (Cs (Nz 2 ?_)))
  refine Wd (Qc (CS.cond rfl ?_ ?_))<;>intro hc11<;>try simp only [bq] at hc11
  ·
   have hno:Ja2 t0=none:=by
    rw [he4]
    refine Jiy (Jbe hp1 (show p.1 < r.l.length by omega)) ?_
    cases hb:numB 3 (nth r.l p.1) with
    | none=>rfl
    | some n=>rw [hb] at hc11; simp at hc11
   refine Nz 0 ?_
   refine Wk 0 (by first | exact Jas rfl (by assumption) (by omega) tk47 | exact Jab (j:=2) rfl rfl tk47 | exact Jac (j:=2) rfl rfl (by rfl) tk47 | exact Jae rfl (by assumption) (by rfl) tk47 | exact Jai (n:=7) (j:=2) rfl rfl rfl rfl tk47) ?_
   refine Wv 1 1 ?_
   exact Wd (Qc (Cr (Qr (Qs (Qr (Qr (Qs (Qr (outR (Jbr rfl (Jao (j:=1) rfl rfl tk47) rfl) (fun u hu=>Jcb hno rfl (Ja7 (c:=⟨(Jah (nth q.l 0)),0,0,0,0,[],nt⟩) (gv:=gv) he3) hu))))))))))
  obtain ⟨n,hb⟩:∃ n,numB 3 (nth r.l p.1)=some n:=by
   cases hb:numB 3 (nth r.l p.1) with
   | none=>rw [hb] at hc11; simp at hc11
   | some n=>exact ⟨n,rfl⟩
  have hgd:(numB 3 (nth r.l p.1)).getD 0=n:=by rw [hb]; rfl
  refine Ck (Qc (Ny 2 ?_))
  refine WS.buildI1 sl32 zv3 rfl (fun _=>rfl) ?_; intro v110
  refine WS.appendI (j:=1) sl32 zv3 rfl rfl rfl (fun u hu=>Jcr hu (j:=0) rfl) (by first | omega | (simp; omega) | (simp only [List.length_append,List.length_singleton,List.length_map,List.length_cons,List.length_nil] at *; omega)) (by first | omega | (simp; omega) | (simp only [List.length_append,List.length_singleton,List.length_map,List.length_cons,List.length_nil] at *; omega)) (fun _=>rfl) (fun _=>rfl) ?_; intro v111; refine WS.oc (j:=1) rfl (fun hv111=>?_)
  refine Wz 1 ?_
  refine Wd (Qb (Qc (Ny 1 ?_)))
  refine Wk 1 Za ?_
  refine Wd ?_
  refine QS.sel [1,1,1,1,1] rfl ?_
  exact QS.head ((p.1+1,v111,p.2.2++[(numB 3 (nth r.l p.1)).getD 0])) rfl rfl ⟨⟨by simp; omega,by simp; omega,by simp; omega,by show Jb2 3 (r.l.take (p.1+1).toNat)=_; rw [Jaw r.l hp1 (by omega),hgd]; exact Jc3 hp4 hb⟩,by simp; omega⟩
 have htk:r.l.take p.1.toNat=r.l:=List.take_of_length_le (by omega)
 rw [htk] at hp4
 have hyes:=he4.trans (Jiw hln hp4)
 have hnl:p.2.2.length=(offK (Jah (nth q.l 0))).length:=by rw [Jd6 hp4,hln]
 refine Cv (Qe (Qe (Qx (Qc ?_))))
 refine CS.cut (σ:=Unit) [112,113,114,115,116,117,118,119,120,121,122,123,124,125,126,127,128,129,130,131,132,133,134,135,136,137,138,139,140,141,142,143,144,145,146,147,148,149,150,151,152,153,154,155,156,157,158,159,160,161,162,163,164,165,166,167,168,169,170,171,172,173] (fun s=>[]) (fun s=>[blk b2 (Jag ⟨0,0,0,0,0,[],false⟩ (.slice none 0 0)) 47,blk b4 (Jag (setF (Jah (nth q.l 0)) p.2.2 g nt) gv) 47,roI gv g]) (fun s=>True) (fun _ _=>rfl) ?_ ?_
 ·
  refine Nz 1 ?_
  refine Wk 0 (by first | exact Jad (j:=2) rfl rfl rfl tk3 | exact Jak rfl (by assumption) rfl tk3) ?_
  refine Wd (Qc (Ce (Nz 2 ?_)))
  refine Wd (Qc (CS.cond rfl ?_ ?_))<;>intro hc12<;>try simp only [bq] at hc12
  ·
   have hc12:(Jah (nth q.l 0))=1:=hc12
   have hl2:p.2.2.length=2:=by
    have h0:offK (Jah (nth q.l 0))=[1,3]:=if_pos hc12
    have h:=congrArg List.length h0
    simp only [List.length_cons,List.length_nil] at h
    omega
   refine Nz 1 ?_
   refine Wk 0 (Xb 0) ?_
   refine Wk 1 (Ib 0) ?_
   refine Ws 0 2 ?_
   refine Wd (Qc (Ny 1 ?_))
   refine Wk 0 (Xb 0) ?_
   refine Wk 1 (Ib 0) ?_
   refine Ws 0 2 ?_
   refine Wd (Qb ?_)
   refine QS.sel [1,1,2] rfl ?_
   exact QS.head (()) rfl (by first | (rw [show setF (Jah (nth q.l 0)) p.2.2 g nt=_ from if_pos hc12]; done) | (rw [show setF (Jah (nth q.l 0)) p.2.2 g nt=_ from if_pos hc12]; rfl)) trivial
  have hc12:¬ (Jah (nth q.l 0))=1:=hc12
  refine Nz 2 ?_
  refine Wd (Qc (CS.cond rfl ?_ ?_))<;>intro hc13<;>try simp only [bq] at hc13
  ·
   have hc13:(Jah (nth q.l 0))=2:=hc13
   have hl2:p.2.2.length=3:=by
    have h0:offK (Jah (nth q.l 0))=[1,2,3]:=(if_neg hc12).trans (if_pos hc13)
    have h:=congrArg List.length h0
    simp only [List.length_cons,List.length_nil] at h
    omega
   refine Nz 1 ?_
   refine Wk 0 (Xb 0) ?_
   refine Wk 1 (Ib 0) ?_
   refine Ws 0 2 ?_
   refine Wd (Qc (Nz 1 ?_))
   refine Wk 0 (Xb 0) ?_
   refine Wk 1 (Ib 0) ?_
   refine Ws 0 2 ?_
   refine Wd (Qc (Ny 1 ?_))
   refine Wk 0 (Xb 0) ?_
   refine Wk 1 (Ib 0) ?_
   refine Ws 0 2 ?_
   refine Wd (Qb ?_)
   refine QS.sel [1,1,2] rfl ?_
   exact QS.head (()) rfl (by first | (rw [show setF (Jah (nth q.l 0)) p.2.2 g nt=_ from (if_neg hc12).trans (if_pos hc13)]; done) | (rw [show setF (Jah (nth q.l 0)) p.2.2 g nt=_ from (if_neg hc12).trans (if_pos hc13)]; rfl)) trivial
  have hc13:¬ (Jah (nth q.l 0))=2:=hc13
  refine CS.cut (σ:=Bool) [139,140] (fun s=>[(138,.bool s)]) (fun s=>[oints 3 p.2.1 p.2.2,blk b2 (Jag ⟨0,0,0,0,0,[],false⟩ (.slice none 0 0)) 47,blk b4 (Jag ⟨(Jah (nth q.l 0)),0,0,0,0,[],nt⟩ (gv)) 47,roT cStr r,roI gv g]) (fun s=>s=decide ((Jah (nth q.l 0))=3∨(Jah (nth q.l 0))=4)) (fun _ _=>rfl) ?_ ?_
  ·
   refine Nz 2 ?_
   refine Wd (Qc (CS.cond rfl ?_ ?_))<;>intro hc14<;>try simp only [bq] at hc14
   ·
    exact Ck (QS.head ((decide ((Jah (nth q.l 0))=3))) rfl rfl (by rw [decide_eq_decide]; omega))
   refine Ny 2 ?_
   exact Wd (QS.head ((decide ((Jah (nth q.l 0))=4))) rfl rfl (by rw [decide_eq_decide]; omega))
  intro z t hs
  subst hs
  refine CS.cond rfl (fun hc15=>?_) (fun hc15=>?_) <;> (try simp only [bq] at hc15)
  ·
   have hl2:p.2.2.length=2:=by
    have h0:offK (Jah (nth q.l 0))=[1,2]:=(if_neg hc12).trans ((if_neg hc13).trans (if_pos (by omega)))
    have h:=congrArg List.length h0
    simp only [List.length_cons,List.length_nil] at h
    omega
   refine Nz 1 ?_
   refine Wk 0 (Xb 0) ?_
   refine Wk 1 (Ib 0) ?_
   refine Ws 0 2 ?_
   refine Wd (Qc (Ny 1 ?_))
   refine Wk 0 (Xb 0) ?_
   refine Wk 1 (Ib 0) ?_
   refine Ws 0 2 ?_
   refine Wd (Qb ?_)
   refine QS.sel [1,1,2] rfl ?_
   exact QS.head (()) rfl (by first | (rw [show setF (Jah (nth q.l 0)) p.2.2 g nt=_ from (if_neg hc12).trans ((if_neg hc13).trans (if_pos (by omega)))]; done) | (rw [show setF (Jah (nth q.l 0)) p.2.2 g nt=_ from (if_neg hc12).trans ((if_neg hc13).trans (if_pos (by omega)))]; rfl)) trivial
  refine CS.cut (σ:=Bool) [150,151] (fun s=>[(149,.bool s)]) (fun s=>[oints 3 p.2.1 p.2.2,blk b2 (Jag ⟨0,0,0,0,0,[],false⟩ (.slice none 0 0)) 47,blk b4 (Jag ⟨(Jah (nth q.l 0)),0,0,0,0,[],nt⟩ (gv)) 47,roT cStr r,roI gv g]) (fun s=>s=decide ((Jah (nth q.l 0))=5∨(Jah (nth q.l 0))=6)) (fun _ _=>rfl) ?_ ?_
  ·
   refine Nz 2 ?_
   refine Wd (Qc (CS.cond rfl ?_ ?_))<;>intro hc16<;>try simp only [bq] at hc16
   ·
    exact Ck (QS.head ((decide ((Jah (nth q.l 0))=5))) rfl rfl (by rw [decide_eq_decide]; omega))
   refine Ny 2 ?_
   exact Wd (QS.head ((decide ((Jah (nth q.l 0))=6))) rfl rfl (by rw [decide_eq_decide]; omega))
  intro z t hs
  subst hs
  refine CS.cond rfl (fun hc17=>?_) (fun hc17=>?_) <;> (try simp only [bq] at hc17)
  ·
   have hl2:p.2.2.length=2:=by
    have h0:offK (Jah (nth q.l 0))=[3,4]:=(if_neg hc12).trans ((if_neg hc13).trans ((if_neg (by omega)).trans (if_pos (by omega))))
    have h:=congrArg List.length h0
    simp only [List.length_cons,List.length_nil] at h
    omega
   refine Nz 1 ?_
   refine Wk 0 (Xb 0) ?_
   refine Wk 1 (Ib 0) ?_
   refine Ws 0 2 ?_
   refine Wd (Qc (Ny 1 ?_))
   refine Wk 0 (Xb 0) ?_
   refine Wk 1 (Ib 0) ?_
   refine Ws 0 2 ?_
   refine Wd (Qb ?_)
   refine QS.sel [1,1,2] rfl ?_
   exact QS.head (()) rfl (by first | (rw [show setF (Jah (nth q.l 0)) p.2.2 g nt=_ from (if_neg hc12).trans ((if_neg hc13).trans ((if_neg (by omega)).trans (if_pos (by omega))))]; done) | (rw [show setF (Jah (nth q.l 0)) p.2.2 g nt=_ from (if_neg hc12).trans ((if_neg hc13).trans ((if_neg (by omega)).trans (if_pos (by omega))))]; rfl)) trivial
  refine Nz 2 ?_
  refine Wd (Qc (CS.cond rfl ?_ ?_))<;>intro hc18<;>try simp only [bq] at hc18
  ·
   have hl2:p.2.2.length=3:=by
    have h0:offK (Jah (nth q.l 0))=[1,3,4]:=(if_neg hc12).trans ((if_neg hc13).trans ((if_neg (by omega)).trans (if_neg (by omega))))
    have h:=congrArg List.length h0
    simp only [List.length_cons,List.length_nil] at h
    omega
   refine Nz 1 ?_
   refine Wk 0 (Xb 0) ?_
   refine Wk 1 (Ib 0) ?_
   refine Ws 0 2 ?_
   refine Wd (Qc (Nz 1 ?_))
   refine Wk 0 (Xb 0) ?_
   refine Wk 1 (Ib 0) ?_
   refine Ws 0 2 ?_
   refine Wd (Qc (Ny 1 ?_))
   refine Wk 0 (Xb 0) ?_
   refine Wk 1 (Ib 0) ?_
   refine Ws 0 2 ?_
   refine Wd (Qb ?_)
   refine QS.sel [1,1,2] rfl ?_
   exact QS.head (()) rfl (by first | (rw [show setF (Jah (nth q.l 0)) p.2.2 g nt=_ from (if_neg hc12).trans ((if_neg hc13).trans ((if_neg (by omega)).trans (if_neg (by omega))))]; done) | (rw [show setF (Jah (nth q.l 0)) p.2.2 g nt=_ from (if_neg hc12).trans ((if_neg hc13).trans ((if_neg (by omega)).trans (if_neg (by omega))))]; rfl)) trivial
  omega
 intro z t hs
 refine Nz 0 ?_
 refine Wk 0 (by first | exact Jas rfl (by assumption) (by omega) tk47 | exact Jab (j:=1) rfl rfl tk47 | exact Jac (j:=1) rfl rfl (by rfl) tk47 | exact Jae rfl (by assumption) (by rfl) tk47 | exact Jai (n:=7) (j:=1) rfl rfl rfl rfl tk47) ?_
 refine Wv 1 0 ?_
 exact Wd (Qc (Cr (outR (Jbr rfl (Jao (j:=0) rfl rfl tk47) rfl) (fun u hu=>Jkt hyes he3 (j:=2) (by rw [Jla]; rfl) hu))))
theorem Jjw (lw ls:Int) (t0:ByteArray) (w:World) (hM:MaxOk w) (hW:WOk w) :
  Calls Tryz.prog 14 #[.agg #[.int .i64 lw,.int .i64 ls],.string t0] w (Jjp w (Jbu lw ls t0)):=by
 refine enter Tryz.func14 rfl rfl (Nat.le_of_ble_eq_true rfl) ?_
 refine Nz 0 ?_
 refine Wb 0 rfl rfl (fun _=>rfl) (fun _=>rfl) fun b2 hb2=>?_
 refine Wl 1 zv47 (fun _=>rfl) (fun _=>rfl) fun b4 hb4=>?_
 refine Wd (Qc (Cs (Nz 0 ?_)))
 refine Wk 0 (by first | exact Jab (j:=1) rfl rfl tk45 | exact Jac (j:=1) rfl rfl (by rfl) tk45 | exact Jae rfl (by assumption) (by rfl) tk45 | exact Jai (n:=2) (j:=1) rfl rfl rfl rfl tk45) ?_
 refine Wk 1 (Cb rfl rfl Jmp (fun u hu=>Jf6 _ _ u)) ?_
 refine Wd (Qc (Nz 2 ?_))
 refine Wd (Qc (CS.cond rfl ?_ ?_))<;>intro hc1<;>try simp only [bq] at hc1
 ·
  refine Nz 0 ?_
  refine Wk 1 (Db Jc1 zv47) ?_
  refine Wv 1 0 ?_
  exact Wd (Qc (Cr (Qr (outR (Jbr rfl (Jao (j:=0) rfl rfl tk47) rfl) (fun u hu=>Jc7 (Jdr hc1) hu)))))
 have hL:=Jii hc1
 refine Ck (Qc (Cs (Nz 1 ?_)))
 refine Wk 1 (Jav Tryz.underlying9 rfl) ?_
 refine Wd (Qc (CS.cond rfl ?_ ?_))<;>intro hc2<;>try simp only [bq] at hc2
 ·
  have hlong:65536 < (t0.size:Int):=by omega
  refine Nz 0 ?_
  refine Wk 0 (Db Jc1 zv47) ?_
  refine Wv 1 0 ?_
  exact Wd (Qc (Cr (Qr (outR (Jbr rfl (Jao (j:=0) rfl rfl tk47) rfl) (fun u hu=>Jc7 (Jd8 hL hlong) hu)))))
 have hsh:¬ 65536 < (t0.size:Int):=by omega
 refine Ck (Qc (Nz 1 ?_))
 refine Wc rfl rfl Jod (fun u hu=>Jmi t0 u (hM.st hu) (hW.st hu) (by omega)) (fun _=>rfl) ?_; rintro ⟨cs,gv⟩ ⟨hx1,hx2,hx3⟩
 dsimp only at hx1 hx2 hx3
 refine Wz 3 ?_
 refine Wl 0 zv47 (fun _=>rfl) (fun _=>rfl) fun b7 hb7=>?_
 refine WS.storeW (j:=0) rfl rfl rfl (by rw [hx1]; rfl) hx2 tk47 hx1 rfl ?_
 refine Wz 1 ?_
 refine Wd (Qc (Cs (Nz 2 ?_)))
 refine Wd (Qc (CS.cond rfl ?_ ?_))<;>intro hc3<;>try simp only [bq] at hc3
 ·
  have hno:Ja2 t0=none:=by simpa using hc3
  refine Nz 0 ?_
  refine Wk 0 (Db Jc1 zv47) ?_
  refine Wv 1 2 ?_
  exact Wd (Qc (Cr (Qr (outR (Jbr rfl (Jao (j:=2) rfl rfl tk47) rfl) (fun u hu=>Jc7 (Jd3 hL hsh hno) hu)))))
 obtain ⟨c,hc⟩:=Option.isSome_iff_exists.1 (show (Ja2 t0).isSome=true by simpa using hc3)
 obtain ⟨hx4,u9,hx5⟩:=hx3 c hc
 subst hx4
 have hgo:=Jm8 hx2
 refine Ck (Qc (Cs (Nz 0 ?_)))
 refine Wk 0 (by first | exact Jab (j:=3) rfl rfl tk45 | exact Jac (j:=3) rfl rfl (by rfl) tk45 | exact Jae rfl (by assumption) (by rfl) tk45 | exact Jai (n:=2) (j:=3) rfl rfl rfl rfl tk45) ?_
 refine Wk 0 (by first | exact Jas rfl (by assumption) (by omega) tk47 | exact Jab (j:=0) rfl rfl tk47 | exact Jac (j:=0) rfl rfl (by rfl) tk47 | exact Jae rfl (by assumption) (by rfl) tk47 | exact Jai (n:=7) (j:=0) rfl rfl rfl rfl tk47) ?_
 refine Wk 1 (Cb rfl rfl Jmt (fun u hu=>Jkx lw ls c gv u hL ((hu.ro (j:=1) rfl:∀ d,Ja2 t0=some d→SlI u gv d.g) c hc))) ?_
 refine Wd (Qc (CS.cond rfl ?_ ?_))<;>intro hc4<;>try simp only [bq] at hc4
 ·
  have hcb:Jar lw ls c=false:=by simpa using hc4
  refine Nz 0 ?_
  refine Wk 0 (Db Jc1 zv47) ?_
  refine Wv 1 2 ?_
  exact Wd (Qc (Cr (Qr (outR (Jbr rfl (Jao (j:=2) rfl rfl tk47) rfl) (fun u hu=>Jc7 (Jek hL hsh hc hcb) hu)))))
 have hcb:Jar lw ls c=true:=by simpa using hc4
 refine Ck (Qc (Nz 0 ?_))
 refine Wk 0 (by first | exact Jas rfl (by assumption) (by omega) tk47 | exact Jab (j:=0) rfl rfl tk47 | exact Jac (j:=0) rfl rfl (by rfl) tk47 | exact Jae rfl (by assumption) (by rfl) tk47 | exact Jai (n:=7) (j:=0) rfl rfl rfl rfl tk47) ?_
 refine WS.storeW (j:=2) rfl rfl rfl rfl hx2 tk47 rfl rfl ?_
 refine Wz 1 ?_
 exact Wd (Qc (Cr (outR (Jbr rfl (Jao (j:=2) rfl rfl tk47) rfl) (fun u hu=>Jk6 (Je9 hL hsh hc hcb) hgo (fun S u hs=>(Star.ro (j:=1) rfl hs:∀ d,Ja2 t0=some d→SlI u gv d.g) c hc) hu))))
theorem Jkl (lw ls:Int) (t0:ByteArray) (w:World) :
  Calls Tryz.prog 15 #[.agg #[.int .i64 lw,.int .i64 ls],.string t0] w (Jjp w (Jbu lw ls t0)):=by
 refine enter Tryz.func15 rfl rfl (Nat.le_of_ble_eq_true rfl) ?_
 refine Nz 0 ?_
 refine Wb 0 rfl rfl (fun _=>rfl) (fun _=>rfl) fun b2 hb2=>?_
 refine Wl 1 zv47 (fun _=>rfl) (fun _=>rfl) fun b4 hb4=>?_
 refine Wd (Qc (Cs (Nz 0 ?_)))
 refine Wk 0 (by first | exact Jab (j:=1) rfl rfl tk45 | exact Jac (j:=1) rfl rfl (by rfl) tk45 | exact Jae rfl (by assumption) (by rfl) tk45 | exact Jai (n:=2) (j:=1) rfl rfl rfl rfl tk45) ?_
 refine Wk 1 (Cb rfl rfl Jn7 (fun u hu=>Jjg _ _ u)) ?_
 refine Wd (Qc (Nz 2 ?_))
 refine Wd (Qc (CS.cond rfl ?_ ?_))<;>intro hc1<;>try simp only [bq] at hc1
 ·
  refine Nz 0 ?_
  refine Wk 1 (Db Jc1 zv47) ?_
  refine Wv 1 0 ?_
  exact Wd (Qc (Cr (Qr (outR (Jbr rfl (Jao (j:=0) rfl rfl tk47) rfl) (fun u hu=>Jc7 (Jdr hc1) hu)))))
 have hL:=Jii hc1
 refine Ck (Qc (Cs (Nz 1 ?_)))
 refine Wk 1 (Jav Tryz.underlying9 rfl) ?_
 refine Wd (Qc (CS.cond rfl ?_ ?_))<;>intro hc2<;>try simp only [bq] at hc2
 ·
  have hlong:65536 < (t0.size:Int):=by omega
  refine Nz 0 ?_
  refine Wk 0 (Db Jc1 zv47) ?_
  refine Wv 1 0 ?_
  exact Wd (Qc (Cr (Qr (outR (Jbr rfl (Jao (j:=0) rfl rfl tk47) rfl) (fun u hu=>Jc7 (Jd8 hL hlong) hu)))))
 have hsh:¬ 65536 < (t0.size:Int):=by omega
 refine Ck (Qc (Nz 1 ?_))
 refine Wc rfl rfl Jn8 (fun u hu=>Jls t0 u (by omega)) (fun _=>rfl) ?_; rintro ⟨cs,gv⟩ ⟨hx1,hx2,hx3⟩
 dsimp only at hx1 hx2 hx3
 refine Wz 3 ?_
 refine Wl 0 zv47 (fun _=>rfl) (fun _=>rfl) fun b7 hb7=>?_
 refine WS.storeW (j:=0) rfl rfl rfl (by rw [hx1]; rfl) hx2 tk47 hx1 rfl ?_
 refine Wz 1 ?_
 refine Wd (Qc (Cs (Nz 2 ?_)))
 refine Wd (Qc (CS.cond rfl ?_ ?_))<;>intro hc3<;>try simp only [bq] at hc3
 ·
  have hno:Ja2 t0=none:=by simpa using hc3
  refine Nz 0 ?_
  refine Wk 0 (Db Jc1 zv47) ?_
  refine Wv 1 2 ?_
  exact Wd (Qc (Cr (Qr (outR (Jbr rfl (Jao (j:=2) rfl rfl tk47) rfl) (fun u hu=>Jc7 (Jd3 hL hsh hno) hu)))))
 obtain ⟨c,hc⟩:=Option.isSome_iff_exists.1 (show (Ja2 t0).isSome=true by simpa using hc3)
 obtain ⟨hx4,u9,hx5⟩:=hx3 c hc
 subst hx4
 have hgo:=Jm8 hx2
 refine Ck (Qc (Cs (Nz 0 ?_)))
 refine Wk 0 (by first | exact Jab (j:=3) rfl rfl tk45 | exact Jac (j:=3) rfl rfl (by rfl) tk45 | exact Jae rfl (by assumption) (by rfl) tk45 | exact Jai (n:=2) (j:=3) rfl rfl rfl rfl tk45) ?_
 refine Wk 0 (by first | exact Jas rfl (by assumption) (by omega) tk47 | exact Jab (j:=0) rfl rfl tk47 | exact Jac (j:=0) rfl rfl (by rfl) tk47 | exact Jae rfl (by assumption) (by rfl) tk47 | exact Jai (n:=7) (j:=0) rfl rfl rfl rfl tk47) ?_
 refine Wk 1 (Cb rfl rfl Jog (fun u hu=>Jka lw ls c gv u hL ((hu.ro (j:=1) rfl:∀ d,Ja2 t0=some d→SlI u gv d.g) c hc))) ?_
 refine Wd (Qc (CS.cond rfl ?_ ?_))<;>intro hc4<;>try simp only [bq] at hc4
 ·
  have hcb:Jar lw ls c=false:=by simpa using hc4
  refine Nz 0 ?_
  refine Wk 0 (Db Jc1 zv47) ?_
  refine Wv 1 2 ?_
  exact Wd (Qc (Cr (Qr (outR (Jbr rfl (Jao (j:=2) rfl rfl tk47) rfl) (fun u hu=>Jc7 (Jek hL hsh hc hcb) hu)))))
 have hcb:Jar lw ls c=true:=by simpa using hc4
 refine Ck (Qc (Nz 0 ?_))
 refine Wk 0 (by first | exact Jas rfl (by assumption) (by omega) tk47 | exact Jab (j:=0) rfl rfl tk47 | exact Jac (j:=0) rfl rfl (by rfl) tk47 | exact Jae rfl (by assumption) (by rfl) tk47 | exact Jai (n:=7) (j:=0) rfl rfl rfl rfl tk47) ?_
 refine WS.storeW (j:=2) rfl rfl rfl rfl hx2 tk47 rfl rfl ?_
 refine Wz 1 ?_
 exact Wd (Qc (Cr (outR (Jbr rfl (Jao (j:=2) rfl rfl tk47) rfl) (fun u hu=>Jk6 (Je9 hL hsh hc hcb) hgo (fun S u hs=>(Star.ro (j:=1) rfl hs:∀ d,Ja2 t0=some d→SlI u gv d.g) c hc) hu))))
end Go.Proofs.YtdpbapffdmahnaaGreatDoor
