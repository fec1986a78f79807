/- Merged texts of this proof (walks and plain laws), printed by a program of the prover. -/
import Derived.Test.YtdpbapffdmahnaaGreatDoorZx
import Derived.Test.YtdpbapffdmahnaaGreatDoorZb
import Derived.Test.YtdpbapffdmahnaaGreatDoorZd
set_option maxHeartbeats 8000000
namespace Go.Proofs.YtdpbapffdmahnaaGreatDoor
open Go.RowKit Go.Proofs
set_option maxRecDepth 100000
set_option linter.unusedVariables false
set_option linter.unusedSimpArgs false
def WOk (w:World):Prop:=∀ j,j < 8→w.cell? ⟨0,j,none⟩=some (.string (kindL.getD j ByteArray.empty))
theorem WOk.ext {w u:World} (h:WOk w) (hb:Below w.heap.size w u):WOk u:=fun j hj=>Jbv hb (Nat.le_refl _) (h j hj)
theorem WOk.st {w u:World} {L:List SA} (h:WOk w) (hu:St w.heap.size w L u):WOk u:=h.ext hu.below
theorem Joq (tx:ByteArray) (w:World) (hW:WOk w):Calls Tryz.prog 67 #[.slice (some ⟨0,0,none⟩) 8 8,.string tx] w (RetB w (.int .i64 (Lib.idxOfS kindL tx))):=by
 refine (Tryz.slices_Index_string 0 0 8 8 kindL tx w (by decide) (by decide) (fun j hj=>by rw [Nat.zero_add]; exact hW j hj)).mono ?_
 rintro e w' ⟨rfl,rfl⟩
 exact ⟨rfl,Below.refl _ _⟩
theorem Jm1 (t0:ByteArray) (w:World) (hM:MaxOk w) (hW:WOk w) (ht:(t0.size:Int)≤1000000) :
  Calls Tryz.prog 33 #[.string t0] w (Jni w (Jbq t0)):=by
 have hp:=Jif 32 t0
 have hsz:∀ x∈Jar 32 t0,(x.size:Int)≤1000000:=fun x hx=>by have:=Jjw hx; omega
 refine enter Tryz.func33 rfl rfl (Nat.le_of_ble_eq_true rfl) ?_
 refine Nz 0 ?_
 refine Wl 1 zv47 (fun _=>rfl) (fun _=>rfl) fun b2 hb2=>?_
 refine Wd (Qc (Nz 1 ?_))
 refine Wc rfl rfl Jpe (fun u hu=>Jnr 32 t0 u (hM.st hu) (by omega)) (fun _=>rfl) ?_; rintro v13 ⟨u13,hv13⟩
 have hpw:(1:Int)≤((⟨v13,Jar 32 t0⟩:Sl ByteArray).l.length:Int):=by show (1:Int)≤((Jar 32 t0).length:Int); omega
 refine Wz 1 ?_
 refine Wd (Qc ?_)
 refine CS.cut (σ:=Bool × Sl ByteArray) [14,15,16,17,18,19,20] (fun s=>[(4,s.2.v)]) (fun s=>[blk b2 (Jai ⟨0,0,0,0,0,[],s.1⟩ (.slice none 0 0)) 47,roT cStr s.2]) (fun s=>(s.1=seq (nth (Jar 32 t0) 0) notW∧s.2.l=if s.1 then (Jar 32 t0).tail else Jar 32 t0)∧(∃ u0,SlT cStr u0 s.2)∧∀ x∈s.2.l,(x.size:Int)≤1000000) (fun _ _=>rfl) ?_ ?_
 ·
  refine Nz 1 ?_
  refine Wk 0 (Xc (s:=⟨v13,Jar 32 t0⟩)) ?_
  refine Wk 0 (Vb 0 rfl (s:=⟨v13,Jar 32 t0⟩)) ?_
  refine Wk 0 (Jdv rfl rfl) ?_
  refine Wd (Qc (CS.cond rfl ?_ ?_))<;>intro hc1<;>try simp only [bq] at hc1
  ·
   refine Nz 1 ?_
   refine Ws 0 1 ?_
   refine Wd (Qc (Ny 1 ?_))
   refine Wk 1 (Jel sl22 rfl rfl hv13.sp (by decide) (by omega)) ?_
   refine Wd ?_
   refine QS.weak (fun u hu=>St.roCut (lo:=1) (hi:=(Jar 32 t0).length) hu (by omega) (Nat.le_refl _)) ?_
   refine QS.sel [1,0] rfl ?_
   exact QS.head ((true,(⟨v13,Jar 32 t0⟩:Sl ByteArray).cut 1 1 (Jar 32 t0).length)) rfl rfl ⟨⟨hc1.symm,Jht _⟩,⟨u13,hv13.cut (by omega) (Nat.le_refl _)⟩,fun x hx=>hsz x (List.mem_of_mem_drop (List.mem_of_mem_take hx))⟩
  refine Ck ?_
  refine QS.sel [1,0] rfl ?_
  exact QS.head ((false,⟨v13,Jar 32 t0⟩)) rfl rfl ⟨⟨hc1.symm,rfl⟩,⟨u13,hv13⟩,hsz⟩
 intro a t hs
 obtain ⟨nt,q⟩:=a
 obtain ⟨⟨ha1,ha2⟩,⟨ua,ha3⟩,ha4⟩:=hs
 dsimp only at ha1 ha2 ha3 ha4
 have hR:Jbq t0=Jd1 nt q.l:=Jmc ha1 ha2
 have lq:=ha3.le
 refine Cs (Nz 1 ?_)
 refine Wk 2 (Nc (s:=q)) ?_
 refine Wf 0 rfl rfl (fun hg=>Fm) ?_
 refine Wf 0 rfl rfl (fun hg=>Xc (s:=q)) ?_
 refine Wf 0 rfl rfl (fun hg=>Vb 1 rfl (s:=q)) ?_
 refine Wf 0 rfl rfl (fun hg=>Jdv (eg_ hg rfl) rfl) ?_
 refine Wk 0 Po ?_
 refine Wd (Qc (CS.cond rfl ?_ ?_))<;>intro hc2<;>try simp only [bq] at hc2
 ·
  have hno:Jbq t0=none:=by rw [hR]; exact Jh6 hc2
  refine Nz 0 ?_
  refine Wk 0 (by first | exact Jav rfl (by assumption) (by omega) tk47 | exact Jad (j:=0) rfl rfl tk47 | exact Jaf (j:=0) rfl rfl (by rfl) tk47 | exact Jag rfl (by assumption) (by rfl) tk47 | exact Jal (n:=7) (j:=0) rfl rfl rfl rfl tk47) ?_
  refine Wv 1 0 ?_
  exact Wd (Qc (Cr (Qr (outR (Jc7 rfl (Ja6 (j:=0) rfl rfl tk47) rfl) (fun u hu=>Jep hno rfl (Jbr rfl) hu)))))
 have hq0:0 < q.l.length:=by omega
 have hR2:Jbq t0=Jdr nt (Jaw (nth q.l 0)) q.l.tail:=by rw [hR,Jh7 hq0]
 have hix:=Jkw (t:=nth q.l 0) (by simpa using hc2.2)
 have hkb:=Jhv (nth q.l 0)
 refine Ck (Qc (Cs ?_))
 refine CS.drawnTill 6 (k:=7) mixed rfl rfl ?_
 refine Tk 7 0 [1] rfl (Jm6 Tryz.underlying93 (by obtain ⟨i,_,h,hs,_⟩:=Jbp sl22; exact ⟨i,h,hs⟩) (by decide)) ?_
 refine Tk 7 2 [] rfl (Xc (s:=q)) ?_
 refine Tk 7 3 [] rfl (Vb 1 rfl (s:=q)) ?_
 refine Tk 7 4 [5] rfl (Cb rfl rfl Jo9 (fun u hu=>Joq _ u (hW.st hu))) ?_
 refine To 6 rfl ?_
 refine Ws 0 0 ?_
 refine Wd (Qt ?_)
 refine Te ?_
 refine Qc (Cs (Nz 1 ?_))
 refine Wk 1 (by first | exact Jaa (j:=0) rfl rfl rfl tk3 | exact Jac rfl (by assumption) rfl tk3) ?_
 refine Wd (Qc (CS.cond rfl ?_ ?_))<;>intro hc3<;>try simp only [bq] at hc3
 ·
  have hk0:Jaw (nth q.l 0)=0:=by
   rw [hix] at hc3
   split at hc3
   ·
    assumption
   omega
  have hno:Jbq t0=none:=by rw [hR2,hk0]; rfl
  refine Nz 0 ?_
  refine Wk 0 (by first | exact Jav rfl (by assumption) (by omega) tk47 | exact Jad (j:=0) rfl rfl tk47 | exact Jaf (j:=0) rfl rfl (by rfl) tk47 | exact Jag rfl (by assumption) (by rfl) tk47 | exact Jal (n:=7) (j:=0) rfl rfl rfl rfl tk47) ?_
  refine Wv 1 0 ?_
  exact Wd (Qc (Cr (Qr (outR (Jc7 rfl (Ja6 (j:=0) rfl rfl tk47) rfl) (fun u hu=>Jep hno rfl (Jbr (c:=⟨Lib.idxOfS kindL (nth q.l 0),0,0,0,0,[],nt⟩) (gv:=.slice none 0 0) rfl) hu)))))
 have hk0:¬ Jaw (nth q.l 0)=0:=fun h=>by
  rw [hix,if_pos h] at hc3
  omega
 have hkk:Lib.idxOfS kindL (nth q.l 0)=Jaw (nth q.l 0):=by rw [hix,if_neg hk0]
 refine Ck (Qc ?_)
 refine CS.cut (σ:=Sl ByteArray) [41,42] (fun s=>[(4,s.v)]) (fun s=>[blk b2 (Jai ⟨(Jaw (nth q.l 0)),0,0,0,0,[],nt⟩ (.slice none 0 0)) 47,roT cStr s]) (fun s=>s.l=q.l.tail∧(∃ u0,SlT cStr u0 s)∧∀ x∈s.l,(x.size:Int)≤1000000) (fun _ _=>rfl) ?_ ?_
 ·
  refine Ny 1 ?_
  refine Wk 1 (Jel sl22 rfl rfl ha3.sp (by decide) (by omega)) ?_
  refine Wd ?_
  refine QS.sel [1,0] rfl ?_
  refine QS.weak (fun u hu=>St.roCut (lo:=1) (hi:=q.l.length) hu (by omega) (Nat.le_refl _)) ?_
  refine QS.sel [1,0] rfl ?_
  exact QS.head ((q.cut 1 1 q.l.length)) rfl (by first | (rw [hkk]; done) | (rw [hkk]; rfl)) ⟨Jht _,⟨ua,ha3.cut (by omega) (Nat.le_refl _)⟩,fun x hx=>ha4 x (List.mem_of_mem_drop (List.mem_of_mem_take hx))⟩
 intro d t hs
 obtain ⟨hd1,⟨ud,hd2⟩,hd3⟩:=hs
 have hR3:Jbq t0=Jdr nt (Jaw (nth q.l 0)) d.l:=by rw [hR2,hd1]
 have ld:=hd2.le
 refine CS.cut (σ:=Sl ByteArray × Value × List Int) [3,6,43,44,45,46,47,48,49,50,51,52,53,54,55,56,57,58,59,60,61,62,63,64,65,66,67,68,69,70,71,72,73,74,75,76,77,78,79,80] (fun s=>[(4,s.1.v)]) (fun s=>[blk b2 (Jai ⟨(Jaw (nth q.l 0)),0,0,0,0,[],nt⟩ (s.2.1)) 47,roT cStr s.1,roI s.2.1 s.2.2]) (fun s=>(∀ x∈s.1.l,(x.size:Int)≤1000000)∧(∃ u0,SlT cStr u0 s.1)∧s.2.1.oneCell'=true∧Jbq t0=rdN nt (Jaw (nth q.l 0)) s.1.l s.2.2) (fun _ _=>rfl) ?_ ?_
 ·
  refine Nz 1 ?_
  refine Wk 2 (by first | exact Jaa (j:=0) rfl rfl rfl tk3 | exact Jac rfl (by assumption) rfl tk3) ?_
  refine Wt 0 rfl rfl (fun hg=>Fm) ?_
  refine Wt 0 rfl rfl (fun hg=>Nc (s:=d)) ?_
  refine Wt 0 rfl rfl (fun hg=>Fq) ?_
  refine Wk 0 Pa ?_
  refine Wd (Qc (CS.cond rfl ?_ ?_))<;>intro hc4<;>try simp only [bq] at hc4
  ·
   have hd2s:((nth d.l 2).size:Int)≤1000000:=hd3 _ (Jbc (by decide) (by omega))
   refine Cs (Nz 1 ?_)
   refine Wk 0 (Xc (s:=d)) ?_
   refine Wk 0 (Vb 1 rfl (s:=d)) ?_
   refine Wk 1 (Cb rfl rfl Jnx (fun u hu=>Jh1 _ _ u (by omega))) ?_
   refine Wd (Qc (CS.cond rfl ?_ ?_))<;>intro hc5<;>try simp only [bq] at hc5
   ·
    have hno:Jbq t0=none:=by
     rw [hR3]
     exact Jer hc4.1 (fun h=>by rw [h.2] at hc5; simp at hc5)
    refine Nz 0 ?_
    refine Wk 0 (by first | exact Jav rfl (by assumption) (by omega) tk47 | exact Jad (j:=0) rfl rfl tk47 | exact Jaf (j:=0) rfl rfl (by rfl) tk47 | exact Jag rfl (by assumption) (by rfl) tk47 | exact Jal (n:=7) (j:=0) rfl rfl rfl rfl tk47) ?_
    refine Wv 1 0 ?_
    exact Wd (Qc (Cr (Qr (Qr (outR (Jc7 rfl (Ja6 (j:=0) rfl rfl tk47) rfl) (fun u hu=>Jep hno rfl (Jbr rfl) hu))))))
   have hdg:Jas (nth d.l 2) 4=true:=by simpa using hc5
   have hbl:=Jcs (nth d.l 2)
   refine Ck (Qc (Cs (Nz 1 ?_)))
   refine Wk 0 (Xc (s:=d)) ?_
   refine Wk 0 (Vb 1 rfl (s:=d)) ?_
   refine WS.bytes Tryz.underlying9 Tryz.underlying113 Tryz.underlying5 rfl (by unfold maxLen; omega) (fun _=>rfl) ?_; rintro v60 ⟨u60,hv60⟩
   refine Wk 1 (Nc (s:=⟨v60,byts (nth d.l 2)⟩)) ?_
   refine Wd (Qc (Ce ?_))
   refine CS.weak (fun _ hu=>hu.osl0 (e:=3) (size:=1)) ?_
   refine CS.sel [0,1,0,0] rfl ?_
   refine CS.loopM (σ:=Int × Value) [6,63,64,65,66,67,68,69,70,71,72,73,74] (fun s=>[(62,.int .i64 s.1)]) (fun s=>[oints 3 s.2 ((Jbt (nth d.l 2)).take s.1.toNat),blk b2 (Jai ⟨(Jaw (nth q.l 0)),0,0,0,0,[],nt⟩ (s.2)) 47,roT cU8 ⟨v60,byts (nth d.l 2)⟩,roT cStr d]) (fun s=>0≤s.1∧s.1≤(nth d.l 2).size∧s.2.oneCell'=true) (fun s=>((nth d.l 2).size - s.1).toNat) (0,.slice none 0 0) (fun _ _=>rfl) rfl rfl ⟨by simp,by simp,rfl⟩ ?_
   intro i t hs
   obtain ⟨hi1,hi2,hi4⟩:=hs
   refine Nz 1 ?_
   refine Wd (Qc (Cs (CS.cond rfl ?_ ?_)))<;>intro hc6<;>try simp only [bq] at hc6
   ·
    have hi3:i.1 < ((nth d.l 2).size:Int):=by omega
    have hbn:=Jhx hi1 hi3
    have hdi:=Jn2 (Jnh hdg) hi1 hi3
    refine Ck (Qc (Cs (Ce (Nz 0 ?_))))
    refine Wk 0 (Xc (s:=⟨v60,byts (nth d.l 2)⟩)) ?_
    refine Wk 1 (Vb 2 rfl (K:=cU8) (s:=⟨v60,byts (nth d.l 2)⟩) (v:=.int .u8 (byt (nth d.l 2) i.1)) (h:=⟨hi1,by show i.1 < ((byts (nth d.l 2)).length:Int); omega⟩) (hc:=by rw [← hbn]; rfl)) ?_
    refine Wd (Qc (Ny 1 ?_))
    refine Wk 1 (by first | exact Jaa (j:=1) rfl rfl rfl tk32 | exact Jac rfl (by assumption) rfl tk32) ?_
    refine Wk 0 (Jjd rfl rfl (by omega)) ?_
    refine Wk 0 (Jig Tryz.underlying5 Tryz.underlying3 rfl (by omega)) ?_
    refine WS.buildI1 sl32 zv3 rfl (fun _=>rfl) ?_; intro v71
    refine WS.appendI (j:=1) sl32 zv3 rfl rfl rfl (fun u hu=>Jfd hu (j:=0) rfl) (by simp only [List.length_take,Jc2,List.length_singleton]; omega) (by simp only [List.length_take,Jc2,List.length_singleton]; omega) (fun _=>rfl) (fun _=>rfl) ?_; intro v72; refine WS.oc (j:=1) rfl (fun hv72=>?_)
    refine Wz 1 ?_
    refine Ws 0 2 ?_
    refine Wd (Qb (Qc (Ny 0 ?_)))
    refine Wk 1 Za ?_
    refine Wd ?_
    refine QS.sel [1,1,1,1] rfl ?_
    exact QS.head ((i.1+1,v72)) rfl (by first | (rw [show (i.1+1,v72).1=i.1+1 from rfl,Jdp hi1 hi3]; done) | (rw [show (i.1+1,v72).1=i.1+1 from rfl,Jdp hi1 hi3]; rfl)) ⟨⟨by simp; omega,by simp; omega,hv72⟩,by simp; omega⟩
   refine Cv (Qe (Qe (Qx (Qc (Ny 1 ?_)))))
   refine Wk 1 (Jj4 sl22 rfl rfl hd2.sp (by decide) (by omega)) ?_
   refine Wd ?_
   refine QS.sel [0,2,0] rfl ?_
   refine QS.weak (fun u hu=>hu.toRoI) ?_
   refine QS.sel [1,0,0] rfl ?_
   refine QS.weak (fun u hu=>St.roCut (lo:=0) (hi:=2) hu (by omega) (by omega)) ?_
   refine QS.sel [2,0,0] rfl ?_
   exact QS.head ((d.cut 1 0 2,i.2,(Jbt (nth d.l 2)).take i.1.toNat)) rfl rfl ⟨fun x hx=>hd3 x (List.mem_of_mem_drop (List.mem_of_mem_take hx)),⟨ud,hd2.cut (by omega) (by omega)⟩,hi4,by
      rw [hR3,Jfv hc4.1 (by omega) hdg,show (Jbt (nth d.l 2)).take i.1.toNat=Jbt (nth d.l 2) from List.take_of_length_le (by rw [Jc2]; omega)]; rfl⟩
  refine Nz 1 ?_
  refine Wk 1 (by first | exact Jaa (j:=0) rfl rfl rfl tk3 | exact Jac rfl (by assumption) rfl tk3) ?_
  refine Wd (Qc (CS.cond rfl ?_ ?_))<;>intro hc7<;>try simp only [bq] at hc7
  ·
   have hno:Jbq t0=none:=by
    rw [hR3]
    exact Jer hc7 (fun h=>by omega)
   refine Nz 0 ?_
   refine Wk 0 (by first | exact Jav rfl (by assumption) (by omega) tk47 | exact Jad (j:=0) rfl rfl tk47 | exact Jaf (j:=0) rfl rfl (by rfl) tk47 | exact Jag rfl (by assumption) (by rfl) tk47 | exact Jal (n:=7) (j:=0) rfl rfl rfl rfl tk47) ?_
   refine Wv 1 0 ?_
   exact Wd (Qc (Cr (Qr (outR (Jc7 rfl (Ja6 (j:=0) rfl rfl tk47) rfl) (fun u hu=>Jep hno rfl (Jbr rfl) hu)))))
  refine Ck ?_
  refine QS.weak (fun u hu=>hu.nilRoI) ?_
  refine QS.sel [1,1,0] rfl ?_
  exact QS.head ((d,.slice none 0 0,[])) rfl rfl ⟨hd3,⟨ud,hd2⟩,rfl,by rw [hR3,Jdt hk0 hc7]⟩
 intro e t hs
 obtain ⟨r,gv,g⟩:=e
 obtain ⟨he1,⟨ue,he2⟩,he3,he4⟩:=hs
 dsimp only at he1 he2 he3 he4
 have lr:=he2.le
 have hol:=Jdg (Jaw (nth q.l 0))
 refine Nz 0 ?_
 refine Wc rfl rfl Jox (fun u hu=>Jhl b2 (Jaw (nth q.l 0)) u (by rw [Jbk (hu.blk (j:=0) rfl).2]; rfl)) (fun _=>rfl) ?_; intro v81 hv81
 refine Wz 1 ?_
 refine Wd (Qc (Cs (Nz 1 ?_)))
 refine Wk 1 (Nc (s:=r)) ?_
 refine Wk 1 (Jcm sl94 rfl (j:=0) rfl) ?_
 refine Wd (Qc (CS.cond rfl ?_ ?_))<;>intro hc8<;>try simp only [bq] at hc8
 ·
  have hno:Jbq t0=none:=by
   rw [he4]
   exact Jm8 (by omega)
  refine Nz 0 ?_
  refine Wk 0 (by first | exact Jav rfl (by assumption) (by omega) tk47 | exact Jad (j:=1) rfl rfl tk47 | exact Jaf (j:=1) rfl rfl (by rfl) tk47 | exact Jag rfl (by assumption) (by rfl) tk47 | exact Jal (n:=7) (j:=1) rfl rfl rfl rfl tk47) ?_
  refine Wv 1 1 ?_
  exact Wd (Qc (Cr (Qr (outR (Jc7 rfl (Ja6 (j:=1) rfl rfl tk47) rfl) (fun u hu=>Jep hno rfl (Jbr he3) hu)))))
 have hln:r.l.length=(offK (Jaw (nth q.l 0))).length:=by omega
 refine Ck (Qc (Cs (Nz 1 ?_)))
 refine Wk 1 (Nc (s:=r)) ?_
 refine Wd (Qc (Ce ?_))
 refine CS.sel [1,1,1,0] rfl ?_
 refine CS.loopM (σ:=Int × List Int) [3,8,9,10,11,91,92,93,94,95,96,97,98,99,100,101,102,103,104,105,106,107,108,109] (fun s=>[(90,.int .i64 s.1)]) (fun s=>[blk b2 (setC (Jai ⟨(Jaw (nth q.l 0)),0,0,0,0,[],nt⟩ gv) (offK (Jaw (nth q.l 0))) s.2) 47,roT cStr r,roI gv g,osl 97 1 v81 (offK (Jaw (nth q.l 0))).length (ptrL b2 (offK (Jaw (nth q.l 0))))]) (fun s=>0≤s.1∧s.1≤r.l.length∧(s.2.length:Int)=s.1∧Jb4 3 (r.l.take s.1.toNat)=some s.2) (fun s=>(r.l.length - s.1).toNat) (0,[]) (fun _ _=>rfl) rfl (by rw [Jle]) ⟨by simp,by simp,rfl,rfl⟩ ?_
 intro p t hs
 obtain ⟨hp1,hp2,hp3,hp4⟩:=hs
 refine Nz 1 ?_
 refine Wd (Qc (Cs (CS.cond rfl ?_ ?_)))<;>intro hc9<;>try simp only [bq] at hc9
 ·
  have hps:((nth r.l p.1).size:Int)≤1000000:=he1 _ (Jbc hp1 (by omega))
  obtain ⟨o,ho⟩:∃ o,(offK (Jaw (nth q.l 0)))[p.1.toNat]? = some o:=⟨_,List.getElem?_eq_getElem (by omega)⟩
  have ho2:o < 7:=Jjz _ o (List.mem_of_getElem? ho)
  have hpa:(ptrL b2 (offK (Jaw (nth q.l 0))))[p.1.toNat * 1]? = some (.pointer (some ⟨b2,o,none⟩)):=by rw [Nat.mul_one]; exact Jlr ho
  refine Ck (Qc (Cs (Ce (Nz 1 ?_))))
  refine Wk 0 (Xc (s:=r)) ?_
  refine Wk 2 (Vb 1 rfl (s:=r)) ?_
  refine Wd (Qc (Nz 1 ?_))
  refine Wk 5 (Cb rfl rfl Jpj (fun u hu=>Jky _ u (by omega))) ?_
  refine Wd (Qc (Cs (Nz 2 ?_)))
  refine Wd (Qc (CS.cond rfl ?_ ?_))<;>intro hc10<;>try simp only [bq] at hc10
  ·
   have hno:Jbq t0=none:=by
    rw [he4]
    refine Jmd (Jbc hp1 (show p.1 < r.l.length by omega)) ?_
    cases hb:numB 3 (nth r.l p.1) with
    | none=>rfl
    | some n=>rw [hb] at hc10; simp at hc10
   refine Nz 0 ?_
   refine Wk 0 (Jad (j:=0) rfl rfl (by rw [Jbm]; exact tk47)) ?_
   refine WS.storeW (j:=0) rfl rfl rfl rfl (Jdc _ _ _ (Jbr he3)) tk47 (by rw [Jbm]; rfl) rfl ?_
   refine Wz 1 ?_
   exact Wd (Qc (Cr (Qr (Qs (Qr (Qr (Qs (Qr (outR (Jc7 rfl (Ja6 (j:=0) rfl rfl (by rw [Jbm]; exact tk47)) rfl) (fun u hu=>Jep hno (by rw [Jbm]; rfl) (Jdc _ _ _ (Jbr he3)) hu))))))))))
  obtain ⟨n,hb⟩:∃ n,numB 3 (nth r.l p.1)=some n:=by
   cases hb:numB 3 (nth r.l p.1) with
   | none=>rw [hb] at hc10; simp at hc10
   | some n=>exact ⟨n,rfl⟩
  refine Ck (Qc (Ny 2 ?_))
  refine Wk 0 (Jco (j:=3) sl94 rfl rfl rfl (by omega) (by omega)) ?_
  refine Wk 2 (Jg3 (j:=3) rfl rfl hpa tk97) ?_
  refine WS.store (j:=0) rfl rfl (by rw [Jbm]; exact ho2) rfl rfl tk3 (Jch _ _ _) rfl ?_
  refine Wd (Qb (Qc (Ny 0 ?_)))
  refine Wk 1 Za ?_
  exact Wd (QS.head ((p.1+1,p.2++[n])) rfl (by first | (rw [← Jdu (by rw [show p.2.length=p.1.toNat by omega]; exact ho),hb]; done) | (rw [← Jdu (by rw [show p.2.length=p.1.toNat by omega]; exact ho),hb]; rfl)) ⟨⟨by simp; omega,by simp; omega,by simp; omega,by show Jb4 3 (r.l.take (p.1+1).toNat)=_; rw [Jaq r.l hp1 (by omega)]; exact Jed hp4 hb⟩,by simp; omega⟩)
 have htk:r.l.take p.1.toNat=r.l:=List.take_of_length_le (by omega)
 rw [htk] at hp4
 have hyes:=he4.trans (Jg1 hln hp4)
 have hfull:setC (Jai ⟨(Jaw (nth q.l 0)),0,0,0,0,[],nt⟩ gv) (offK (Jaw (nth q.l 0))) p.2=Jai (setF (Jaw (nth q.l 0)) p.2 g nt) gv:=Ji2 (g:=g) (by rw [Jfz hp4,hln])
 refine Cv (Qe (Qe (Qx (Qc (Nz 0 ?_)))))
 refine Wk 0 (Jad (j:=0) rfl rfl (by rw [Jbm]; exact tk47)) ?_
 refine WS.storeW (j:=0) rfl rfl rfl rfl (Jdc _ _ _ (Jbr he3)) tk47 (by rw [Jbm]; rfl) rfl ?_
 refine Wz 1 ?_
 refine Wd (Qc (Cr ?_))
 exact outR (Jc7 rfl (Ja6 (j:=0) rfl rfl (by rw [Jbm]; exact tk47)) rfl) (fun u hu=>by
   rw [hfull]
   exact Job hyes he3 (j:=2) (by rw [Jnz]; rfl) hu)
theorem Jkc (lw ls:Int) (t0:ByteArray) (w:World) (hM:MaxOk w) (hW:WOk w) :
  Calls Tryz.prog 14 #[.agg #[.int .i64 lw,.int .i64 ls],.string t0] w (Jno w (Jb2 lw ls t0)):=by
 refine enter Tryz.func14 rfl rfl (Nat.le_of_ble_eq_true rfl) ?_
 refine Nz 0 ?_
 refine Wb 0 rfl rfl (fun _=>rfl) (fun _=>rfl) fun b2 hb2=>?_
 refine Wl 1 zv47 (fun _=>rfl) (fun _=>rfl) fun b4 hb4=>?_
 refine Wd (Qc (Cs (Nz 0 ?_)))
 refine Wk 0 (by first | exact Jad (j:=1) rfl rfl tk45 | exact Jaf (j:=1) rfl rfl (by rfl) tk45 | exact Jag rfl (by assumption) (by rfl) tk45 | exact Jal (n:=2) (j:=1) rfl rfl rfl rfl tk45) ?_
 refine Wk 1 (Cb rfl rfl Jkr (fun u hu=>Jfa _ _ u)) ?_
 refine Wd (Qc (Nz 2 ?_))
 refine Wd (Qc (CS.cond rfl ?_ ?_))<;>intro hc1<;>try simp only [bq] at hc1
 ·
  refine Nz 0 ?_
  refine Wk 1 (Db Jfy zv47) ?_
  refine Wv 1 0 ?_
  exact Wd (Qc (Cr (Qr (outR (Jc7 rfl (Ja6 (j:=0) rfl rfl tk47) rfl) (fun u hu=>Jhi (Jgt hc1) hu)))))
 have hL:=Jl5 hc1
 refine Ck (Qc (Cs (Nz 1 ?_)))
 refine Wk 1 (Jem Tryz.underlying9 rfl) ?_
 refine Wd (Qc (CS.cond rfl ?_ ?_))<;>intro hc2<;>try simp only [bq] at hc2
 ·
  have hlong:65536 < (t0.size:Int):=by omega
  refine Nz 0 ?_
  refine Wk 0 (Db Jfy zv47) ?_
  refine Wv 1 0 ?_
  exact Wd (Qc (Cr (Qr (outR (Jc7 rfl (Ja6 (j:=0) rfl rfl tk47) rfl) (fun u hu=>Jhi (Jgi hL hlong) hu)))))
 have hsh:¬ 65536 < (t0.size:Int):=by omega
 refine Ck (Qc (Nz 1 ?_))
 refine Wc rfl rfl Jo5 (fun u hu=>Jm1 t0 u (hM.st hu) (hW.st hu) (by omega)) (fun _=>rfl) ?_; rintro ⟨cs,gv⟩ ⟨hx1,hx2,hx3⟩
 dsimp only at hx1 hx2 hx3
 refine Wz 3 ?_
 refine Wl 0 zv47 (fun _=>rfl) (fun _=>rfl) fun b7 hb7=>?_
 refine WS.storeW (j:=0) rfl rfl rfl (by rw [hx1]; rfl) hx2 tk47 hx1 rfl ?_
 refine Wz 1 ?_
 refine Wd (Qc (Cs (Nz 2 ?_)))
 refine Wd (Qc (CS.cond rfl ?_ ?_))<;>intro hc3<;>try simp only [bq] at hc3
 ·
  have hno:Jbq t0=none:=by simpa using hc3
  refine Nz 0 ?_
  refine Wk 0 (Db Jfy zv47) ?_
  refine Wv 1 2 ?_
  exact Wd (Qc (Cr (Qr (outR (Jc7 rfl (Ja6 (j:=2) rfl rfl tk47) rfl) (fun u hu=>Jhi (Jf8 hL hsh hno) hu)))))
 obtain ⟨c,hc⟩:=Option.isSome_iff_exists.1 (show (Jbq t0).isSome=true by simpa using hc3)
 obtain ⟨hx4,u9,hx5⟩:=hx3 c hc
 subst hx4
 have hgo:=Jpa hx2
 refine Ck (Qc (Cs (Nz 0 ?_)))
 refine Wk 0 (by first | exact Jad (j:=3) rfl rfl tk45 | exact Jaf (j:=3) rfl rfl (by rfl) tk45 | exact Jag rfl (by assumption) (by rfl) tk45 | exact Jal (n:=2) (j:=3) rfl rfl rfl rfl tk45) ?_
 refine Wk 0 (by first | exact Jav rfl (by assumption) (by omega) tk47 | exact Jad (j:=0) rfl rfl tk47 | exact Jaf (j:=0) rfl rfl (by rfl) tk47 | exact Jag rfl (by assumption) (by rfl) tk47 | exact Jal (n:=7) (j:=0) rfl rfl rfl rfl tk47) ?_
 refine Wk 1 (Cb rfl rfl Jmx (fun u hu=>Jjt lw ls c gv u hL ((hu.ro (j:=1) rfl:∀ d,Jbq t0=some d→SlI u gv d.g) c hc))) ?_
 refine Wd (Qc (CS.cond rfl ?_ ?_))<;>intro hc4<;>try simp only [bq] at hc4
 ·
  have hcb:Jao lw ls c=false:=by simpa using hc4
  refine Nz 0 ?_
  refine Wk 0 (Db Jfy zv47) ?_
  refine Wv 1 2 ?_
  exact Wd (Qc (Cr (Qr (outR (Jc7 rfl (Ja6 (j:=2) rfl rfl tk47) rfl) (fun u hu=>Jhi (Jh8 hL hsh hc hcb) hu)))))
 have hcb:Jao lw ls c=true:=by simpa using hc4
 refine Ck (Qc (Nz 0 ?_))
 refine Wk 0 (by first | exact Jav rfl (by assumption) (by omega) tk47 | exact Jad (j:=0) rfl rfl tk47 | exact Jaf (j:=0) rfl rfl (by rfl) tk47 | exact Jag rfl (by assumption) (by rfl) tk47 | exact Jal (n:=7) (j:=0) rfl rfl rfl rfl tk47) ?_
 refine WS.storeW (j:=2) rfl rfl rfl rfl hx2 tk47 rfl rfl ?_
 refine Wz 1 ?_
 exact Wd (Qc (Cr (outR (Jc7 rfl (Ja6 (j:=2) rfl rfl tk47) rfl) (fun u hu=>Jo2 (Jfn hL hsh hc hcb) hgo (fun S u hs=>(Star.ro (j:=1) rfl hs:∀ d,Jbq t0=some d→SlI u gv d.g) c hc) hu))))
theorem Joc (m:Nat):∀ (n:Int) (w:World),n.toNat≤m→0≤n∧n≤1000000 →
  Calls Tryz.prog 44 #[.int .i64 n] w (RetB w (.string (digB n))):=by
 refine Nat.strongRecOn (motive:=fun m=>∀ (n:Int) (w:World),n.toNat≤m→0≤n∧n≤1000000→Calls Tryz.prog 44 #[.int .i64 n] w (RetB w (.string (digB n)))) m ?_
 intro m ih n w hm h
 have hs1:=Jdi (n / 10)
 have hs2:=Jdi (n % 10)
 refine enter Tryz.func44 rfl rfl (Nat.le_of_ble_eq_true rfl) ?_
 refine Nz 1 ?_
 refine Wd (Qc (Nz 1 ?_))
 refine Wk 1 (Jgo rfl rfl (by omega) (by omega)) ?_
 refine Wk 0 (Jgo rfl rfl (by omega) (by omega)) ?_
 refine Wk 0 Za ?_
 refine Wk 1 (Jit Tryz.underlying9 rfl rfl rfl (by show _∧_∧_≤((10:Nat):Int); omega)) ?_
 refine Wd (Qc (Cs (Nz 2 ?_)))
 refine Wd (Qc (CS.cond rfl ?_ ?_))<;>intro hc1<;>try simp only [bq] at hc1
 ·
  refine Nz 2 ?_
  exact Wd (Qc (Cr (Qr (out1 rfl rfl (Jan (by rw [Jg7 (by omega),show n % 10=n by omega]))))))
 refine Ck (Qc (Nz 1 ?_))
 refine Wk 0 (Jmm rfl rfl (by omega) (by omega) (by omega)) ?_
 refine Wk 1 (Cb rfl rfl Jl6 (fun u hu=>ih (n / 10).toNat (by omega) (n / 10) u (Nat.le_refl _) (by omega))) ?_
 refine Wk 1 (Jby rfl rfl (by rw [Jg7 (by omega)]; omega)) ?_
 exact Wd (Qc (Cr (out1 rfl rfl (Jan (by rw [Jg7 (by omega), ← Jjn (by omega)])))))
theorem Jjp (lw ls:Int) (c:Clue) (gv:Value) (w:World) (h1:SlI w gv c.g) :
  Calls Tryz.prog 18 #[.agg #[.int .i64 lw,.int .i64 ls],.agg #[.int .i64 c.k,.int .i64 c.a,.int .i64 c.b,.int .i64 c.n,.int .i64 c.m,gv,.bool c.nt]] w (RetB w (.tuple #[.string (Jbg lw ls c).2,.int .i64 (Jbg lw ls c).1])):=by
 have hgo:gv.oneCell'=true:=by
  obtain ⟨p,cap,e⟩:=SlI.shape h1
  rw [e]; rfl
 refine enter Tryz.func18 rfl rfl (Nat.le_of_ble_eq_true rfl) ?_
 refine Nz 0 ?_
 refine Wb 0 rfl rfl (fun _=>rfl) (fun _=>rfl) fun b2 hb2=>?_
 refine Wb 2 rfl rfl (fun _=>rfl) (fun _=>rfl) fun b3 hb3=>?_
 refine Wd (Qc (Cs (Nz 0 ?_)))
 refine Wk 0 (by first | exact Jad (j:=1) rfl rfl tk45 | exact Jaf (j:=1) rfl rfl (by rfl) tk45 | exact Jag rfl (by assumption) (by rfl) tk45 | exact Jal (n:=2) (j:=1) rfl rfl rfl rfl tk45) ?_
 refine Wk 0 (by first | exact Jav rfl (by assumption) (by omega) tk47 | exact Jad (j:=0) rfl rfl tk47 | exact Jaf (j:=0) rfl rfl (by rfl) tk47 | exact Jag rfl (by assumption) (by rfl) tk47 | exact Jal (n:=7) (j:=0) rfl rfl rfl rfl tk47) ?_
 refine Wk 1 (Cb rfl rfl Jps (fun u hu=>Jfe lw ls c gv u (h1.st hu))) ?_
 refine Wd (Qc (Nz 2 ?_))
 refine Wd (Qc (CS.cond rfl ?_ ?_))<;>intro hc1<;>try simp only [bq] at hc1
 ·
  have hE:¬ Jb3 lw ls c=0:=hc1
  refine Nz 3 ?_
  exact Wd (Qc (Cr (Qr (out2 rfl rfl rfl (Jan (by unfold Jbg; rw [if_neg hE]))))))
 have hc1:Jb3 lw ls c=0:=hc1
 have hf:=Jgf (Jdx hc1).1 (Jdx hc1).2
 have hk1:=hf.k
 have hwn:=Jd7 hk1.1 hk1.2
 have hol:=Jdg c.k
 have hfl:=Jbh c
 have hgl:=hf.gl
 have sp4:(⟨#[110,111,116,32]⟩:ByteArray).size=4:=rfl
 have sp32:(⟨#[32]⟩:ByteArray).size=1:=rfl
 have sp0:(⟨#[]⟩:ByteArray).size=0:=rfl
 refine Ck (Qc (Cs ?_))
 refine CS.drawnAll (k:=6) mixed rfl rfl ?_
 refine Ar [1] ?_
 refine Ak 2 [] rfl (by first | exact Jaa (j:=0) rfl rfl rfl tk3 | exact Jac rfl (by assumption) rfl tk3) ?_
 refine Ao 0 rfl ?_
 refine Wc rfl rfl Jp1 (fun u hu=>Jmh u) (fun _=>rfl) ?_; rintro v17 ⟨u17,hv17⟩
 have e8:((⟨v17,kindL⟩:Sl ByteArray).l.length:Int)=8:=rfl
 refine Wd (Qa ?_)
 refine Ak 3 [] rfl (Xc (s:=⟨v17,kindL⟩)) ?_
 refine Ao 4 rfl ?_
 refine Wk 0 (Vb 0 rfl (s:=⟨v17,kindL⟩)) ?_
 refine Wd (Qa ?_)
 refine Ar [5] ?_
 refine Ae ?_
 refine Qc ?_
 refine CS.cut (σ:=ByteArray) [22,23,24,25] (fun s=>[(7,.string s)]) (fun s=>[blk b3 (Jai c gv) 47,blk b2 [.int .i64 lw,.int .i64 ls] 45]) (fun s=>s=jnB (preW c)∧s.size≤10) (fun _ _=>rfl) ?_ ?_
 ·
  refine Nz 1 ?_
  refine Wk 0 (by first | exact Jaa (j:=1) rfl rfl rfl tk4 | exact Jac rfl (by assumption) rfl tk4) ?_
  refine Wd (Qc (CS.cond rfl ?_ ?_))<;>intro hc2<;>try simp only [bq] at hc2
  ·
   refine Ny 1 ?_
   refine Wk 1 (Jby rfl rfl (by (try simp only [ByteArray.size_append]); omega)) ?_
   refine Wd ?_
   refine QS.sel [1,1] rfl ?_
   exact QS.head (((⟨#[110,111,116,32]⟩:ByteArray)++nth kindL c.k)) rfl rfl ⟨by unfold preW; rw [if_pos hc2]; exact (Jkb _).symm,by rw [ByteArray.size_append]; omega⟩
  refine Ck ?_
  refine QS.sel [1,1] rfl ?_
  exact QS.head ((nth kindL c.k)) rfl rfl ⟨by unfold preW; rw [if_neg (by rw [hc2]; decide)]; exact (Jl1 _).symm,by omega⟩
 intro q t hs
 obtain ⟨hq1,hq2⟩:=hs
 refine Nz 0 ?_
 refine Wk 0 (by first | exact Jav rfl (by assumption) (by omega) tk47 | exact Jad (j:=0) rfl rfl tk47 | exact Jaf (j:=0) rfl rfl (by rfl) tk47 | exact Jag rfl (by assumption) (by rfl) tk47 | exact Jal (n:=7) (j:=0) rfl rfl rfl rfl tk47) ?_
 refine Wc rfl rfl Jpf (fun u hu=>Jjr c gv u hgo) (fun _=>rfl) ?_; intro v27 hv27
 refine Wz 1 ?_
 refine Wd (Qc (Cs (Nz 1 ?_)))
 refine Wd (Qc (Ce ?_))
 refine CS.loopM (σ:=Int × ByteArray) [28,29,30,31,32,33,34,35,36,37,38,39,40,41] (fun s=>[(9,.int .i64 s.1),(7,.string s.2)]) (fun _=>_) (fun s=>0≤s.1∧s.1≤(Jam c).length∧s.2=jnB (preW c++((Jam c).take s.1.toNat).map digB)∧(s.2.size:Int)≤10+200 * s.1) (fun s=>((Jam c).length - s.1).toNat) (0,q) (fun _ _=>rfl) rfl rfl ⟨by simp,by simp,by rw [hq1]; simp,by show (q.size:Int)≤10+200 * 0; omega⟩ ?_
 intro a t hs
 obtain ⟨ha1,ha2,ha3,ha4⟩:=hs
 refine Cs (Nz 2 ?_)
 refine Wk 1 (Nb 0) ?_
 refine Wd (Qc (CS.cond rfl ?_ ?_))<;>intro hc3<;>try simp only [bq] at hc3
 ·
  have hfb:=hf.f _ (Jbc (xs:=Jam c) ha1 (by omega))
  have hfz:=Jdi (nth (Jam c) a.1)
  refine Ck (Qc (Cs (Ce (Ny 3 ?_))))
  refine Wk 0 (Xb 0) ?_
  refine Wk 0 (Jhm (j:=0) rfl rfl ⟨by omega,by omega⟩ tk3) ?_
  refine Wk 0 (Cb rfl rfl Jl6 (fun u hu=>Joc _ _ u (Nat.le_refl _) (by omega))) ?_
  refine Wk 0 (Jby rfl rfl (by (try simp only [ByteArray.size_append]); omega)) ?_
  refine Wk 1 (Jby rfl rfl (by (try simp only [ByteArray.size_append]); omega)) ?_
  refine Wd (Qb (Qc (Ny 1 ?_)))
  refine Wk 1 Za ?_
  refine Wd ?_
  exact QS.head ((a.1+1,a.2++((⟨#[32]⟩:ByteArray)++digB (nth (Jam c) a.1)))) rfl rfl ⟨⟨by simp; omega,by simp; omega,by
     show _=jnB (preW c++((Jam c).take (a.1+1).toNat).map digB)
     rw [Jaq (Jam c) ha1 (by omega),List.map_append,List.map_singleton, ← List.append_assoc,Jgy (Jly c _),ha3,ByteArray.append_assoc],by simp only [ByteArray.size_append]; omega⟩,by simp; omega⟩
 have hta:(Jam c).take a.1.toNat=Jam c:=List.take_of_length_le (by omega)
 refine Cv (Qe (Qe (Qx (Qc ?_))))
 refine CS.cut (σ:=ByteArray) [10,42,43,44,45,46,47,48,49,50,51,52,53,54,55,56,57,58,59,60,61] (fun s=>[(7,.string s)]) (fun s=>[blk b3 (Jai c gv) 47,blk b2 [.int .i64 lw,.int .i64 ls] 45]) (fun s=>s=jnB (fmtW c)) (fun _ _=>rfl) ?_ ?_
 ·
  refine Nz 1 ?_
  refine Wk 1 (by first | exact Jaa (j:=1) rfl rfl rfl tk3 | exact Jac rfl (by assumption) rfl tk3) ?_
  refine Wd (Qc (CS.cond rfl ?_ ?_))<;>intro hc4<;>try simp only [bq] at hc4
  ·
   have hc4:c.k=6:=hc4
   refine Nz 1 ?_
   refine Wk 1 (Jby rfl rfl (by (try simp only [ByteArray.size_append]); omega)) ?_
   refine Wd (Qc (Nz 1 ?_))
   refine Wd (Qc (Ce ?_))
   refine CS.loopM (σ:=Int × ByteArray) [47,48,49,50,51,52,53,54,55,56,57,58,59,60,61] (fun s=>[(10,.int .i64 s.1),(7,.string s.2)]) (fun _=>_) (fun s=>0≤s.1∧s.1≤c.g.length∧s.2=jnB (preW c++(Jam c).map digB)++(⟨#[32]⟩:ByteArray)++Jaz (c.g.take s.1.toNat)∧(s.2.size:Int)≤1000+s.1) (fun s=>(c.g.length - s.1).toNat) (0,a.2++(⟨#[32]⟩:ByteArray)) (fun _ _=>rfl) rfl rfl ⟨by simp,by simp,by rw [ha3,hta]; exact (Jnj _).symm,by simp only [ByteArray.size_append]; omega⟩ ?_
   intro j t hs
   obtain ⟨hj1,hj2,hj3,hj4⟩:=hs
   refine Cs (Nz 2 ?_)
   refine Wk 0 (by first | exact Jaa (j:=1) rfl rfl rfl tk32 | exact Jac rfl (by assumption) rfl tk32) ?_
   refine Wk 1 (by first | exact Jbj sl32 rfl (by assumption) | exact Jbj sl32 rfl (by first | exact SlL.sp (by assumption) | exact ClS.sp (by assumption)) | exact Jcm sl32 rfl | exact Je5 sl32 rfl ⟨_,_,rfl⟩) ?_
   refine Wd (Qc (CS.cond rfl ?_ ?_))<;>intro hc5<;>try simp only [bq] at hc5
   ·
    have hgb:=hf.g _ (Jbc (xs:=c.g) hj1 (by omega))
    have hgz:=Jhk (show 0≤nth c.g j.1∧nth c.g j.1 < 10 from hgb)
    have hgt:(Jaz (c.g.take j.1.toNat)).size≤10:=by
     rw [Jdh fun x hx=>hf.g x (List.mem_of_mem_take hx),List.length_take]; omega
    refine Ck (Qc (Cs (Ce (Ny 2 ?_))))
    refine Wk 1 (by first | exact Jaa (j:=1) rfl rfl rfl tk32 | exact Jac rfl (by assumption) rfl tk32) ?_
    refine Wk 0 (by first | exact Je2 sl32 rfl rfl (by assumption) (by omega) (by omega) | exact Jco sl32 rfl rfl (by omega) (by omega)) ?_
    refine Wk 0 (by first | exact Jgq rfl (by assumption) (by omega) tk3 | exact Jaa (j:=0) rfl rfl rfl tk3 | exact Jaa (j:=1) rfl rfl rfl tk3 | exact Jaa (j:=2) rfl rfl rfl tk3 | exact Jaa (j:=3) rfl rfl rfl tk3 | exact Jaa (j:=4) rfl rfl rfl tk3 | exact Jaa (j:=5) rfl rfl rfl tk3 | exact Jac rfl (by assumption) rfl tk3) ?_
    refine Wk 0 (Cb rfl rfl Jl6 (fun u hu=>Joc _ _ u (Nat.le_refl _) (by omega))) ?_
    refine Wk 1 (Jby rfl rfl (by (try simp only [ByteArray.size_append]); omega)) ?_
    refine Wd (Qb (Qc (Ny 1 ?_)))
    refine Wk 1 Za ?_
    refine Wd ?_
    exact QS.head ((j.1+1,j.2++digB (nth c.g j.1))) rfl rfl ⟨⟨by simp; omega,by simp; omega,by
       show _=jnB (preW c++(Jam c).map digB)++(⟨#[32]⟩:ByteArray)++Jaz (c.g.take (j.1+1).toNat)
       rw [Jee hj1 (by omega),hj3,ByteArray.append_assoc],by simp only [ByteArray.size_append]; omega⟩,by simp; omega⟩
   have htg:c.g.take j.1.toNat=c.g:=List.take_of_length_le (by omega)
   refine Cv (Qe (Qe (Qx ?_)))
   refine QS.sel [1,1] rfl ?_
   exact QS.head (j.2) rfl rfl (by rw [hj3,htg]; unfold fmtW; rw [if_pos hc4,Jgy (Jly c _)])
  have hc4:¬ c.k=6:=hc4
  refine Ck ?_
  refine QS.sel [1,1] rfl ?_
  exact QS.head (a.2) rfl rfl (by rw [ha3,hta]; unfold fmtW; rw [if_neg hc4,List.append_nil])
 intro z t hs
 subst hs
 refine Nz 3 ?_
 exact Wd (Qc (Cr (out2 rfl rfl rfl (Jan (by unfold Jbg; rw [if_pos hc1])))))
theorem Jjg (lw ls:Int) (c:Clue) (gv:Value) (w:World) (h1:SlI w gv c.g) (hW:WOk w) (hT:Lib.TabIs Tryz.prog w "internal/strconv.uint64pow10" .u64 Lib.pow10Tab) :
  Calls Tryz.prog 17 #[.agg #[.int .i64 lw,.int .i64 ls],.agg #[.int .i64 c.k,.int .i64 c.a,.int .i64 c.b,.int .i64 c.n,.int .i64 c.m,gv,.bool c.nt]] w (RetB w (.tuple #[.string (Jbg lw ls c).2,.int .i64 (Jbg lw ls c).1])):=by
 have hgo:gv.oneCell'=true:=by
  obtain ⟨p,cap,e⟩:=SlI.shape h1
  rw [e]; rfl
 refine enter Tryz.func17 rfl rfl (Nat.le_of_ble_eq_true rfl) ?_
 refine Nz 0 ?_
 refine Wb 0 rfl rfl (fun _=>rfl) (fun _=>rfl) fun b2 hb2=>?_
 refine Wb 2 rfl rfl (fun _=>rfl) (fun _=>rfl) fun b3 hb3=>?_
 refine Wd (Qc (Cs (Nz 0 ?_)))
 refine Wk 0 (by first | exact Jad (j:=1) rfl rfl tk45 | exact Jaf (j:=1) rfl rfl (by rfl) tk45 | exact Jag rfl (by assumption) (by rfl) tk45 | exact Jal (n:=2) (j:=1) rfl rfl rfl rfl tk45) ?_
 refine Wk 0 (by first | exact Jav rfl (by assumption) (by omega) tk47 | exact Jad (j:=0) rfl rfl tk47 | exact Jaf (j:=0) rfl rfl (by rfl) tk47 | exact Jag rfl (by assumption) (by rfl) tk47 | exact Jal (n:=7) (j:=0) rfl rfl rfl rfl tk47) ?_
 refine Wk 1 (Cb rfl rfl Jpn (fun u hu=>Jgm lw ls c gv u (h1.st hu))) ?_
 refine Wd (Qc (Nz 2 ?_))
 refine Wd (Qc (CS.cond rfl ?_ ?_))<;>intro hc1<;>try simp only [bq] at hc1
 ·
  have hE:¬ Jb3 lw ls c=0:=hc1
  refine Nz 3 ?_
  exact Wd (Qc (Cr (Qr (out2 rfl rfl rfl (Jan (by unfold Jbg; rw [if_neg hE]))))))
 have hc1:Jb3 lw ls c=0:=hc1
 have hf:=Jgf (Jdx hc1).1 (Jdx hc1).2
 have hk1:=hf.k
 have hwn:=Jd7 hk1.1 hk1.2
 have hol:=Jdg c.k
 have hfl:=Jbh c
 have hgl:=hf.gl
 have sp4:(⟨#[110,111,116,32]⟩:ByteArray).size=4:=rfl
 have sp32:(⟨#[32]⟩:ByteArray).size=1:=rfl
 have sp0:(⟨#[]⟩:ByteArray).size=0:=rfl
 have hwk:w.cell? ⟨0,0+c.k.toNat * 1,none⟩=some (.string (nth kindL c.k)):=by
  rw [Nat.zero_add,Nat.mul_one,hW c.k.toNat (by omega)]
  rfl
 have hpl:(if c.nt then [notW] else []).length≤1:=by split <;> simp
 refine Ck (Qc ?_)
 refine CS.cut (σ:=Unit) [] (fun s=>[(7,.slice none 0 0)]) (fun s=>[oT cStr 9 (.slice none 0 0) ([]),blk b3 (Jai c gv) 47,blk b2 [.int .i64 lw,.int .i64 ls] 45]) (fun s=>True) (fun _ _=>rfl) ?_ ?_
 ·
  refine Ny 1 ?_
  refine Wd ?_
  refine QS.weak (fun _ hu=>hu.osl0 (e:=9) (size:=1)) ?_
  exact QS.head (()) rfl rfl trivial
 intro z0 t hs
 refine CS.cut (σ:=Value) [19,20,21,22,23] (fun s=>[(7,s)]) (fun s=>[oT cStr 9 (s) ((if c.nt then [notW] else [])),blk b3 (Jai c gv) 47,blk b2 [.int .i64 lw,.int .i64 ls] 45]) (fun s=>True) (fun _ _=>rfl) ?_ ?_
 ·
  refine Nz 1 ?_
  refine Wk 0 (by first | exact Jaa (j:=1) rfl rfl rfl tk4 | exact Jac rfl (by assumption) rfl tk4) ?_
  refine Wd (Qc (CS.cond rfl ?_ ?_))<;>intro hc2<;>try simp only [bq] at hc2
  ·
   refine Ny 1 ?_
   refine WS.buildS1 (b:=notW) sl22 zv9 rfl (fun _=>rfl) ?_; intro v22
   refine WS.appendT1 (j:=1) (jz:=0) sl22 zv9 rfl (by decide) rfl rfl rfl rfl (w:=w) trivial (by simp) (by simp) (fun _=>rfl) (fun _=>rfl) ?_; intro v23 hv23
   refine Wz 1 ?_
   refine Wd ?_
   refine QS.sel [1,1,1] rfl ?_
   exact QS.head (v23) rfl (by rw [if_pos hc2]; rfl) trivial
  exact Ck (QS.head ((.slice none 0 0)) rfl (by rw [if_neg (by rw [hc2]; decide)]) trivial)
 intro q t hs
 refine Nz 2 ?_
 refine Wk 0 (by first | exact Jaa (j:=1) rfl rfl rfl tk3 | exact Jac rfl (by assumption) rfl tk3) ?_
 refine Wk 0 (Jau (show arr Tryz.prog 93=some (8,1) by kernel_rfl) rfl rfl (by omega) (by omega)) ?_
 refine Wk 0 (Jcl tk9 rfl (fun u hu=>Jbv hu.below (Nat.le_refl _) hwk)) ?_
 refine WS.buildS1 (b:=nth kindL c.k) sl22 zv9 rfl (fun _=>rfl) ?_; intro v29
 refine WS.appendT1 (j:=1) (jz:=0) sl22 zv9 rfl (by decide) rfl rfl rfl rfl (w:=w) trivial (by omega) (by omega) (fun _=>rfl) (fun _=>rfl) ?_; intro v30 hv30
 refine Wz 1 ?_
 refine Wd (Qc (Cs (Nz 0 ?_)))
 refine Wc rfl rfl Jox (fun u hu=>Jhl b3 c.k u (by rw [Jbk (hu.blk (j:=2) rfl).2]; rfl)) (fun _=>rfl) ?_; intro v31 hv31
 refine Wk 1 (Jcm sl94 rfl (j:=0) rfl) ?_
 refine Wd (Qc (Ce ?_))
 refine CS.sel [2,2,2,0] rfl ?_
 refine CS.loopM (σ:=Int × Value) [9,34,35,36,37,38,39,40,41,42,43,44] (fun s=>[(33,.int .i64 s.1),(7,s.2)]) (fun s=>[oT cStr 9 (s.2) (preW c++((Jam c).take s.1.toNat).map digB),blk b3 (Jai c gv) 47,blk b2 [.int .i64 lw,.int .i64 ls] 45,osl 97 1 v31 (offK c.k).length (ptrL b3 (offK c.k))]) (fun s=>0≤s.1∧s.1≤(Jam c).length) (fun s=>((Jam c).length - s.1).toNat) (0,v30) (fun _ _=>rfl) rfl (by rw [show ((0:Int),v30).1.toNat=0 from rfl,List.take_zero,List.map_nil,List.append_nil]; rfl) ⟨by simp,by simp⟩ ?_
 intro a t hs
 obtain ⟨ha1,ha2⟩:=hs
 have hpw:(preW c).length≤2:=by unfold preW; rw [List.length_append,List.length_singleton]; omega
 refine Nz 1 ?_
 refine Wd (Qc (Cs (CS.cond rfl ?_ ?_)))<;>intro hc3<;>try simp only [bq] at hc3
 ·
  have hfb:=hf.f _ (Jbc (xs:=Jam c) ha1 (by omega))
  have hfz:=Jdi (nth (Jam c) a.1)
  obtain ⟨o,ho⟩:∃ o,(offK c.k)[a.1.toNat]? = some o:=⟨_,List.getElem?_eq_getElem (by omega)⟩
  have ho2:o < 7:=Jjz _ o (List.mem_of_getElem? ho)
  have hpa:(ptrL b3 (offK c.k))[a.1.toNat * 1]? = some (.pointer (some ⟨b3,o,none⟩)):=by rw [Nat.mul_one]; exact Jlr ho
  have hfa:=Jlb (gv:=gv) ho
  rw [show ((a.1.toNat:Nat):Int)=a.1 by omega] at hfa
  refine Ck (Qc (Cs (Ce (Nz 0 ?_))))
  refine Wk 0 (Jco (j:=3) sl94 rfl rfl rfl (by omega) (by omega)) ?_
  refine Wk 1 (Jg3 (j:=3) rfl rfl hpa tk97) ?_
  refine Wd (Qc (Ny 3 ?_))
  refine Wk 0 (Jaa (j:=1) rfl rfl hfa tk3) ?_
  refine Wk 0 (Cb rfl rfl Jnv (fun u hu=>Jjq _ (by omega) u (Jma hT hu))) ?_
  refine WS.buildS1 (b:=digB (nth (Jam c) a.1)) sl22 zv9 rfl (fun _=>rfl) ?_; intro v42
  refine WS.appendT1 (j:=1) (jz:=0) sl22 zv9 rfl (by decide) rfl rfl rfl rfl (w:=w) trivial (by simp only [List.length_append,List.length_map,List.length_take,List.length_singleton]; omega) (by simp only [List.length_append,List.length_map,List.length_take,List.length_singleton]; omega) (fun _=>rfl) (fun _=>rfl) ?_; intro v43 hv43
  refine Wz 1 ?_
  refine Wd (Qb (Qc (Ny 0 ?_)))
  refine Wk 1 Za ?_
  refine Wd ?_
  refine QS.sel [1,1,1,1] rfl ?_
  exact QS.head ((a.1+1,v43)) rfl (by first | (rw [show (a.1+1,v43).1=a.1+1 from rfl,Jaq (Jam c) ha1 (by omega),List.map_append,List.map_singleton, ← List.append_assoc]; done) | (rw [show (a.1+1,v43).1=a.1+1 from rfl,Jaq (Jam c) ha1 (by omega),List.map_append,List.map_singleton, ← List.append_assoc]; rfl)) ⟨⟨by simp; omega,by simp; omega⟩,by simp; omega⟩
 have hta:(Jam c).take a.1.toNat=Jam c:=List.take_of_length_le (by omega)
 refine Cv (Qe (Qe (Qx (Qc ?_))))
 refine CS.cut (σ:=Value) [10,12,45,46,47,48,49,50,51,52,53,54,55,56,57,58,59,60,61,62,63] (fun s=>[(7,s)]) (fun s=>[oT cStr 9 (s) (fmtW c),blk b3 (Jai c gv) 47,blk b2 [.int .i64 lw,.int .i64 ls] 45]) (fun s=>True) (fun _ _=>rfl) ?_ ?_
 ·
  refine Nz 1 ?_
  refine Wk 1 (by first | exact Jaa (j:=1) rfl rfl rfl tk3 | exact Jac rfl (by assumption) rfl tk3) ?_
  refine Wd (Qc (CS.cond rfl ?_ ?_))<;>intro hc4<;>try simp only [bq] at hc4
  ·
   have hc4:c.k=6:=hc4
   refine Nz 1 ?_
   refine Wd (Qc (Cs (Nz 1 ?_)))
   refine Wk 0 (by first | exact Jaa (j:=1) rfl rfl rfl tk32 | exact Jac rfl (by assumption) rfl tk32) ?_
   refine Wk 1 (by first | exact Jbj sl32 rfl (by assumption) | exact Jbj sl32 rfl (by first | exact SlL.sp (by assumption) | exact ClS.sp (by assumption)) | exact Jcm sl32 rfl | exact Je5 sl32 rfl ⟨_,_,rfl⟩) ?_
   refine Wd (Qc (Ce ?_))
   refine CS.loopM (σ:=Int × ByteArray) [12,52,53,54,55,56,57,58,59] (fun s=>[(51,.int .i64 s.1),(10,.string s.2)]) (fun _=>_) (fun s=>0≤s.1∧s.1≤c.g.length∧s.2=Jaz (c.g.take s.1.toNat)) (fun s=>(c.g.length - s.1).toNat) (0,⟨#[]⟩) (fun _ _=>rfl) rfl rfl ⟨by simp,by simp,rfl⟩ ?_
   intro j t hs
   obtain ⟨hj1,hj2,hj3⟩:=hs
   refine Nz 1 ?_
   refine Wd (Qc (Cs (CS.cond rfl ?_ ?_)))<;>intro hc5<;>try simp only [bq] at hc5
   ·
    have hgb:=hf.g _ (Jbc (xs:=c.g) hj1 (by omega))
    have hgz:=Jhk (show 0≤nth c.g j.1∧nth c.g j.1 < 10 from hgb)
    have hgt:(Jaz (c.g.take j.1.toNat)).size≤10:=by
     rw [Jdh fun x hx=>hf.g x (List.mem_of_mem_take hx),List.length_take]; omega
    rw [← hj3] at hgt
    refine Ck (Qc (Cs (Ce (Nz 0 ?_))))
    refine Wk 0 (by first | exact Je2 sl32 rfl rfl (by assumption) (by omega) (by omega) | exact Jco sl32 rfl rfl (by omega) (by omega)) ?_
    refine Wk 1 (by first | exact Jgq rfl (by assumption) (by omega) tk3 | exact Jaa (j:=0) rfl rfl rfl tk3 | exact Jaa (j:=1) rfl rfl rfl tk3 | exact Jaa (j:=2) rfl rfl rfl tk3 | exact Jaa (j:=3) rfl rfl rfl tk3 | exact Jaa (j:=4) rfl rfl rfl tk3 | exact Jaa (j:=5) rfl rfl rfl tk3 | exact Jac rfl (by assumption) rfl tk3) ?_
    refine Wd (Qc (Ny 2 ?_))
    refine Wk 0 (Cb rfl rfl Jnv (fun u hu=>Jjq _ (by omega) u (Jma hT hu))) ?_
    refine Wk 1 (Jby rfl rfl (by (try simp only [ByteArray.size_append]); omega)) ?_
    refine Wd (Qb (Qc (Ny 0 ?_)))
    refine Wk 1 Za ?_
    refine Wd ?_
    exact QS.head ((j.1+1,j.2++digB (nth c.g j.1))) rfl rfl ⟨⟨by simp; omega,by simp; omega,by
       show _=Jaz (c.g.take (j.1+1).toNat)
       rw [Jee hj1 (by omega),hj3]⟩,by simp; omega⟩
   have htg:c.g.take j.1.toNat=c.g:=List.take_of_length_le (by omega)
   refine Cv (Qe (Qe (Qx (Qc (Ny 2 ?_)))))
   refine WS.buildS1 (b:=j.2) sl22 zv9 rfl (fun _=>rfl) ?_; intro v62
   refine WS.appendT1 (j:=1) (jz:=0) sl22 zv9 rfl (by decide) rfl rfl rfl rfl (w:=w) trivial (by simp only [List.length_append,List.length_map,List.length_take,List.length_singleton]; omega) (by simp only [List.length_append,List.length_map,List.length_take,List.length_singleton]; omega) (fun _=>rfl) (fun _=>rfl) ?_; intro v63 hv63
   refine Wz 1 ?_
   refine Wd ?_
   refine QS.sel [1,1,1] rfl ?_
   exact QS.head (v63) rfl (by rw [hta,hj3,htg]; unfold fmtW; rw [if_pos hc4]) trivial
  have hc4:¬ c.k=6:=hc4
  refine Ck ?_
  refine QS.sel [0,0,0] rfl ?_
  exact QS.head (a.2) rfl (by rw [hta]; unfold fmtW; rw [if_neg hc4,List.append_nil]) trivial
 intro z t hs
 refine Nz 1 ?_
 refine Wk 0 (Cb rfl rfl Jpu (fun u hu=>by
  have hx:=Jlp hu (j:=0) rfl (fun _ _=>trivial)
  have hz:=Jis hf
  have q:=Jol ⟨z,fmtW c⟩ u hx hz.2.2 hz.1 (by have:=hz.2.1; simp only; omega) (by have:=hz.2.1; simp only; omega)
  exact q)) ?_
 refine Wz 2 ?_
 exact Wd (Qc (Cr (out2 rfl rfl rfl (Jan (by unfold Jbg; rw [if_pos hc1])))))
end Go.Proofs.YtdpbapffdmahnaaGreatDoor
