/- Merged texts of this proof (walks and plain laws), printed by a program of the prover. -/
import Derived.Test.YtfbfdnoodccgiaaGreatDoorXh
import Derived.Test.YtfbfdnoodccgiaaGreatDoorXg
set_option maxHeartbeats 8000000
namespace Go.Proofs.YtfbfdnoodccgiaaGreatDoor
open Go.RowKit Go.Proofs
set_option maxRecDepth 100000
set_option linter.unusedVariables false
set_option linter.unusedSimpArgs false
theorem Jl5:∀ xs:List Int,Ja3 cInt xs=ints xs
 | []=>rfl
 | x::xs=>by rw [show Ja3 cInt (x::xs) = .int .i64 x::Ja3 cInt xs from rfl,Jl5 xs]; rfl
theorem J3f {n0:Nat} {w0 u:World} {L:List SA} {e:TypeId} {v:Value} {xs:List Int} (h:St n0 w0 (oints e v xs::L) u):St n0 w0 (roT cInt ⟨v,xs⟩::L) u :=
 St.toRo (A:=oints e v xs) (p:=fun u=>SlT cInt u ⟨v,xs⟩) (fun S u h=>⟨by
  have h9:=Star.osl (L:=[oints e v xs]) (j:=0) rfl ⟨S,fun _ h=>h,h,trivial⟩
  rw [← Jl5] at h9
  exact h9,fun _ _=>trivial⟩) h
theorem Jvf (t0:ByteArray) (w:World) (ht:(t0.size:Int)≤100000) :
  Calls Tryz.prog 19 #[.string t0] w (RdE w (logE t0)):=by
 have hsl:=Jb8 32 t0
 refine enter Tryz.func19 rfl rfl (Nat.le_of_ble_eq_true rfl) ?_
 refine Nz 0 ?_
 refine Wl 1 zv56 (fun _=>rfl) (fun _=>rfl) fun b2 hb2=>?_
 refine Wd (Qc (Nz 1 ?_))
 refine Wc rfl rfl Jzy (fun u hu=>Jmq t0 32 u (by omega)) (fun _=>rfl) ?_; rintro v12 ⟨u12,hv12⟩
 refine Wz 1 ?_
 refine Wd (Qc (Cs (Nz 1 ?_)))
 refine Wk 1 (Nc (s:=⟨v12,Jab 32 t0⟩)) ?_
 refine Wd (Qc (CS.cond rfl ?_ ?_))<;>intro hc1<;>try simp only [bq] at hc1
 ·
  have hbad:=Jne (t:=t0) (by have h9:((Jab 32 t0).length:Int) < 2:=hc1; omega)
  refine Nz 0 ?_
  refine Wk 0 (Db Jjb zv56) ?_
  refine WS.storeW (j:=1) rfl rfl rfl rfl (cEntry.one w ⟨0,0,mv0,0,0⟩ trivial) tk56 rfl rfl ?_
  refine Wz 1 ?_
  exact Wd (Qc (Cr (Qr (outR (Jcg rfl (Jam (j:=1) rfl rfl tk56) rfl) (fun u hu=>Jfs ⟨0,0,mv0,0,0⟩ hbad hu)))))
 have hl2:2≤(Jab 32 t0).length:=by have h9:¬ ((Jab 32 t0).length:Int) < 2:=hc1; omega
 refine Ck (Qc (Nz 1 ?_))
 refine Wd (Qc ?_)
 refine CS.cut (σ:=Value × List Int) [3,6,7,8,17,18,19,20,21,22,23,24,25,26,27,28,29,30,31,32,33,34,35,36,37,38,39,40,41,42,43] (fun s=>[(5,s.1)]) (fun s=>[roT cInt ⟨s.1,s.2⟩,blk b2 (cEntry.cells ⟨0,0,mv0,0,0⟩) 56,roT cStr ⟨v12,Jab 32 t0⟩]) (fun s=>Jb7 ((Jab 32 t0).eraseIdx 1)=some s.2) (fun _ _=>rfl) ?_ ?_
 ·
  refine Nz 1 ?_
  refine Wd (Qc (Ce ?_))
  refine CS.weak (fun _ hu=>hu.osl0 (e:=3) (size:=1)) ?_
  refine CS.sel [0,1,0] rfl ?_
  refine CS.loopM (σ:=Int × Value × List Int) [3,7,8,17,18,19,20,21,22,23,24,25,26,27,28,29,30,31,32,33,34,35,36,37,38,39,40,41,42,43] (fun s=>[(6,.int .i64 s.1),(5,s.2.1)]) (fun s=>[oints 3 s.2.1 s.2.2,blk b2 (cEntry.cells ⟨0,0,mv0,0,0⟩) 56,roT cStr ⟨v12,Jab 32 t0⟩]) (fun s=>0≤s.1∧s.1≤(Jab 32 t0).length∧Jb7 (((Jab 32 t0).take s.1.toNat).eraseIdx 1)=some s.2.2∧(s.2.2.length:Int)≤s.1) (fun s=>((Jab 32 t0).length - s.1).toNat) (0,.slice none 0 0,[]) (fun _ _=>rfl) rfl rfl ⟨by simp,by simp,rfl,by simp⟩ ?_
  intro a t hs
  obtain ⟨ha1,ha2,ha3,ha4⟩:=hs
  refine Cs (Nz 2 ?_)
  refine Wk 1 (Nc (s:=⟨v12,Jab 32 t0⟩)) ?_
  refine Wd (Qc (CS.cond rfl ?_ ?_))<;>intro hc2<;>try simp only [bq] at hc2
  ·
   have hin:a.1 < ((Jab 32 t0).length:Int):=hc2
   have hwz:=Jdb (Jai (xs:=Jab 32 t0) ha1 hin)
   refine Ck (Qc (Cs (Ce (Cs (Nz 2 ?_)))))
   refine Wd (Qc (CS.cond rfl ?_ ?_))<;>intro hc3<;>try simp only [bq] at hc3
   ·
    refine Cv (Qe (Qx (Qc (Ny 1 ?_))))
    refine Wk 1 Za ?_
    exact Wd (QS.head ((a.1+1,a.2.1,a.2.2)) rfl rfl ⟨⟨by simp; omega,by simp; omega,by have h9:a.1=1:=hc3; show Jb7 (((Jab 32 t0).take (a.1+1).toNat).eraseIdx 1)=_; rw [h9,Jyl hl2, ← h9]; exact ha3,by simp; omega⟩,by simp; omega⟩)
   refine Ck (Qc (Nz 2 ?_))
   refine Wk 0 (Xc (s:=⟨v12,Jab 32 t0⟩) (h1:=by show a.1 < ((Jab 32 t0).length:Int); omega)) ?_
   refine Wk 0 (Vb 2 rfl (s:=⟨v12,Jab 32 t0⟩) (h:=⟨by omega,by show a.1 < ((Jab 32 t0).length:Int); omega⟩)) ?_
   refine Wk 5 (Cb rfl rfl J3o (fun u hu=>J0g (nth (Jab 32 t0) a.1) 7 u (by omega) (by decide))) ?_
   refine Wd (Qc (Cs (Nz 3 ?_)))
   refine Wf 0 rfl rfl (fun hg=>Fm) ?_
   refine Wf 0 rfl rfl (fun hg=>Fg) ?_
   refine Wk 0 Po ?_
   refine Wd (Qc (CS.cond rfl ?_ ?_))<;>intro hc4<;>try simp only [bq] at hc4
   ·
    have hnone:=Jtx (t:=(nth (Jab 32 t0) a.1)) (by first | exact hc4 | (have h9:=hc4; simp at h9 ⊢; exact h9))
    have hbad:logE t0=none:=by
     by_cases h0:a.1=0
     ·
      rw [h0] at hnone; exact Jg4 hl2 (.inl hnone)
     refine Jme (i:=a.1 - 2) hl2 (by omega) (by omega) ?_
     rw [show a.1 - 2+2=a.1 by omega]; exact hnone
    refine Nz 0 ?_
    refine Wk 0 (Db Jjb zv56) ?_
    refine WS.storeW (j:=1) rfl rfl rfl rfl (cEntry.one w ⟨0,0,mv0,0,0⟩ trivial) tk56 rfl rfl ?_
    refine Wz 1 ?_
    exact Wd (Qc (Cr (Qr (Qs (Qr (Qr (Qs (Qr (outR (Jcg rfl (Jam (j:=1) rfl rfl tk56) rfl) (fun u hu=>Jfs ⟨0,0,mv0,0,0⟩ hbad hu))))))))))
   have hyes:=Jy2 (t:=(nth (Jab 32 t0) a.1)) (by have h9:=hc4; (try simp at h9); exact h9.1) (by have h9:=hc4; (try simp at h9); omega)
   refine Ck (Qc (Ny 2 ?_))
   refine WS.buildI1 sl86 zv3 rfl (fun _=>rfl) ?_; intro v42
   refine WS.appendI (j:=1) sl86 zv3 rfl rfl rfl (fun u hu=>Jaq hu (j:=0) rfl) (by first | omega | (simp; omega) | (simp only [List.length_append,List.length_singleton,List.length_map,List.length_cons,List.length_nil] at *; omega)) (by first | omega | (simp; omega) | (simp only [List.length_append,List.length_singleton,List.length_map,List.length_cons,List.length_nil] at *; omega)) (fun _=>rfl) (fun _=>rfl) ?_; intro v43; refine WS.oc (j:=1) rfl (fun hv43=>?_)
   refine Wz 1 ?_
   refine Wd (Qb (Qc (Ny 1 ?_)))
   refine Wk 1 Za ?_
   refine Wd ?_
   refine QS.sel [1,1,1] rfl ?_
   exact QS.head ((a.1+1,v43,a.2.2++[(numB 7 (nth (Jab 32 t0) a.1)).getD 0])) rfl rfl ⟨⟨by simp; omega,by simp; omega,by show Jb7 (((Jab 32 t0).take (a.1+1).toNat).eraseIdx 1)=_; rw [Jxj ha1 hin (by omega)]; exact Jio ha3 hyes,by simp; omega⟩,by simp; omega⟩
  have hae:a.1.toNat=(Jab 32 t0).length:=by have h9:¬ a.1 < ((Jab 32 t0).length:Int):=hc2; omega
  refine Cv (Qe (Qe (Qx ?_)))
  refine QS.weak (fun u hu=>J3f hu) ?_
  exact QS.head ((a.2.1,a.2.2)) rfl rfl (by have h9:=ha3; rw [hae,List.take_length] at h9; exact h9)
 intro d t hs
 refine CS.roE (j:=0) rfl fun hwx=>?_
 obtain ⟨u5,hd5⟩:=hwx
 have hdl:=Jie hs
 rw [J0z hl2] at hs hdl
 obtain ⟨n0,fs,hdv,hn0,hfs⟩:=Jsz hs
 rw [List.length_cons,List.length_drop] at hdl
 refine Nz 1 ?_
 refine Wk 0 (Xc (s:=⟨d.1,d.2⟩) (h0:=by decide) (h1:=by show (0:Int) < (d.2.length:Int); omega)) ?_
 refine Wk 0 (Vb 0 rfl (s:=⟨d.1,d.2⟩) (h:=⟨by decide,by show (0:Int) < (d.2.length:Int); omega⟩)) ?_
 refine Wk 0 (Db Jjb zv56) ?_
 refine Wl 0 zv56 (fun _=>rfl) (fun _=>rfl) fun b9 hb9=>?_
 refine Wv 0 0 ?_
 refine Wd (Qc ?_)
 refine CS.cut (σ:=Sl Int) [48,49] (fun s=>[(5,s.v)]) (fun s=>[blk b9 (cEntry.cells ⟨(nth d.2 0),0,mv0,0,0⟩) 56,roT cInt s,blk b2 (cEntry.cells ⟨0,0,mv0,0,0⟩) 56,roT cStr ⟨v12,Jab 32 t0⟩]) (fun s=>s.l=d.2.tail∧∃ u0,SlT cInt u0 s) (fun _ _=>rfl) ?_ ?_
 ·
  refine Ny 1 ?_
  refine Wk 1 (Jhe sl86 rfl rfl hd5.sp (by decide) (by show (1:Int)≤(d.2.length:Int); omega)) ?_
  refine Wd ?_
  refine QS.sel [1,0,0,0] rfl ?_
  refine QS.weak (fun u hu=>St.roCut (lo:=1) (hi:=d.2.length) hu (by omega) (Nat.le_refl _)) ?_
  refine QS.sel [1,0,0,0] rfl ?_
  exact QS.head (((⟨d.1,d.2⟩:Sl Int).cut 1 1 d.2.length)) rfl rfl ⟨Jt7 _,u5,hd5.cut (by omega) (Nat.le_refl _)⟩
 intro f t hs
 obtain ⟨hfl,uf,hf⟩:=hs
 have hfl2:f.l=fs:=by rw [hfl,hdv]; rfl
 have hfn:f.l.length+2=(Jab 32 t0).length:=by rw [hfl,List.length_tail]; omega
 have hd0:nth d.2 0=n0:=by rw [hdv]; rfl
 refine Nz 1 ?_
 refine Wd (Qc ?_)
 refine CS.cut (σ:=Int) [3,50,51,52,53,54,55,56,57,58,59,60,61,62,63,64,65,66,67,68] (fun s=>[(10,.int .i64 ((offE s).length:Int))]) (fun s=>[blk b9 (cEntry.cells ⟨(nth d.2 0),s,mv0,0,0⟩) 56,roT cInt f,blk b2 (cEntry.cells ⟨0,0,mv0,0,0⟩) 56,roT cStr ⟨v12,Jab 32 t0⟩]) (fun s=>inK s=true∧s=Jdl (nth (Jab 32 t0) 1)) (fun _ _=>rfl) ?_ ?_
 ·
  refine Nz 1 ?_
  refine Wk 0 (Xc (s:=⟨v12,Jab 32 t0⟩) (h0:=by decide) (h1:=by show (1:Int) < ((Jab 32 t0).length:Int); omega)) ?_
  refine Wk 0 (Vb 3 rfl (s:=⟨v12,Jab 32 t0⟩) (h:=⟨by decide,by show (1:Int) < ((Jab 32 t0).length:Int); omega⟩)) ?_
  refine Wd (Qc (Ce (Nz 0 ?_)))
  refine Wk 1 (Jao rfl rfl) ?_
  refine Wd (Qc (CS.cond rfl ?_ ?_))<;>intro hc5<;>try simp only [bq] at hc5
  ·
   refine Nz 1 ?_
   refine Ws 0 0 ?_
   refine Wd (Qc (Ny 1 ?_))
   exact Wd (Qb (QS.head (1) rfl rfl (by have h9:seq (nth (Jab 32 t0) 1) (kwE 1)=true:=hc5; exact ⟨rfl,(Jgx (k:=1) rfl h9).symm⟩)))
  refine Nz 0 ?_
  refine Wk 1 (Jao rfl rfl) ?_
  refine Wd (Qc (CS.cond rfl ?_ ?_))<;>intro hc6<;>try simp only [bq] at hc6
  ·
   refine Nz 1 ?_
   refine Ws 0 0 ?_
   refine Wd (Qc (Ny 1 ?_))
   exact Wd (Qb (QS.head (2) rfl rfl (by have h9:seq (nth (Jab 32 t0) 1) (kwE 2)=true:=hc6; exact ⟨rfl,(Jgx (k:=2) rfl h9).symm⟩)))
  refine Nz 0 ?_
  refine Wk 1 (Jao rfl rfl) ?_
  refine Wd (Qc (CS.cond rfl ?_ ?_))<;>intro hc7<;>try simp only [bq] at hc7
  ·
   refine Ny 1 ?_
   refine Ws 0 0 ?_
   exact Wd (Qb (QS.head (3) rfl rfl (by have h9:seq (nth (Jab 32 t0) 1) (kwE 3)=true:=hc7; exact ⟨rfl,(Jgx (k:=3) rfl h9).symm⟩)))
  refine Nz 0 ?_
  refine Wk 1 (Jao rfl rfl) ?_
  refine Wd (Qc (CS.cond rfl ?_ ?_))<;>intro hc8<;>try simp only [bq] at hc8
  ·
   refine Ny 1 ?_
   refine Ws 0 0 ?_
   exact Wd (Qb (QS.head (4) rfl rfl (by have h9:seq (nth (Jab 32 t0) 1) (kwE 4)=true:=hc8; exact ⟨rfl,(Jgx (k:=4) rfl h9).symm⟩)))
  refine Nz 0 ?_
  refine Wk 1 (Jao rfl rfl) ?_
  refine Wd (Qc (CS.cond rfl ?_ ?_))<;>intro hc9<;>try simp only [bq] at hc9
  ·
   refine Nz 1 ?_
   refine Ws 0 0 ?_
   refine Wd (Qc (Ny 1 ?_))
   exact Wd (Qb (QS.head (5) rfl rfl (by have h9:seq (nth (Jab 32 t0) 1) (kwE 5)=true:=hc9; exact ⟨rfl,(Jgx (k:=5) rfl h9).symm⟩)))
  have hbad:logE t0=none:=Jg4 hl2 (.inr (.inl (by rw [J0n hc5 hc6 hc7 hc8 hc9]; rfl)))
  refine Nz 0 ?_
  refine Wk 0 (Db Jjb zv56) ?_
  refine WS.storeW (j:=2) rfl rfl rfl rfl (cEntry.one w ⟨0,0,mv0,0,0⟩ trivial) tk56 rfl rfl ?_
  refine Wz 1 ?_
  exact Wd (Qc (Cr (Qs (Qr (outR (Jcg rfl (Jam (j:=2) rfl rfl tk56) rfl) (fun u hu=>Jfs ⟨0,0,mv0,0,0⟩ hbad hu))))))
 intro k t hs
 obtain ⟨hik,hkk⟩:=hs
 refine Cs (Nz 1 ?_)
 refine Wk 2 (Nc (s:=f)) ?_
 refine Wd (Qc (CS.cond rfl ?_ ?_))<;>intro hc10<;>try simp only [bq] at hc10
 ·
  have hbad:logE t0=none:=Jg4 hl2 (.inr (.inr (by have h9:¬ (f.l.length:Int)=((offE k).length:Int):=hc10; rw [← hkk]; omega)))
  refine Nz 0 ?_
  refine Wk 0 (Db Jjb zv56) ?_
  refine WS.storeW (j:=2) rfl rfl rfl rfl (cEntry.one w ⟨0,0,mv0,0,0⟩ trivial) tk56 rfl rfl ?_
  refine Wz 1 ?_
  exact Wd (Qc (Cr (Qr (outR (Jcg rfl (Jam (j:=2) rfl rfl tk56) rfl) (fun u hu=>Jfs ⟨0,0,mv0,0,0⟩ hbad hu)))))
 have hfk:f.l.length=(offE k).length:=by
  have h9:(f.l.length:Int)=((offE k).length:Int):=by simpa using hc10
  omega
 obtain ⟨hq3,hq1,hq2⟩:=Jqn hik
 refine Ck (Qc ?_)
 refine CS.cut (σ:=Unit) [74,75,76,77,78,79,80,81,82,83,84,85,86] (fun s=>[]) (fun s=>[blk b9 (cEntry.cells (stoA (nth d.2 0) k f.l)) 56,roT cInt f,blk b2 (cEntry.cells ⟨0,0,mv0,0,0⟩) 56,roT cStr ⟨v12,Jab 32 t0⟩]) (fun s=>True) (fun _ _=>rfl) ?_ ?_
 ·
  refine Nz 2 ?_
  refine Wd (Qc (CS.cond rfl ?_ ?_))<;>intro hc11<;>try simp only [bq] at hc11
  ·
   have hk1:k=1:=hq3.1 (by have h9:=hc11; omega)
   refine CS.drawnTill 11 (k:=12) mixed rfl rfl ?_
   refine Tr 12 [0] ?_
   refine Tk 12 1 [] rfl (Xc (s:=f) (h0:=by decide) (h1:=by show (0:Int) < (f.l.length:Int); omega)) ?_
   refine Tk 12 2 [3] rfl (Vb 1 rfl (s:=f) (h:=⟨by decide,by show (0:Int) < (f.l.length:Int); omega⟩)) ?_
   refine Tk 12 4 [] rfl (Xc (s:=f) (h0:=by decide) (h1:=by show (1:Int) < (f.l.length:Int); omega)) ?_
   refine Tk 12 5 [6] rfl (Vb 1 rfl (s:=f) (h:=⟨by decide,by show (1:Int) < (f.l.length:Int); omega⟩)) ?_
   refine Tk 12 7 [] rfl (Xc (s:=f) (h0:=by decide) (h1:=by show (2:Int) < (f.l.length:Int); omega)) ?_
   refine Tk 12 8 [] rfl (Vb 1 rfl (s:=f) (h:=⟨by decide,by show (2:Int) < (f.l.length:Int); omega⟩)) ?_
   refine Tk 12 9 [10] rfl (Db J1l zv51) ?_
   refine To 11 rfl ?_
   refine WS.storeP rfl (j:=0) rfl rfl rfl (by simp [Value.oneCell']) tk51 rfl rfl ?_
   refine Wd (Qt ?_)
   refine Te ?_
   exact QS.head (()) rfl (by show [_,_,_,_]=[_,_,_,_]; rw [stoA,if_pos hk1,hk1]; rfl) trivial
  have hk1:¬ k=1:=fun h=>hc11 (by have:=hq3.2 h; omega)
  exact Ck (QS.head (()) rfl (by show [_,_,_,_]=[_,_,_,_]; rw [stoA,if_neg hk1]) trivial)
 intro y1 t hs
 refine CS.cut (σ:=Unit) [87,88,89,90,91,92,93,94,95,96] (fun s=>[]) (fun s=>[blk b9 (cEntry.cells (stoB (nth d.2 0) k f.l)) 56,roT cInt f,blk b2 (cEntry.cells ⟨0,0,mv0,0,0⟩) 56,roT cStr ⟨v12,Jab 32 t0⟩]) (fun s=>True) (fun _ _=>rfl) ?_ ?_
 ·
  refine Nz 3 ?_
  refine Wf 0 rfl rfl (fun hg=>Fm) ?_
  refine Wf 0 rfl rfl (fun hg=>Fq) ?_
  refine Wk 0 Po ?_
  refine Wd (Qc (CS.cond rfl ?_ ?_))<;>intro hc12<;>try simp only [bq] at hc12
  ·
   have hk2:k=2∨k=5:=by rcases hc12 with h | h; exact .inl (hq1.1 (by omega)); exact .inr (hq2.1 (by omega))
   refine Ny 1 ?_
   refine Wk 0 (Xc (s:=f) (h0:=by decide) (h1:=by show (0:Int) < (f.l.length:Int); omega)) ?_
   refine Wk 1 (Vb 1 rfl (s:=f) (h:=⟨by decide,by show (0:Int) < (f.l.length:Int); omega⟩)) ?_
   refine Ws 0 0 ?_
   exact Wd (QS.head (()) rfl (by show [_,_,_,_]=[_,_,_,_]; rw [stoB,if_pos hk2,stoA,if_neg (by omega)]; rfl) trivial)
  have hk2:¬ (k=2∨k=5):=fun h=>by rcases h with h | h; have:=hq1.2 h; omega; have:=hq2.2 h; omega
  exact Ck (QS.head (()) rfl (by show [_,_,_,_]=[_,_,_,_]; rw [stoB,if_neg hk2]) trivial)
 intro y2 t hs
 refine CS.cut (σ:=Unit) [97,98,99,100,101,102] (fun s=>[]) (fun s=>[blk b9 (cEntry.cells (stoC (nth d.2 0) k f.l)) 56,roT cInt f,blk b2 (cEntry.cells ⟨0,0,mv0,0,0⟩) 56,roT cStr ⟨v12,Jab 32 t0⟩]) (fun s=>True) (fun _ _=>rfl) ?_ ?_
 ·
  refine Nz 2 ?_
  refine Wd (Qc (CS.cond rfl ?_ ?_))<;>intro hc13<;>try simp only [bq] at hc13
  ·
   have hk3:k=5:=hq2.1 (by have h9:=hc13; omega)
   refine Ny 1 ?_
   refine Wk 0 (Xc (s:=f) (h0:=by decide) (h1:=by show (1:Int) < (f.l.length:Int); omega)) ?_
   refine Wk 1 (Vb 1 rfl (s:=f) (h:=⟨by decide,by show (1:Int) < (f.l.length:Int); omega⟩)) ?_
   refine Ws 0 0 ?_
   exact Wd (QS.head (()) rfl (by show [_,_,_,_]=[_,_,_,_]; rw [stoC,if_pos hk3,stoB,if_pos (.inr hk3)]; rfl) trivial)
  have hk3:¬ k=5:=fun h=>hc13 (by have:=hq2.2 h; omega)
  exact Ck (QS.head (()) rfl (by show [_,_,_,_]=[_,_,_,_]; rw [stoC,if_neg hk3]) trivial)
 intro y3 t hs
 refine Nz 0 ?_
 refine Wk 0 (by first | exact Jbi (j:=0) rfl rfl tk56 | exact Jbd (j:=0) rfl rfl (by rfl) tk56 | exact Jbk rfl (by assumption) (by rfl) tk56 | exact Jbl (n:=7) (j:=0) rfl rfl rfl rfl tk56) ?_
 refine WS.storeW (j:=2) rfl rfl rfl rfl (cEntry.one w (stoC (nth d.2 0) k f.l) trivial) tk56 rfl rfl ?_
 refine Wz 1 ?_
 refine Wd (Qc (Cr ?_))
 exact outR (Jcg rfl (Jam (j:=2) rfl rfl tk56) rfl) (fun u hu=>Jqv (by
    rw [hd0,J29 hik hfk,hfl2,hkk]
    exact Jpq hl2 hn0 hfs (by rw [← hkk]; exact hik) (by rw [← hkk, ← hfl2]; exact hfk)) hu)
theorem Jqx (t0:ByteArray) (w:World) (ht:t0.size≤65536) :
  Calls Tryz.prog 7 #[.string t0] w (RetT cEntry w (Jch t0).1 (fun v=>.tuple #[v,.int .i64 (Jch t0).2.1,.int .i64 (Jch t0).2.2])):=by
 have hsl:=Jb8 10 t0
 have hsp:=Je6 10 t0
 refine enter Tryz.func7 rfl rfl (Nat.le_of_ble_eq_true rfl) ?_
 refine Nz 3 ?_
 refine Wd (Qc (Cs (Nz 1 ?_)))
 refine Wk 1 (Jau Tryz.underlying9 rfl) ?_
 refine Wd (Qc (CS.cond rfl ?_ ?_))<;>intro hc1<;>try simp only [bq] at hc1
 ·
  exact absurd hc1 (by omega)
 refine Ck (Qc (Nz 1 ?_))
 refine Wc rfl rfl Jzy (fun u hu=>Jmq t0 10 u (by omega)) (fun _=>rfl) ?_; rintro v15 ⟨u15,hv15⟩
 refine Wz 1 ?_
 refine Wd (Qc (Nz 1 ?_))
 refine Wk 0 (Nc (s:=⟨v15,Jab 10 t0⟩)) ?_
 refine Wk 1 (Zb (aa:=((Jab 10 t0).length:Int)) (bb:=1) (h:=by omega)) ?_
 refine Wd (Qc (Nz 1 ?_))
 refine Wd (Qc (Cs (Nz 1 ?_)))
 refine Wd (Qc (Ce ?_))
 refine CS.weak (fun _ hu=>hu.osl0 (e:=56) (size:=7)) ?_
 refine CS.loopM (σ:=Int × Value × List Entr) [2,3,4,9,10,19,20,21,22,23,24,25,26,27,28,29,30,31,32,33,34,35,36,37,38,39] (fun s=>[(8,.int .i64 s.1),(7,s.2.1)]) (fun s=>[oT cEntry 56 s.2.1 s.2.2,roT cStr ⟨v15,Jab 10 t0⟩]) (fun s=>0≤s.1∧s.1+1≤((Jab 10 t0).length:Int)∧Jch t0=parE s.2.2 s.1 ((Jab 10 t0).drop s.1.toNat)∧s.2.2.length=s.1.toNat) (fun s=>((Jab 10 t0).length - s.1).toNat) (0,.slice none 0 0,[]) (fun _ _=>rfl) rfl rfl ⟨by simp,by simp; omega,rfl,rfl⟩ ?_
 intro a t hs
 obtain ⟨ha0,ha1,ha4,ha5⟩:=hs
 refine Cs (Nz 3 ?_)
 refine Wd (Qc (CS.cond rfl ?_ ?_))<;>intro hc2<;>try simp only [bq] at hc2
 ·
  have hin:a.1+1 < ((Jab 10 t0).length:Int):=by have h9:a.1 < ((Jab 10 t0).length:Int) - 1:=hc2; omega
  have hpz:=Jdb (Jai (xs:=Jab 10 t0) ha0 (show a.1 < ((Jab 10 t0).length:Int) by omega))
  refine Ck (Qc (Cs (Ce (Nz 2 ?_))))
  refine Wk 0 (Xc (s:=⟨v15,Jab 10 t0⟩) (h1:=by show a.1 < ((Jab 10 t0).length:Int); omega)) ?_
  refine Wk 0 (Vb 1 rfl (s:=⟨v15,Jab 10 t0⟩) (h:=⟨by omega,by show a.1 < ((Jab 10 t0).length:Int); omega⟩)) ?_
  refine WS.callE (β:=Entr × Bool) (p:=fun y=>y.2=true∧logE (nth (Jab 10 t0) a.1)=some y.1∨y.2=false∧logE (nth (Jab 10 t0) a.1)=none) (v:=fun y=>.tuple #[.agg (cEntry.cells y.1).toArray,.bool y.2]) rfl rfl J3u (fun u hu=>Jvf (nth (Jab 10 t0) a.1) u (by omega)) (fun _=>rfl) ?_; rintro x hx
  refine Wz 3 ?_
  refine Wl 0 zv56 (fun _=>rfl) (fun _=>rfl) fun b9 hb9=>?_
  refine Wv 1 0 ?_
  refine Wd (Qc (Cs (Nz 2 ?_)))
  refine Wd (Qc (CS.cond rfl ?_ ?_))<;>intro hc3<;>try simp only [bq] at hc3
  ·
   have hbad:Jch t0=([],a.1+1,4):=by
    have hx2:x.2=false:=by simpa using hc3
    rcases hx with ⟨h8,_⟩ | ⟨_,h8⟩
    ·
     rw [h8] at hx2; cases hx2
    rw [ha4,Jf4 ha0 hin,h8]
   refine Nz 1 ?_
   refine Wk 3 Za ?_
   refine Wd (Qc (Cr (Qr (Qs (Qr (Qr (Qs (Qr ?_))))))))
   exact out3 rfl rfl rfl rfl (fun u hu=>by
      rw [hbad]
      exact Jit hu)
  have hxs:logE (nth (Jab 10 t0) a.1)=some x.1:=by
   have hx2:x.2=true:=by simpa using hc3
   rcases hx with ⟨_,h8⟩ | ⟨h8,_⟩
   ·
    exact h8
   rw [h8] at hx2; cases hx2
  refine Ck (Qc (Ny 1 ?_))
  refine Wk 0 (by first | exact Jbi (j:=0) rfl rfl tk56 | exact Jbd (j:=0) rfl rfl (by rfl) tk56 | exact Jbk rfl (by assumption) (by rfl) tk56 | exact Jbl (n:=7) (j:=0) rfl rfl rfl rfl tk56) ?_
  refine WS.buildT1 cEntry (a:=x.1) sl23 zv56 rfl (by decide) (fun _=>rfl) ?_; intro v38
  refine WS.appendT1 (C:=cEntry) (a:=x.1) (j:=2) (jz:=0) sl23 zv56 rfl (by decide) rfl rfl rfl rfl (w:=w) trivial (by omega) (by omega) (fun _=>rfl) (fun _=>rfl) ?_; intro v39 hv39
  refine Wz 1 ?_
  refine Wd (Qb (Qc (Ny 1 ?_)))
  refine Wk 1 Za ?_
  refine Wd ?_
  refine QS.sel [2,2] rfl ?_
  exact QS.head ((a.1+1,v39,a.2.2++[x.1])) rfl rfl ⟨⟨by simp; omega,by simp; omega,by rw [ha4,Jf4 ha0 hin,hxs],by simp; omega⟩,by simp; omega⟩
 have hae:a.1=((Jab 10 t0).length:Int) - 1:=by have h9:¬ a.1 < ((Jab 10 t0).length:Int) - 1:=hc2; omega
 have hfin:Jch t0=if seq (nth (Jab 10 t0) (((Jab 10 t0).length:Int) - 1)) ⟨#[]⟩=true then (if 500 < (a.2.2.length:Int) then ([],0,2) else (a.2.2,0,0)) else ([],((Jab 10 t0).length:Int) - 1+1,4):=by
  rw [ha4,Jiv ha0 (by omega),hae]
 refine Cv (Qe (Qe (Qx (Qc (Cs (Nz 2 ?_))))))
 refine Wk 0 (Xc (s:=⟨v15,Jab 10 t0⟩) (h0:=by omega) (h1:=by show ((Jab 10 t0).length:Int) - 1 < ((Jab 10 t0).length:Int); omega)) ?_
 refine Wk 0 (Vb 1 rfl (s:=⟨v15,Jab 10 t0⟩) (h:=⟨by omega,by show ((Jab 10 t0).length:Int) - 1 < ((Jab 10 t0).length:Int); omega⟩)) ?_
 refine Wk 0 (Jeu rfl rfl) ?_
 refine Wd (Qc (CS.cond rfl ?_ ?_))<;>intro hc4<;>try simp only [bq] at hc4
 ·
  have hbad:Jch t0=([],((Jab 10 t0).length:Int) - 1+1,4):=by
   rw [hfin,if_neg (by simpa using hc4)]
  refine Nz 1 ?_
  refine Wk 3 Za ?_
  refine Wd (Qc (Cr (Qr ?_)))
  exact out3 rfl rfl rfl rfl (fun u hu=>by
     rw [hbad]
     exact Jit hu)
 rw [if_pos (show seq (nth (Jab 10 t0) (((Jab 10 t0).length:Int) - 1)) ⟨#[]⟩=true by simpa using hc4)] at hfin
 refine Ck (Qc (Cs (Nz 2 ?_)))
 refine Wd (Qc (CS.cond rfl ?_ ?_))<;>intro hc5<;>try simp only [bq] at hc5
 ·
  have hmany:Jch t0=([],0,2):=by rw [hfin,if_pos (by have h9:500 < ((Jab 10 t0).length:Int) - 1:=hc5; omega)]
  refine Nz 3 ?_
  refine Wd (Qc (Cr (Qr ?_)))
  exact out3 rfl rfl rfl rfl (fun u hu=>by
     rw [hmany]
     exact Jit hu)
 have hfew:Jch t0=(a.2.2,0,0):=by rw [hfin,if_neg (by have h9:¬ 500 < ((Jab 10 t0).length:Int) - 1:=hc5; omega)]
 refine Ck (Qc (Nz 4 ?_))
 refine Wd (Qc (Cr ?_))
 exact out3 rfl rfl rfl rfl (fun u hu=>by
    rw [hfew]
    exact retT (C:=cEntry) (f:=fun v=>.tuple #[v,.int .i64 0,.int .i64 0]) (fun _ _ _=>trivial) (j:=0) rfl hu)
end Go.Proofs.YtfbfdnoodccgiaaGreatDoor
