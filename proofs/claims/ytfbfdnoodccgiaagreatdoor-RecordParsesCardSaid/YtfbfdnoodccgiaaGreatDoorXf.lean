/- Merged texts of this proof (walks and plain laws), printed by a program of the prover. -/
import Derived.Test.YtfbfdnoodccgiaaGreatDoorZb2
import Derived.Shelf.Strings.SlTrimAscii
import Derived.Lib.AppendIntMem
import Derived.Test.YtfbfdnoodccgiaaGreatDoorZb
import Derived.Test.YtfbfdnoodccgiaaGreatDoorShelf
import Derived.Test.YtfbfdnoodccgiaaGreatDoorZc
import Derived.Test.YtfbfdnoodccgiaaGreatDoorXb
set_option maxHeartbeats 8000000
namespace Go.Proofs.YtfbfdnoodccgiaaGreatDoor
open Go.RowKit Go.Proofs
set_option maxRecDepth 100000
set_option linter.unusedVariables false
set_option linter.unusedSimpArgs false
def MaxOk (w:World):Prop:=∃ m:Int,w.cell? ⟨1,0,none⟩=some (.int .i64 m)
theorem MaxOk.ext {w u:World} (h:MaxOk w) (hb:Below w.heap.size w u):MaxOk u:=let ⟨m,e⟩:=h; ⟨m,Jcs hb (Nat.le_refl _) e⟩
theorem MaxOk.st {w u:World} {L:List SA} (h:MaxOk w) (hu:St w.heap.size w L u):MaxOk u:=h.ext hu.below
theorem Jxo (c:UInt8) (tx:ByteArray) (w:World) (hM:MaxOk w) (hs:tx.size < 4294967281) :
  Calls Tryz.prog 36 #[.string tx,.string ⟨#[c]⟩] w (RetL w (Jab c tx)):=by
 obtain ⟨m,hm⟩:=hM
 refine (Tryz.strings_Split tx ⟨#[c]⟩ m w hs hm (show 1≤1 by decide)).mono ?_
 rintro e w' ⟨rfl,rfl⟩
 rw [Jhz,Jhk]
 exact Jo6 (by have:=Jb8 c tx; omega)
theorem Jzz (tx:ByteArray) (w:World) (hs:tx.size≤9223372036854775807) :
  Calls Tryz.prog 50 #[.string tx,.string ⟨#[48,49,50,51,52,53,54,55,56,57]⟩] w (RetB w (.string ⟨(Lib.trimS (bl tx) decL).toArray⟩)) :=
 Any.strings_Trim_laid Tryz.lays160 (by kernel_rfl) tx ⟨#[48,49,50,51,52,53,54,55,56,57]⟩ w hs (by decide) (ascii_of_all (by decide))
theorem J00 (tx:ByteArray) {most:Int} (w:World) (h:Jbm tx most=true) (hm:most≤18) :
  Calls Tryz.prog 51 #[.string tx] w (RetB w (.tuple #[.int .i64 (numL (bl tx)),.nilIface])):=by
 have h1:tx.size≤18:=by simp only [Jbm,Bool.and_eq_true,decide_eq_true_eq] at h; omega
 refine (Tryz.strconv_Atoi tx _ h1 (Jtt h) w).mono ?_
 rintro e w' ⟨rfl,t,rfl⟩
 exact ⟨rfl,Lib.bytesWorld_below _ _ _⟩
theorem J4b (c:UInt8) (tx:ByteArray) (w:World) (hM:MaxOk w) (hs:tx.size < 4294967281) :
  Calls Tryz.prog 34 #[.string tx,.string ⟨#[c]⟩,.int .i64 1,.int .i64 (-1)] w (fun e w'=>∃ v':Value,v'.oneCell'=true∧RetF w v' (oT cStr 9 v' (aftS c tx)) e w'):=by
 obtain ⟨m,hm⟩:=hM
 have hle:=Lib.countB_le ⟨#[c]⟩ (show 1≤1 by decide) tx.size tx (Nat.le_refl _)
 have q:=Tryz.strings_genSplit tx ⟨#[c]⟩ 1 (-1) (Lib.countB tx ⟨#[c]⟩+1) m w hs hm (show 1≤1 by decide) (show 1≤1 by decide) (by decide) (by decide) (by rw [if_pos (by decide)]; omega)
 rw [Nat.add_sub_cancel,Jjr] at q
 have hl:(aftS c tx).length=Lib.countB tx ⟨#[c]⟩+1:=by rw [Jir,Jhk]
 have hc:Lib.cellsOf (aftS c tx) (Lib.countB tx ⟨#[c]⟩+1)=((aftS c tx).map Value.string).toArray:=by rw [← hl]; exact Lib.cellsOf_full _
 rw [hc, ← hl] at q
 refine q.mono ?_
 rintro e w' ⟨rfl,rfl⟩
 have h2:=(St.nil (w:=w)).alloc ((aftS c tx).map Value.string) 9
 have h3:=h2.closeRow (k:=1) (n:=(aftS c tx).length) (cap:=(aftS c tx).length) (Nat.le_refl _) (by rw [Jir]; have:=Jb8 c tx; omega) (by simp) (xs:=Ja3 cStr (aftS c tx)) (by rw [Jew,List.take_of_length_le (by simp)])
 exact ⟨_,rfl,retF (L:=[oT cStr 9 _ (aftS c tx)]) (j:=0) rfl _ h3⟩
theorem Jwz (c:UInt8) (t:ByteArray) (w:World) (ht:t.size≤1000000) :
  Calls Tryz.prog 16 #[.string t,.string ⟨#[c]⟩] w (RetB w (.tuple #[.string ⟨(Lib.trimSuffix (bl t) [c]).toArray⟩,.bool (Lib.hasSuffix (bl t) [c])])):=by
 refine (Tryz.strings_CutSuffix t ⟨#[c]⟩ w (by omega)).mono ?_
 rintro e w' ⟨rfl,rfl⟩
 exact ⟨rfl,Below.refl _ _⟩
theorem Jpv (c:UInt8) (t:ByteArray):Lib.hasSuffix (bl (t++(⟨#[c]⟩:ByteArray))) [c]=true∧(⟨(Lib.trimSuffix (bl (t++(⟨#[c]⟩:ByteArray))) [c]).toArray⟩:ByteArray)=t:=by
 have e:bl (t++(⟨#[c]⟩:ByteArray))=bl t++[c]:=by simp [Jms,Jyd]
 have h:Lib.hasSuffix (bl t++[c]) [c]=true:=by simp [Lib.hasSuffix]
 rw [e]
 refine ⟨h,Jwj ?_⟩
 rw [Jyd,Lib.trimSuffix,if_pos h]
 simp
theorem Jz9 {c:UInt8} {t:ByteArray} (h:c ∉ bl t):Lib.hasSuffix (bl t) [c]=false:=by
 cases hq:Lib.hasSuffix (bl t) [c] with
 | false=>rfl
 | true =>
  have:[c] <:+ bl t:=by simpa [Lib.hasSuffix] using hq
  exact absurd (this.subset (by simp)) h
theorem Jx0 (c:UInt8) (tx:ByteArray) (w:World) (hM:MaxOk w) (hs:tx.size < 4294967281) :
  Calls Tryz.prog 14 #[.string tx,.string ⟨#[c]⟩] w (fun e w'=>∃ v':Value,v'.oneCell'=true∧RetF w v' (oT cStr 9 v' (aftS c tx)) e w'):=by
 refine enter Tryz.func14 rfl rfl (Nat.le_of_ble_eq_true rfl) ?_
 refine Nz 1 ?_
 refine Wd (Qc (Nz 3 ?_))
 refine Wk 0 (Jau Tryz.underlying9 rfl) ?_
 refine Wc rfl rfl J37 (fun u hu=>J4b c tx u (hM.st hu) hs) (fun _=>rfl) ?_; intro v9 hv9
 refine Wz 1 ?_
 exact Wd (Qc (Cr (out1 rfl rfl (fun u hu=>⟨_,hv9,retF (j:=0) rfl u hu⟩))))
theorem Jsd {n0:Nat} {w0 u:World} (R:List SA) (xs:List ByteArray) (v:Value) (hu:St n0 w0 (oT cStr 9 v xs::R) u) (h0:0 < xs.length) (hm:xs.length≤1000000) :
  Calls Tryz.prog 15 #[v,.int .i64 (xs.length - 1),.int .i64 xs.length] u (fun e u'=>∃ v':Value,v'.oneCell'=true∧e = .returned v'∧St n0 w0 (oT cStr 9 v' xs.dropLast::R) u'):=by
 have hsp:SlC u v xs.length 1 (Ja3 cStr xs):=Jb3 hu (j:=0) rfl
 obtain ⟨b,cap,cur,rfl,hcc,hcm,hcl,hct,hu⟩:=hu.openRow (by omega)
 obtain ⟨off,hoff⟩:∃ off,off=if cap=xs.length then 0 else xs.length:=⟨_,rfl⟩
 have hcl1:cur.length=cap:=by rw [hcl]; exact Nat.mul_one _
 have hv1:sub2 1 (.slice (some ⟨b,0,none⟩) xs.length cap) 0 ((xs.length:Int) - 1).toNat = .slice (some ⟨b,0,none⟩) (xs.length - 1) cap:=by
  have e:((xs.length:Int) - 1).toNat=xs.length - 1:=by omega
  rw [e]; simp [sub2,Ja8]
 have hv2:sub2 1 (.slice (some ⟨b,0,none⟩) xs.length cap) ((xs.length:Nat):Int).toNat xs.length = .slice (some ⟨b,off,none⟩) 0 (cap - xs.length):=by
  rw [hoff,Int.toNat_natCast]; simp only [sub2,Option.map_some,Ja8,Nat.zero_add]; split <;> simp
 refine Jei hu Tryz.func15 rfl rfl (Nat.le_of_ble_eq_true rfl) ?_
 refine Nz 1 ?_
 refine Wd (Qc (Nz 4 ?_))
 refine Wk 0 (Jf0 sl34 rfl ⟨_,_,rfl⟩) ?_
 refine Wk 0 (Jk0 sl34 rfl rfl rfl rfl (by first | assumption | exact SlL.sp (by assumption) | exact ClS.sp (by assumption) | exact SlT.sp (by assumption)) (by omega) (by omega) (by omega) (by omega)) ?_
 refine Wd (Qc (Cs (Nz 3 ?_)))
 refine Wd (Qc (CS.cond rfl ?_ ?_))<;>intro hc1<;>try simp only [bq] at hc1
 ·
  omega
 refine Ck (Qc (Nz 1 ?_))
 refine Wk 1 (Jf0 sl34 rfl ⟨_,_,rfl⟩) ?_
 refine Wd (Qc (Cs ?_))
 refine CS.drawnTill 6 (k:=8) mixed rfl rfl ?_
 refine Tr 8 [0,1] ?_
 refine Tk 8 2 [3,4] rfl (Jde sl34 rfl rfl (by first | assumption | exact SlL.sp (by assumption) | exact ClS.sp (by assumption) | exact SlT.sp (by assumption)) (by omega) (by omega)) ?_
 refine Tk 8 5 [] rfl (Jhe sl34 rfl rfl (by first | assumption | exact SlL.sp (by assumption) | exact ClS.sp (by assumption) | exact SlT.sp (by assumption)) (by omega) (by omega)) ?_
 refine To 6 rfl ?_
 refine WS.blkAppend (j:=0) (off:=off) (news:=[]) (m:=0) sl34 rfl hv1 rfl hv2 rfl (by simp) rfl (fun a ha=>absurd ha List.not_mem_nil) (by omega) (by omega) rfl rfl ?_
 refine Wd (Qt ?_)
 refine To 7 rfl ?_
 refine Wz 1 ?_
 refine Wd (Qt ?_)
 refine Te ?_
 refine Qc (Nz 2 ?_)
 refine Wk 1 (Jf0 sl34 rfl ⟨_,_,rfl⟩) ?_
 refine Wk 0 (Jqo sl34 rfl rfl rfl (by omega) (by omega) (by omega) (by omega)) ?_
 refine WS.clearBlk (j:=0) sl34 zv9 rfl rfl (by omega) rfl (by simp [Value.oneCell']) (by simp; omega) rfl ?_
 refine Wd (Qc (Nz 2 ?_))
 refine Wd (Qc (Cr ?_))
 exact out1 rfl rfl (fun u' hu'=>⟨_,rfl,rfl,by
    have hd:xs.dropLast.length=xs.length - 1+0:=by simp
    unfold oT
    rw [hd]
    refine hu'.closeRow (by omega) hcm ?_ ?_
    ·
     simp; omega
    have e1:Ja3 cStr xs.dropLast=(Ja3 cStr xs).take (xs.length - 1):=by rw [Jew,Jew,List.dropLast_eq_take,List.map_take]
    rw [e1, ← hct]
    simp only [show cStr.k=1 from rfl,Nat.mul_one,Nat.add_zero,List.append_nil,List.take_take]
    rw [List.take_append_of_le_length (by simp; omega)]
    rw [List.take_append_of_le_length (by simp; omega)]
    simp [List.take_take]⟩)
theorem Jmq (t0:ByteArray) (c:UInt8) (w:World) (ht:(t0.size:Int)≤1000000) :
  Calls Tryz.prog 18 #[.string t0,.int .u8 c.toNat] w (RetL w (Jab c t0)):=by
 refine enter Tryz.func18 rfl rfl (Nat.le_of_ble_eq_true rfl) ?_
 refine Nz 1 ?_
 refine Wd (Qc (Nz 1 ?_))
 refine Wd (Qc (Nz 1 ?_))
 refine Wd (Qc (Cs (Nz 1 ?_)))
 refine Wd (Qc (Ce ?_))
 refine CS.weak (fun _ hu=>hu.osl0 (e:=9) (size:=1)) ?_
 refine CS.loopM (σ:=Int × Int × Value × List ByteArray) [8,9,10,11,12,13,14,15,16,17,18,19,20,21,22,23,24,25,26,27,28,29,30,31,32,33] (fun s=>[(7,.int .i64 s.1),(6,.int .i64 s.2.1),(5,s.2.2.1)]) (fun s=>[oT cStr 9 s.2.2.1 s.2.2.2]) (fun s=>0≤s.1∧SplitI c t0 s.1 s.2.1 s.2.2.2) (fun s=>(t0.size+1 - s.1).toNat) (0,0,.slice none 0 0,[]) (fun _ _=>rfl) rfl rfl ⟨by simp,SplitI.start c t0⟩ ?_
 intro a t hs
 obtain ⟨ha1,ha2⟩:=hs
 refine Cs (Nz 2 ?_)
 refine Wk 1 (Jau Tryz.underlying9 rfl) ?_
 refine Wd (Qc (CS.cond rfl ?_ ?_))<;>intro hc1<;>try simp only [bq] at hc1
 ·
  have hxl:=ha2.len
  refine Ck (Qc (Cs (Ce (Nz 2 ?_))))
  refine Wk 2 (Jau Tryz.underlying9 rfl) ?_
  refine Wf 0 rfl rfl (fun hg=>Fm) ?_
  refine Wf 0 rfl rfl (fun hg=>Fm) ?_
  refine Wf 0 rfl rfl (fun hg=>Ja5 Tryz.underlying9 (eg_ hg rfl) (eg_ hg rfl) (by (try simp only [bq] at hg); omega) (by (try simp only [bq] at hg); omega)) ?_
  refine Wf 0 rfl rfl (fun hg=>Fm) ?_
  refine Wf 0 rfl rfl (fun hg=>Fq) ?_
  refine Wk 0 Po ?_
  refine Wd (Qc (CS.cond rfl ?_ ?_))<;>intro hc2<;>try simp only [bq] at hc2
  ·
   have hfb:=ha2.bd (show a.1≤t0.size by omega)
   refine Nz 4 ?_
   refine Wk 0 (Jp5 Tryz.underlying9 rfl rfl rfl ⟨hfb.1,hfb.2,by omega⟩) ?_
   refine WS.buildS1 (b:=t0.extract a.2.1.toNat a.1.toNat) sl34 zv9 rfl (fun _=>rfl) ?_; intro v30
   refine WS.appendT1 (j:=1) (jz:=0) sl34 zv9 rfl (by decide) rfl rfl rfl rfl (w:=w) trivial (by omega) (by omega) (fun _=>rfl) (fun _=>rfl) ?_; intro v31 hv31
   refine Wz 1 ?_
   refine Wd (Qc (Ny 1 ?_))
   refine Wk 1 Za ?_
   refine Wd (Qb (Qc (Ny 1 ?_)))
   refine Wk 1 Za ?_
   refine Wd ?_
   refine QS.sel [1] rfl ?_
   exact QS.head ((a.1+1,a.1+1,v31,a.2.2.2++[t0.extract a.2.1.toNat a.1.toNat])) rfl rfl ⟨⟨by simp; omega,(if h:a.1=t0.size then ha2.last h else ha2.hit (by omega) (by omega))⟩,by simp; omega⟩
  refine Ck (Qb (Qc (Ny 1 ?_)))
  refine Wk 1 Za ?_
  exact Wd (QS.head ((a.1+1,a.2.1,a.2.2.1,a.2.2.2)) rfl rfl ⟨⟨by simp; omega,ha2.other (by omega) (by omega)⟩,by simp; omega⟩)
 have hfin:=ha2.fin (by omega)
 refine Cv (Qe (Qe (Qx (Qc (Nz 2 ?_)))))
 refine Wd (Qc (Cr ?_))
 exact out1 rfl rfl (by
   rw [← hfin]
   exact fun u hu=>J4m (j:=0) rfl hu)
theorem Jw5 {t:ByteArray} (h:numB 7 t=none):(numE t).isSome=false:=by unfold numE; rw [h]; rfl
theorem Jvn {t:ByteArray} {n:Int} (h:numB 7 t=some n):(numE t).isSome=decide (n≤1000000):=by
 unfold numE
 rw [h,Option.bind_some]
 by_cases hn:n≤1000000
 ·
  rw [if_pos hn,decide_eq_true hn]; rfl
 rw [if_neg hn,decide_eq_false hn]; rfl
theorem Jmo {t:ByteArray} (h:(numE t).isSome=true):numE t=some ((numB 7 t).getD 0)∧(numB 7 t).isSome=true:=by
 unfold numE at h ⊢
 cases hn:numB 7 t with
 | none=>rw [hn] at h; cases h
 | some n =>
  rw [hn,Option.bind_some] at h
  rw [Option.bind_some]
  split at h
  ·
   rename_i h1; rw [if_pos h1]; exact ⟨rfl,rfl⟩
  cases h
theorem Jkg (t0:ByteArray) (w:World) (ht:(t0.size:Int)≤1000000) :
  Calls Tryz.prog 37 #[.string t0] w (RetB w (.tuple #[.int .i64 ((numB 7 t0).getD 0),.bool (numE t0).isSome])):=by
 refine enter Tryz.func37 rfl rfl (Nat.le_of_ble_eq_true rfl) ?_
 refine Nz 2 ?_
 refine Wd (Qc (Cs (Nz 1 ?_)))
 refine Wk 0 (Jau Tryz.underlying9 rfl) ?_
 refine Wk 2 (Cb rfl rfl J0c (fun u hu=>Jj8 _ _ _ u)) ?_
 refine Wf 0 rfl rfl (fun hg=>Fm) ?_
 refine Wf 0 rfl rfl (fun hg=>Cb rfl (ec_ (eg_ hg rfl) (ec_ rfl en_)) J33 (fun u hu=>Jzz t0 u (by omega))) ?_
 refine Wf 0 rfl rfl (fun hg=>Jeu (eg_ hg rfl) rfl) ?_
 refine Wk 1 Po ?_
 refine Wf 0 rfl rfl (fun hg=>Fm) ?_
 refine Wf 0 rfl rfl (fun hg=>Ja5 Tryz.underlying9 (eg_ hg rfl) rfl (by decide) (by simp at hg; omega)) ?_
 refine Wf 0 rfl rfl (fun hg=>Fq) ?_
 refine Wf 0 rfl rfl (fun hg=>Fm (eg_ hg rfl)) ?_
 refine Wn 0 rfl rfl rfl (fun hg=>Fm) ?_
 refine Wn 0 rfl rfl rfl (fun hg=>Jeu (eg_ hg rfl) rfl) ?_
 refine Wf 0 rfl rfl (fun hg=>Jcj (eg_ hg rfl) (Jiz hg rfl) rfl) ?_
 refine Wk 0 Po ?_
 refine Wd (Qc (CS.cond rfl ?_ ?_))<;>intro hc1<;>try simp only [bq] at hc1
 ·
  have hno:numB 7 t0=none:=by
   cases hd:Jbm t0 7 with
   | false=>exact Jj9 (.inl hd)
   | true =>
    have hd2:=Jwy hd
    have ht2:seq ⟨(Lib.trimS (bl t0) decL).toArray⟩ ⟨#[]⟩=true:=(Jmy t0).trans (Jyk hd)
    rw [ht2] at hc1
    have h2:byt t0 0=48∧seq t0 ⟨#[48]⟩=false:=by
     have h9:=hc1
     (try simp at h9)
     rcases h9 with h9 | h9
     ·
      omega
     exact h9
    refine Jj9 (.inr ⟨h2.1,?_⟩)
    have h3:=Jmb h2.1 hd2.1
    rw [h2.2] at h3
    simpa using h3.symm
  refine Nz 2 ?_
  exact Wd (Qc (Cr (Qr (out2 rfl rfl rfl (Jad (by rw [hno,Jw5 hno]; rfl))))))
 have hd:Jbm t0 7=true:=by
  have h9:=hc1
  (try simp at h9)
  unfold Jbm
  rw [← Jmy]
  simp
  grind
 have hyes:numB 7 t0=some (numL (bl t0)):=Jp8 hd fun h=>by
  have h3:=Jmb h (Jwy hd).1
  have h9:=hc1
  rw [h3] at h9
  (try simp [h] at h9)
  omega
 refine Ck (Qc (Nz 1 ?_))
 refine Wk 5 (Cb rfl rfl J4g (fun u hu=>J00 t0 u (most:=7) hd (by decide))) ?_
 refine Wd (Qc (Nz 2 ?_))
 refine Wk 1 (Jk8 (by kernel_rfl) rfl) ?_
 refine Wt 0 rfl rfl (fun hg=>Fm) ?_
 refine Wt 0 rfl rfl (fun hg=>Fk) ?_
 refine Wk 2 Pa ?_
 exact Wd (Qc (Cr (out2 rfl rfl rfl (Jad (by rw [hyes,Jvn hyes]; simp)))))
theorem J1a (b:Nat) (w:World) :
  Calls Tryz.prog 234 #[.pointer (some ⟨b,0,none⟩)] w (Jlb 78 w b [2,3,4]):=by
 refine enter Tryz.func234 rfl rfl (Nat.le_of_ble_eq_true rfl) ?_
 refine Nz 1 ?_
 refine Wd (Qc (Cs ?_))
 refine CS.drawnAll (k:=14) mixed rfl rfl ?_
 refine Ar [0,1,2,3,4,5,6,7,8,9,10,11] ?_
 refine Ao 12 rfl ?_
 refine WS.buildSlice1 (pl:=[(0,.tmp 6),(1,.tmp 10),(2,.tmp 14)]) (vs:=ptrL b [2,3,4]) sl76 (show zv Tryz.prog 78=some [.pointer none] by kernel_rfl) rfl rfl (by decide) (Jim b [2,3,4]) (fun _=>rfl) ?_; intro v15; refine WS.oc (j:=0) rfl (fun hv15=>?_)
 refine Wd (Qa ?_)
 refine Ar [13] ?_
 refine Ae ?_
 exact Qc (Cr (out1 rfl rfl (fun u hu=>Jr1 rfl hv15 (j:=0) rfl hu)))
theorem J1s (b:Nat) (w:World) :
  Calls Tryz.prog 235 #[.pointer (some ⟨b,0,none⟩)] w (Jlb 78 w b [5]):=by
 refine enter Tryz.func235 rfl rfl (Nat.le_of_ble_eq_true rfl) ?_
 refine Nz 1 ?_
 refine Wd (Qc (Nz 3 ?_))
 refine WS.buildSlice1 (pl:=[(0,.tmp 5)]) (vs:=ptrL b [5]) sl76 (show zv Tryz.prog 78=some [.pointer none] by kernel_rfl) rfl rfl (by decide) (Jim b [5]) (fun _=>rfl) ?_; intro v6; refine WS.oc (j:=0) rfl (fun hv6=>?_)
 refine Wz 1 ?_
 exact Wd (Qc (Cr (out1 rfl rfl (fun u hu=>Jr1 rfl hv6 (j:=0) rfl hu))))
theorem J1w (b:Nat) (w:World) :
  Calls Tryz.prog 236 #[.pointer (some ⟨b,0,none⟩)] w (Jlb 78 w b []):=by
 refine enter Tryz.func236 rfl rfl (Nat.le_of_ble_eq_true rfl) ?_
 refine Nz 1 ?_
 refine Wd (Qc (Nz 1 ?_))
 exact Wd (Qc (Cr (out1 rfl rfl (fun u hu=>Jr1 (os:=[]) (os':=[]) (L:=[osl 78 1 (.slice none 0 0) 0 []]) rfl rfl (j:=0) rfl (hu.osl0 (e:=78) (size:=1))))))
theorem Jzv (b:Nat) (w:World) :
  Calls Tryz.prog 237 #[.pointer (some ⟨b,0,none⟩)] w (Jlb 78 w b []):=by
 refine enter Tryz.func237 rfl rfl (Nat.le_of_ble_eq_true rfl) ?_
 refine Nz 1 ?_
 refine Wd (Qc (Nz 1 ?_))
 exact Wd (Qc (Cr (out1 rfl rfl (fun u hu=>Jr1 (os:=[]) (os':=[]) (L:=[osl 78 1 (.slice none 0 0) 0 []]) rfl rfl (j:=0) rfl (hu.osl0 (e:=78) (size:=1))))))
theorem J0b (b:Nat) (w:World) :
  Calls Tryz.prog 238 #[.pointer (some ⟨b,0,none⟩)] w (Jlb 78 w b [5,6]):=by
 refine enter Tryz.func238 rfl rfl (Nat.le_of_ble_eq_true rfl) ?_
 refine Nz 1 ?_
 refine Wd (Qc (Cs ?_))
 refine CS.drawnAll (k:=8) mixed rfl rfl ?_
 refine Ar [0,1,2,3,4,5] ?_
 refine Ao 6 rfl ?_
 refine WS.buildSlice1 (pl:=[(0,.tmp 5),(1,.tmp 8)]) (vs:=ptrL b [5,6]) sl76 (show zv Tryz.prog 78=some [.pointer none] by kernel_rfl) rfl rfl (by decide) (Jim b [5,6]) (fun _=>rfl) ?_; intro v9; refine WS.oc (j:=0) rfl (fun hv9=>?_)
 refine Wd (Qa ?_)
 refine Ar [7] ?_
 refine Ae ?_
 exact Qc (Cr (out1 rfl rfl (fun u hu=>Jr1 rfl hv9 (j:=0) rfl hu)))
def fnE (k:Int):FuncId:=if k=1 then 234 else if k=2 then 235 else if k=3 then 236 else if k=4 then 237 else 238
def wdV (k:Int):ByteArray:=if inK k=true then kwE k else ⟨#[]⟩
def fnV (k:Int):Value:=if inK k=true then .func (.func (fnE k)) #[] #[] else .nilFunc
theorem Jxs (k:Int):(fnV k).oneCell'=true:=by unfold fnV; split <;> rfl
theorem J27 {k:Int} (h:inK k=true) (b:Nat) (w:World):Calls Tryz.prog (fnE k) #[.pointer (some ⟨b,0,none⟩)] w (Jlb 78 w b (offE k)):=by
 rcases Jkn h with rfl | rfl | rfl | rfl | rfl
 ·
  exact J1a b w
 ·
  exact J1s b w
 ·
  exact J1w b w
 ·
  exact Jzv b w
 exact J0b b w
theorem entE {k:Int} (h:inK k=true):Ent Tryz.prog (fnE k):=by
 rcases Jkn h with rfl | rfl | rfl | rfl | rfl
 ·
  exact J17
 ·
  exact J2y
 ·
  exact Jzt
 ·
  exact J09
 exact J0s
structure ShpOk (w:World) (m:Nat) (es:List MapEntry) (c:Nat):Prop where
 cell:w.cell? ⟨0,0,none⟩=some (.map (some m))
 at_:MapW w m es c
 has:∀ e∈es,∃ k,inK k=true∧e.key = .int .i64 k∧e.val = .agg #[.string (kwE k),.func (.func (fnE k)) #[] #[]]
 all:∀ k,inK k=true→∃ e∈es,e.key = .int .i64 k
theorem ShpOk.ext {w u:World} {m:Nat} {es:List MapEntry} {c:Nat} (h:ShpOk w m es c) (hb:Below w.heap.size w u):ShpOk u m es c:=⟨Jcs hb (Nat.le_refl _) h.cell,h.at_.ext hb,h.has,h.all⟩
theorem ShpOk.st {w u:World} {L:List SA} {m:Nat} {es:List MapEntry} {c:Nat} (h:ShpOk w m es c) (hu:St w.heap.size w L u):ShpOk u m es c:=h.ext hu.below
theorem ShpOk.key {w:World} {m:Nat} {es:List MapEntry} {c:Nat} (h:ShpOk w m es c):∀ e∈es,∃ q,e.key = .int .i64 q:=fun e he=>let ⟨k,_,h2,_⟩:=h.has e he; ⟨k,h2⟩
theorem ShpOk.look {w:World} {m:Nat} {es:List MapEntry} {c:Nat} (h:ShpOk w m es c) (k:Int) :
  (inK k=true∧(∃ e∈es,e.key = .int .i64 k)∧∀ e∈es,e.key = .int .i64 k→e.val = .agg #[.string (wdV k),fnV k])∨(inK k=false∧(∀ e∈es,e.key ≠ .int .i64 k)∧zo Tryz.prog 71=some (.agg #[.string (wdV k),fnV k])):=by
 cases hk:inK k with
 | true =>
  refine .inl ⟨rfl,h.all k hk,fun e he ek=>?_⟩
  obtain ⟨q,h1,h2,h3⟩:=h.has e he
  rw [h2] at ek
  obtain rfl:q=k:=by injection ek
  rw [h3]
  unfold wdV fnV
  rw [if_pos hk,if_pos hk]
 | false =>
  refine .inr ⟨rfl,fun e he ek=>?_,?_⟩
  ·
   obtain ⟨q,h1,h2,h3⟩:=h.has e he
   rw [h2] at ek
   obtain rfl:q=k:=by injection ek
   rw [hk] at h1; cases h1
  unfold wdV fnV
  rw [if_neg (by rw [hk]; decide),if_neg (by rw [hk]; decide)]
  kernel_rfl
theorem tkF:tk Tryz.prog 69=some (false,1):=by kernel_rfl
theorem tkU:tk Tryz.prog 73=some (false,1):=by kernel_rfl
theorem mapU:Tryz.prog.underlying 73=some (.map 3 71):=Tryz.underlying73
theorem St.tailUnpack {n0:Nat} {w0 u:World} {A:SA} {Ls:List SA} (h:St n0 w0 [A,Go.Proofs.YtfbfdnoodccgiaaGreatDoor.star Ls] u):St n0 w0 (A::Ls) u:=by
 have h1:St n0 w0 (Ls++[A]) u:=St.unpack (h.perm (.swap _ _ _))
 exact h1.perm (List.perm_append_comm (l₁:=Ls) (l₂:=[A]))
theorem St.oneUnpack {n0:Nat} {w0 u:World} {Ls:List SA} (h:St n0 w0 [Go.Proofs.YtfbfdnoodccgiaaGreatDoor.star Ls] u):St n0 w0 Ls u:=by
 have h1:St n0 w0 (Ls++[]) u:=St.unpack h
 rwa [List.append_nil] at h1
theorem RetX.ls {β:Type} {w u:World} {Ls:List SA} {ch:List PanicEntry} {p:β→Prop} {q:Prop} {v:β→Value} {A:β→SA} {f:FuncId} {args:Array Value} (h:Calls Tryz.prog f args u (RetX w (star Ls) ch p q v A)) :
  Calls Tryz.prog f args u (fun e u'=>(∃ x,p x∧e = .returned (v x)∧St w.heap.size w (A x::Ls) u')∨(q∧e = .panicked ch∧St w.heap.size w Ls u')):=by
 refine h.mono ?_
 rintro e u' (⟨x,h1,h2,h3⟩ | ⟨h1,h2,h3⟩)
 ·
  exact .inl ⟨x,h1,h2,h3.tailUnpack⟩
 exact .inr ⟨h1,h2,h3.oneUnpack⟩
end Go.Proofs.YtfbfdnoodccgiaaGreatDoor
