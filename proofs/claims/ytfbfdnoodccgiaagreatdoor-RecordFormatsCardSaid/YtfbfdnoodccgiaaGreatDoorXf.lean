/- Merged texts of this proof (walks and plain laws), printed by a program of the prover. -/
import Derived.Test.YtfbfdnoodccgiaaGreatDoorZb2
import Derived.Shelf.Strings.SlTrimAscii
import Derived.Lib.AppendIntMem
import Derived.Test.YtfbfdnoodccgiaaGreatDoorZb
import Derived.Test.YtfbfdnoodccgiaaGreatDoorShelf
import Derived.Test.YtfbfdnoodccgiaaGreatDoorZc
import Derived.Test.YtfbfdnoodccgiaaGreatDoorXb
set_option maxHeartbeats 8000000
namespace Go.Proofs.YtfbfdnoodccgiaaGreatDoor
open Go.RowKit Go.Proofs
set_option maxRecDepth 100000
set_option linter.unusedVariables false
set_option linter.unusedSimpArgs false
def MaxOk (w:World):Prop:=∃ m:Int,w.cell? ⟨1,0,none⟩=some (.int .i64 m)
theorem MaxOk.ext {w u:World} (h:MaxOk w) (hb:Below w.heap.size w u):MaxOk u:=let ⟨m,e⟩:=h; ⟨m,Jb9 hb (Nat.le_refl _) e⟩
theorem MaxOk.st {w u:World} {L:List SA} (h:MaxOk w) (hu:St w.heap.size w L u):MaxOk u:=h.ext hu.below
theorem J0m (c:UInt8) (tx:ByteArray) (w:World) (hM:MaxOk w) (hs:tx.size < 4294967281) :
  Calls Tryz.prog 36 #[.string tx,.string ⟨#[c]⟩] w (RetL w (Jad c tx)):=by
 obtain ⟨m,hm⟩:=hM
 refine (Tryz.strings_Split tx ⟨#[c]⟩ m w hs hm (show 1≤1 by decide)).mono ?_
 rintro e w' ⟨rfl,rfl⟩
 rw [Jic,Jh1]
 exact Jp4 (by have:=Jde c tx; omega)
theorem J2i (tx:ByteArray) (w:World) (hs:tx.size≤9223372036854775807) :
  Calls Tryz.prog 50 #[.string tx,.string ⟨#[48,49,50,51,52,53,54,55,56,57]⟩] w (RetB w (.string ⟨(Lib.trimS (bl tx) decL).toArray⟩)) :=
 Any.strings_Trim_laid Tryz.lays160 (by kernel_rfl) tx ⟨#[48,49,50,51,52,53,54,55,56,57]⟩ w hs (by decide) (ascii_of_all (by decide))
theorem J3r (tx:ByteArray) {most:Int} (w:World) (h:Jbx tx most=true) (hm:most≤18) :
  Calls Tryz.prog 51 #[.string tx] w (RetB w (.tuple #[.int .i64 (numL (bl tx)),.nilIface])):=by
 have h1:tx.size≤18:=by simp only [Jbx,Bool.and_eq_true,decide_eq_true_eq] at h; omega
 refine (Tryz.strconv_Atoi tx _ h1 (Jvf h) w).mono ?_
 rintro e w' ⟨rfl,t,rfl⟩
 exact ⟨rfl,Lib.bytesWorld_below _ _ _⟩
theorem J32 (s:Sl ByteArray) (w:World) (hk:SlT cStr w s) (hp:0 < s.l.length) {n:Nat} (hb:∀ x∈s.l,x.size≤n) (hn:(n+1) * s.l.length≤140737488355328) (hm:s.l.length≤1000000) :
  Calls Tryz.prog 24 #[s.v,.string ⟨#[32]⟩] w (RetB w (.string (jnB s.l))):=by
 obtain ⟨b,o,c,e,h1,h2,h3⟩:=Jpu hk hp
 have hj:=Jne hb
 have q:=Tryz.strings_Join b o c s.l ⟨#[32]⟩ w h3 h2 (by omega) h1 (Nat.le_trans hj hn)
 rw [← e] at q
 refine q.mono ?_
 rintro e' w' ⟨rfl,h4⟩
 exact ⟨rfl,h4⟩
theorem Jr8 (n:Int) (h:0≤n∧n≤1000000000) (w:World) (ht:Lib.TabIs Tryz.prog w "internal/strconv.uint64pow10" .u64 Lib.pow10Tab):Calls Tryz.prog 22 #[.int .i64 n] w (RetB w (.string (digB n))):=by
 refine (Tryz.strconv_Itoa n (by omega) (by omega) w ht).mono ?_
 rintro e w' ⟨rfl,k,os,rfl⟩
 refine ⟨?_,Lib.below_grow _ _ (Nat.le_refl _) _ _⟩
 have e1:Lib.itoa n=Lib.decDigits n.toNat:=if_neg (by omega)
 rw [e1]; rfl
theorem J01 {w u:World} {L:List SA} (h:Lib.TabIs Tryz.prog w "internal/strconv.uint64pow10" .u64 Lib.pow10Tab) (hu:St w.heap.size w L u):Lib.TabIs Tryz.prog u "internal/strconv.uint64pow10" .u64 Lib.pow10Tab:=Lib.tabBelow_of_tabIs h u hu.below
theorem J59 (c:UInt8) (tx:ByteArray) (w:World) (hM:MaxOk w) (hs:tx.size < 4294967281) :
  Calls Tryz.prog 34 #[.string tx,.string ⟨#[c]⟩,.int .i64 1,.int .i64 (-1)] w (fun e w'=>∃ v':Value,v'.oneCell'=true∧RetF w v' (oT cStr 9 v' (aftS c tx)) e w'):=by
 obtain ⟨m,hm⟩:=hM
 have hle:=Lib.countB_le ⟨#[c]⟩ (show 1≤1 by decide) tx.size tx (Nat.le_refl _)
 have q:=Tryz.strings_genSplit tx ⟨#[c]⟩ 1 (-1) (Lib.countB tx ⟨#[c]⟩+1) m w hs hm (show 1≤1 by decide) (show 1≤1 by decide) (by decide) (by decide) (by rw [if_pos (by decide)]; omega)
 rw [Nat.add_sub_cancel,Jk5] at q
 have hl:(aftS c tx).length=Lib.countB tx ⟨#[c]⟩+1:=by rw [Jiz,Jh1]
 have hc:Lib.cellsOf (aftS c tx) (Lib.countB tx ⟨#[c]⟩+1)=((aftS c tx).map Value.string).toArray:=by rw [← hl]; exact Lib.cellsOf_full _
 rw [hc, ← hl] at q
 refine q.mono ?_
 rintro e w' ⟨rfl,rfl⟩
 have h2:=(St.nil (w:=w)).alloc ((aftS c tx).map Value.string) 9
 have h3:=h2.closeRow (k:=1) (n:=(aftS c tx).length) (cap:=(aftS c tx).length) (Nat.le_refl _) (by rw [Jiz]; have:=Jde c tx; omega) (by simp) (xs:=Ja5 cStr (aftS c tx)) (by rw [Jen,List.take_of_length_le (by simp)])
 exact ⟨_,rfl,retF (L:=[oT cStr 9 _ (aftS c tx)]) (j:=0) rfl _ h3⟩
theorem Jx9 (c:UInt8) (t:ByteArray) (w:World) (ht:t.size≤1000000) :
  Calls Tryz.prog 16 #[.string t,.string ⟨#[c]⟩] w (RetB w (.tuple #[.string ⟨(Lib.trimSuffix (bl t) [c]).toArray⟩,.bool (Lib.hasSuffix (bl t) [c])])):=by
 refine (Tryz.strings_CutSuffix t ⟨#[c]⟩ w (by omega)).mono ?_
 rintro e w' ⟨rfl,rfl⟩
 exact ⟨rfl,Below.refl _ _⟩
theorem Jtv (c:UInt8) (t:ByteArray):Lib.hasSuffix (bl (t++(⟨#[c]⟩:ByteArray))) [c]=true∧(⟨(Lib.trimSuffix (bl (t++(⟨#[c]⟩:ByteArray))) [c]).toArray⟩:ByteArray)=t:=by
 have e:bl (t++(⟨#[c]⟩:ByteArray))=bl t++[c]:=by simp [Jfb,Jth]
 have h:Lib.hasSuffix (bl t++[c]) [c]=true:=by simp [Lib.hasSuffix]
 rw [e]
 refine ⟨h,Jjs ?_⟩
 rw [Jth,Lib.trimSuffix,if_pos h]
 simp
theorem J14 {c:UInt8} {t:ByteArray} (h:c ∉ bl t):Lib.hasSuffix (bl t) [c]=false:=by
 cases hq:Lib.hasSuffix (bl t) [c] with
 | false=>rfl
 | true =>
  have:[c] <:+ bl t:=by simpa [Lib.hasSuffix] using hq
  exact absurd (this.subset (by simp)) h
theorem J0p (c:UInt8) (tx:ByteArray) (w:World) (hM:MaxOk w) (hs:tx.size < 4294967281) :
  Calls Tryz.prog 14 #[.string tx,.string ⟨#[c]⟩] w (fun e w'=>∃ v':Value,v'.oneCell'=true∧RetF w v' (oT cStr 9 v' (aftS c tx)) e w'):=by
 refine enter Tryz.func14 rfl rfl (Nat.le_of_ble_eq_true rfl) ?_
 refine Nz 1 ?_
 refine Wd (Qc (Nz 3 ?_))
 refine Wk 0 (Jbe Tryz.underlying9 rfl) ?_
 refine Wc rfl rfl J5s (fun u hu=>J59 c tx u (hM.st hu) hs) (fun _=>rfl) ?_; intro v9 hv9
 refine Wz 1 ?_
 exact Wd (Qc (Cr (out1 rfl rfl (fun u hu=>⟨_,hv9,retF (j:=0) rfl u hu⟩))))
theorem Jr9 {n0:Nat} {w0 u:World} (R:List SA) (xs:List ByteArray) (v:Value) (hu:St n0 w0 (oT cStr 9 v xs::R) u) (h0:0 < xs.length) (hm:xs.length≤1000000) :
  Calls Tryz.prog 15 #[v,.int .i64 (xs.length - 1),.int .i64 xs.length] u (fun e u'=>∃ v':Value,v'.oneCell'=true∧e = .returned v'∧St n0 w0 (oT cStr 9 v' xs.dropLast::R) u'):=by
 have hsp:SlC u v xs.length 1 (Ja5 cStr xs):=Jb1 hu (j:=0) rfl
 obtain ⟨b,cap,cur,rfl,hcc,hcm,hcl,hct,hu⟩:=hu.openRow (by omega)
 obtain ⟨off,hoff⟩:∃ off,off=if cap=xs.length then 0 else xs.length:=⟨_,rfl⟩
 have hcl1:cur.length=cap:=by rw [hcl]; exact Nat.mul_one _
 have hv1:sub2 1 (.slice (some ⟨b,0,none⟩) xs.length cap) 0 ((xs.length:Int) - 1).toNat = .slice (some ⟨b,0,none⟩) (xs.length - 1) cap:=by
  have e:((xs.length:Int) - 1).toNat=xs.length - 1:=by omega
  rw [e]; simp [sub2,Jbb]
 have hv2:sub2 1 (.slice (some ⟨b,0,none⟩) xs.length cap) ((xs.length:Nat):Int).toNat xs.length = .slice (some ⟨b,off,none⟩) 0 (cap - xs.length):=by
  rw [hoff,Int.toNat_natCast]; simp only [sub2,Option.map_some,Jbb,Nat.zero_add]; split <;> simp
 refine Jd9 hu Tryz.func15 rfl rfl (Nat.le_of_ble_eq_true rfl) ?_
 refine Nz 1 ?_
 refine Wd (Qc (Nz 4 ?_))
 refine Wk 0 (Jgq sl34 rfl ⟨_,_,rfl⟩) ?_
 refine Wk 0 (Jmg sl34 rfl rfl rfl rfl (by first | assumption | exact SlL.sp (by assumption) | exact ClS.sp (by assumption) | exact SlT.sp (by assumption)) (by omega) (by omega) (by omega) (by omega)) ?_
 refine Wd (Qc (Cs (Nz 3 ?_)))
 refine Wd (Qc (CS.cond rfl ?_ ?_))<;>intro hc1<;>try simp only [bq] at hc1
 ·
  omega
 refine Ck (Qc (Nz 1 ?_))
 refine Wk 1 (Jgq sl34 rfl ⟨_,_,rfl⟩) ?_
 refine Wd (Qc (Cs ?_))
 refine CS.drawnTill 6 (k:=8) mixed rfl rfl ?_
 refine Tr 8 [0,1] ?_
 refine Tk 8 2 [3,4] rfl (Jdi sl34 rfl rfl (by first | assumption | exact SlL.sp (by assumption) | exact ClS.sp (by assumption) | exact SlT.sp (by assumption)) (by omega) (by omega)) ?_
 refine Tk 8 5 [] rfl (Jpa sl34 rfl rfl (by first | assumption | exact SlL.sp (by assumption) | exact ClS.sp (by assumption) | exact SlT.sp (by assumption)) (by omega) (by omega)) ?_
 refine To 6 rfl ?_
 refine WS.blkAppend (j:=0) (off:=off) (news:=[]) (m:=0) sl34 rfl hv1 rfl hv2 rfl (by simp) rfl (fun a ha=>absurd ha List.not_mem_nil) (by omega) (by omega) rfl rfl ?_
 refine Wd (Qt ?_)
 refine To 7 rfl ?_
 refine Wz 1 ?_
 refine Wd (Qt ?_)
 refine Te ?_
 refine Qc (Nz 2 ?_)
 refine Wk 1 (Jgq sl34 rfl ⟨_,_,rfl⟩) ?_
 refine Wk 0 (Jsz sl34 rfl rfl rfl (by omega) (by omega) (by omega) (by omega)) ?_
 refine WS.clearBlk (j:=0) sl34 zv9 rfl rfl (by omega) rfl (by simp [Value.oneCell']) (by simp; omega) rfl ?_
 refine Wd (Qc (Nz 2 ?_))
 refine Wd (Qc (Cr ?_))
 exact out1 rfl rfl (fun u' hu'=>⟨_,rfl,rfl,by
    have hd:xs.dropLast.length=xs.length - 1+0:=by simp
    unfold oT
    rw [hd]
    refine hu'.closeRow (by omega) hcm ?_ ?_
    ·
     simp; omega
    have e1:Ja5 cStr xs.dropLast=(Ja5 cStr xs).take (xs.length - 1):=by rw [Jen,Jen,List.dropLast_eq_take,List.map_take]
    rw [e1, ← hct]
    simp only [show cStr.k=1 from rfl,Nat.mul_one,Nat.add_zero,List.append_nil,List.take_take]
    rw [List.take_append_of_le_length (by simp; omega)]
    rw [List.take_append_of_le_length (by simp; omega)]
    simp [List.take_take]⟩)
theorem J1v (m:Nat):∀ (n:Int) (w:World),n.toNat≤m→0≤n∧n≤1000000 →
  Calls Tryz.prog 29 #[.int .i64 n] w (RetB w (.string (digB n))):=by
 refine Nat.strongRecOn (motive:=fun m=>∀ (n:Int) (w:World),n.toNat≤m→0≤n∧n≤1000000→Calls Tryz.prog 29 #[.int .i64 n] w (RetB w (.string (digB n)))) m ?_
 intro m ih n w hm h
 have hs1:=Jqx (n / 10)
 have hs2:=Jqx (n % 10)
 refine enter Tryz.func29 rfl rfl (Nat.le_of_ble_eq_true rfl) ?_
 refine Nz 1 ?_
 refine Wd (Qc (Nz 1 ?_))
 refine Wk 1 (Jle rfl rfl (by omega) (by omega)) ?_
 refine Wk 0 (Jle rfl rfl (by omega) (by omega)) ?_
 refine Wk 0 Za ?_
 refine Wk 1 (Jrp Tryz.underlying9 rfl rfl rfl (by show _∧_∧_≤((10:Nat):Int); omega)) ?_
 refine Wd (Qc (Cs (Nz 2 ?_)))
 refine Wd (Qc (CS.cond rfl ?_ ?_))<;>intro hc1<;>try simp only [bq] at hc1
 ·
  refine Nz 2 ?_
  exact Wd (Qc (Cr (Qr (out1 rfl rfl (Jac (by rw [Jl1 (by omega),show n % 10=n by omega]))))))
 refine Ck (Qc (Nz 1 ?_))
 refine Wk 0 (Jz3 rfl rfl (by omega) (by omega) (by omega)) ?_
 refine Wk 1 (Cb rfl rfl Jy3 (fun u hu=>ih (n / 10).toNat (by omega) (n / 10) u (Nat.le_refl _) (by omega))) ?_
 refine Wk 1 (Jc1 rfl rfl (by rw [Jl1 (by omega)]; omega)) ?_
 exact Wd (Qc (Cr (out1 rfl rfl (Jac (by rw [Jl1 (by omega), ← Jqo (by omega)])))))
theorem J05 {t:ByteArray} (h:numB 7 t=none):(numE t).isSome=false:=by unfold numE; rw [h]; rfl
theorem Jvl {t:ByteArray} {n:Int} (h:numB 7 t=some n):(numE t).isSome=decide (n≤1000000):=by
 unfold numE
 rw [h,Option.bind_some]
 by_cases hn:n≤1000000
 ·
  rw [if_pos hn,decide_eq_true hn]; rfl
 rw [if_neg hn,decide_eq_false hn]; rfl
theorem Jn8 {t:ByteArray} (h:(numE t).isSome=true):numE t=some ((numB 7 t).getD 0)∧(numB 7 t).isSome=true:=by
 unfold numE at h ⊢
 cases hn:numB 7 t with
 | none=>rw [hn] at h; cases h
 | some n =>
  rw [hn,Option.bind_some] at h
  rw [Option.bind_some]
  split at h
  ·
   rename_i h1; rw [if_pos h1]; exact ⟨rfl,rfl⟩
  cases h
theorem Jjo (t0:ByteArray) (w:World) (ht:(t0.size:Int)≤1000000) :
  Calls Tryz.prog 37 #[.string t0] w (RetB w (.tuple #[.int .i64 ((numB 7 t0).getD 0),.bool (numE t0).isSome])):=by
 refine enter Tryz.func37 rfl rfl (Nat.le_of_ble_eq_true rfl) ?_
 refine Nz 2 ?_
 refine Wd (Qc (Cs (Nz 1 ?_)))
 refine Wk 0 (Jbe Tryz.underlying9 rfl) ?_
 refine Wk 2 (Cb rfl rfl Jxu (fun u hu=>Jff _ _ _ u)) ?_
 refine Wf 0 rfl rfl (fun hg=>Fm) ?_
 refine Wf 0 rfl rfl (fun hg=>Cb rfl (ec_ (eg_ hg rfl) (ec_ rfl en_)) J5j (fun u hu=>J2i t0 u (by omega))) ?_
 refine Wf 0 rfl rfl (fun hg=>Jfa (eg_ hg rfl) rfl) ?_
 refine Wk 1 Po ?_
 refine Wf 0 rfl rfl (fun hg=>Fm) ?_
 refine Wf 0 rfl rfl (fun hg=>Jcj Tryz.underlying9 (eg_ hg rfl) rfl (by decide) (by simp at hg; omega)) ?_
 refine Wf 0 rfl rfl (fun hg=>Fq) ?_
 refine Wf 0 rfl rfl (fun hg=>Fm (eg_ hg rfl)) ?_
 refine Wn 0 rfl rfl rfl (fun hg=>Fm) ?_
 refine Wn 0 rfl rfl rfl (fun hg=>Jfa (eg_ hg rfl) rfl) ?_
 refine Wf 0 rfl rfl (fun hg=>Jc0 (eg_ hg rfl) (Jm9 hg rfl) rfl) ?_
 refine Wk 0 Po ?_
 refine Wd (Qc (CS.cond rfl ?_ ?_))<;>intro hc1<;>try simp only [bq] at hc1
 ·
  have hno:numB 7 t0=none:=by
   cases hd:Jbx t0 7 with
   | false=>exact Jx3 (.inl hd)
   | true =>
    have hd2:=Jyx hd
    have ht2:seq ⟨(Lib.trimS (bl t0) decL).toArray⟩ ⟨#[]⟩=true:=(Jog t0).trans (J00 hd)
    rw [ht2] at hc1
    have h2:byt t0 0=48∧seq t0 ⟨#[48]⟩=false:=by
     have h9:=hc1
     (try simp at h9)
     rcases h9 with h9 | h9
     ·
      omega
     exact h9
    refine Jx3 (.inr ⟨h2.1,?_⟩)
    have h3:=Jnk h2.1 hd2.1
    rw [h2.2] at h3
    simpa using h3.symm
  refine Nz 2 ?_
  exact Wd (Qc (Cr (Qr (out2 rfl rfl rfl (Jac (by rw [hno,J05 hno]; rfl))))))
 have hd:Jbx t0 7=true:=by
  have h9:=hc1
  (try simp at h9)
  unfold Jbx
  rw [← Jog]
  simp
  grind
 have hyes:numB 7 t0=some (numL (bl t0)):=Jq7 hd fun h=>by
  have h3:=Jnk h (Jyx hd).1
  have h9:=hc1
  rw [h3] at h9
  (try simp [h] at h9)
  omega
 refine Ck (Qc (Nz 1 ?_))
 refine Wk 5 (Cb rfl rfl J53 (fun u hu=>J3r t0 u (most:=7) hd (by decide))) ?_
 refine Wd (Qc (Nz 2 ?_))
 refine Wk 1 (Jl8 (by kernel_rfl) rfl) ?_
 refine Wt 0 rfl rfl (fun hg=>Fm) ?_
 refine Wt 0 rfl rfl (fun hg=>Fk) ?_
 refine Wk 2 Pa ?_
 exact Wd (Qc (Cr (out2 rfl rfl rfl (Jac (by rw [hyes,Jvl hyes]; simp)))))
theorem J21 (b:Nat) (w:World) :
  Calls Tryz.prog 234 #[.pointer (some ⟨b,0,none⟩)] w (Jmz 78 w b [2,3,4]):=by
 refine enter Tryz.func234 rfl rfl (Nat.le_of_ble_eq_true rfl) ?_
 refine Nz 1 ?_
 refine Wd (Qc (Cs ?_))
 refine CS.drawnAll (k:=14) mixed rfl rfl ?_
 refine Ar [0,1,2,3,4,5,6,7,8,9,10,11] ?_
 refine Ao 12 rfl ?_
 refine WS.buildSlice1 (pl:=[(0,.tmp 6),(1,.tmp 10),(2,.tmp 14)]) (vs:=ptrL b [2,3,4]) sl76 (show zv Tryz.prog 78=some [.pointer none] by kernel_rfl) rfl rfl (by decide) (Jiv b [2,3,4]) (fun _=>rfl) ?_; intro v15; refine WS.oc (j:=0) rfl (fun hv15=>?_)
 refine Wd (Qa ?_)
 refine Ar [13] ?_
 refine Ae ?_
 exact Qc (Cr (out1 rfl rfl (fun u hu=>Juc rfl hv15 (j:=0) rfl hu)))
theorem J3u (b:Nat) (w:World) :
  Calls Tryz.prog 235 #[.pointer (some ⟨b,0,none⟩)] w (Jmz 78 w b [5]):=by
 refine enter Tryz.func235 rfl rfl (Nat.le_of_ble_eq_true rfl) ?_
 refine Nz 1 ?_
 refine Wd (Qc (Nz 3 ?_))
 refine WS.buildSlice1 (pl:=[(0,.tmp 5)]) (vs:=ptrL b [5]) sl76 (show zv Tryz.prog 78=some [.pointer none] by kernel_rfl) rfl rfl (by decide) (Jiv b [5]) (fun _=>rfl) ?_; intro v6; refine WS.oc (j:=0) rfl (fun hv6=>?_)
 refine Wz 1 ?_
 exact Wd (Qc (Cr (out1 rfl rfl (fun u hu=>Juc rfl hv6 (j:=0) rfl hu))))
theorem J44 (b:Nat) (w:World) :
  Calls Tryz.prog 236 #[.pointer (some ⟨b,0,none⟩)] w (Jmz 78 w b []):=by
 refine enter Tryz.func236 rfl rfl (Nat.le_of_ble_eq_true rfl) ?_
 refine Nz 1 ?_
 refine Wd (Qc (Nz 1 ?_))
 exact Wd (Qc (Cr (out1 rfl rfl (fun u hu=>Juc (os:=[]) (os':=[]) (L:=[osl 78 1 (.slice none 0 0) 0 []]) rfl rfl (j:=0) rfl (hu.osl0 (e:=78) (size:=1))))))
theorem J3s (b:Nat) (w:World) :
  Calls Tryz.prog 237 #[.pointer (some ⟨b,0,none⟩)] w (Jmz 78 w b []):=by
 refine enter Tryz.func237 rfl rfl (Nat.le_of_ble_eq_true rfl) ?_
 refine Nz 1 ?_
 refine Wd (Qc (Nz 1 ?_))
 exact Wd (Qc (Cr (out1 rfl rfl (fun u hu=>Juc (os:=[]) (os':=[]) (L:=[osl 78 1 (.slice none 0 0) 0 []]) rfl rfl (j:=0) rfl (hu.osl0 (e:=78) (size:=1))))))
theorem J2n (b:Nat) (w:World) :
  Calls Tryz.prog 238 #[.pointer (some ⟨b,0,none⟩)] w (Jmz 78 w b [5,6]):=by
 refine enter Tryz.func238 rfl rfl (Nat.le_of_ble_eq_true rfl) ?_
 refine Nz 1 ?_
 refine Wd (Qc (Cs ?_))
 refine CS.drawnAll (k:=8) mixed rfl rfl ?_
 refine Ar [0,1,2,3,4,5] ?_
 refine Ao 6 rfl ?_
 refine WS.buildSlice1 (pl:=[(0,.tmp 5),(1,.tmp 8)]) (vs:=ptrL b [5,6]) sl76 (show zv Tryz.prog 78=some [.pointer none] by kernel_rfl) rfl rfl (by decide) (Jiv b [5,6]) (fun _=>rfl) ?_; intro v9; refine WS.oc (j:=0) rfl (fun hv9=>?_)
 refine Wd (Qa ?_)
 refine Ar [7] ?_
 refine Ae ?_
 exact Qc (Cr (out1 rfl rfl (fun u hu=>Juc rfl hv9 (j:=0) rfl hu)))
def fnE (k:Int):FuncId:=if k=1 then 234 else if k=2 then 235 else if k=3 then 236 else if k=4 then 237 else 238
def wdV (k:Int):ByteArray:=if inK k=true then kwE k else ⟨#[]⟩
def fnV (k:Int):Value:=if inK k=true then .func (.func (fnE k)) #[] #[] else .nilFunc
theorem Jsa (k:Int):(fnV k).oneCell'=true:=by unfold fnV; split <;> rfl
theorem Jym {k:Int} (h:inK k=true) (b:Nat) (w:World):Calls Tryz.prog (fnE k) #[.pointer (some ⟨b,0,none⟩)] w (Jmz 78 w b (offE k)):=by
 rcases Jjb h with rfl | rfl | rfl | rfl | rfl
 ·
  exact J21 b w
 ·
  exact J3u b w
 ·
  exact J44 b w
 ·
  exact J3s b w
 exact J2n b w
theorem entE {k:Int} (h:inK k=true):Ent Tryz.prog (fnE k):=by
 rcases Jjb h with rfl | rfl | rfl | rfl | rfl
 ·
  exact J4r
 ·
  exact J2m
 ·
  exact J1d
 ·
  exact J1q
 exact J4w
structure ShpOk (w:World) (m:Nat) (es:List MapEntry) (c:Nat):Prop where
 cell:w.cell? ⟨0,0,none⟩=some (.map (some m))
 at_:MapW w m es c
 has:∀ e∈es,∃ k,inK k=true∧e.key = .int .i64 k∧e.val = .agg #[.string (kwE k),.func (.func (fnE k)) #[] #[]]
 all:∀ k,inK k=true→∃ e∈es,e.key = .int .i64 k
theorem ShpOk.ext {w u:World} {m:Nat} {es:List MapEntry} {c:Nat} (h:ShpOk w m es c) (hb:Below w.heap.size w u):ShpOk u m es c:=⟨Jb9 hb (Nat.le_refl _) h.cell,h.at_.ext hb,h.has,h.all⟩
theorem ShpOk.st {w u:World} {L:List SA} {m:Nat} {es:List MapEntry} {c:Nat} (h:ShpOk w m es c) (hu:St w.heap.size w L u):ShpOk u m es c:=h.ext hu.below
theorem ShpOk.key {w:World} {m:Nat} {es:List MapEntry} {c:Nat} (h:ShpOk w m es c):∀ e∈es,∃ q,e.key = .int .i64 q:=fun e he=>let ⟨k,_,h2,_⟩:=h.has e he; ⟨k,h2⟩
theorem ShpOk.look {w:World} {m:Nat} {es:List MapEntry} {c:Nat} (h:ShpOk w m es c) (k:Int) :
  (inK k=true∧(∃ e∈es,e.key = .int .i64 k)∧∀ e∈es,e.key = .int .i64 k→e.val = .agg #[.string (wdV k),fnV k])∨(inK k=false∧(∀ e∈es,e.key ≠ .int .i64 k)∧zo Tryz.prog 71=some (.agg #[.string (wdV k),fnV k])):=by
 cases hk:inK k with
 | true =>
  refine .inl ⟨rfl,h.all k hk,fun e he ek=>?_⟩
  obtain ⟨q,h1,h2,h3⟩:=h.has e he
  rw [h2] at ek
  obtain rfl:q=k:=by injection ek
  rw [h3]
  unfold wdV fnV
  rw [if_pos hk,if_pos hk]
 | false =>
  refine .inr ⟨rfl,fun e he ek=>?_,?_⟩
  ·
   obtain ⟨q,h1,h2,h3⟩:=h.has e he
   rw [h2] at ek
   obtain rfl:q=k:=by injection ek
   rw [hk] at h1; cases h1
  unfold wdV fnV
  rw [if_neg (by rw [hk]; decide),if_neg (by rw [hk]; decide)]
  kernel_rfl
theorem tkF:tk Tryz.prog 69=some (false,1):=by kernel_rfl
theorem tkU:tk Tryz.prog 73=some (false,1):=by kernel_rfl
theorem mapU:Tryz.prog.underlying 73=some (.map 3 71):=Tryz.underlying73
structure Bld where
 us:Bool
 v:Value
 bs:ByteArray
def Jcb (b:Nat) (x:Bld):List Value:=[if x.us=true then .pointer (some ⟨b,0,none⟩) else .pointer none,x.v]
def Joj (x:Bld):SA:=osl 5 1 x.v x.bs.size (Lib.strCells x.bs)
def Je4 (b:Nat) (x:Bld):List SA:=[blk b (Jcb b x) 68,Joj x]
def bldr (b:Nat) (x:Bld):SA:=star (Je4 b x)
theorem Jmj {n0:Nat} {w u:World} {L:List SA} (bb:Nat) (x:Bld) (hu:St n0 w (blk bb (Jcb bb x) 68::L) u) :
  Calls Tryz.prog 40 #[.pointer (some ⟨bb,0,none⟩)] u (fun e u'=>e = .returned (.tuple #[])∧St n0 w (blk bb (Jcb bb { x with us:=true }) 68::L) u'):=by
 obtain ⟨hb0,hb⟩:=hu.blk (j:=0) rfl
 have h0:u.cell? ⟨bb,0,none⟩=some (if x.us=true then .pointer (some ⟨bb,0,none⟩) else .pointer none):=by simp [World.cell?,hb,Jcb]
 cases hx:x.us with
 | true =>
  rw [hx] at h0
  refine (Any.Builder_copyCheck_used (ρ:=Tryz.lays156_ren) { Tryz.lays156 with } Tryz.Builder_Extra_156.toX72 bb u h0).mono ?_
  rintro e w' ⟨rfl,rfl⟩
  refine ⟨rfl,?_⟩
  rw [show ({ x with us:=true }:Bld)=x by cases x; cases hx; rfl]
  exact hu
 | false =>
  rw [hx] at h0
  refine (Any.Builder_copyCheck_fresh (ρ:=Tryz.lays156_ren) { Tryz.lays156 with } Tryz.Builder_Extra_156.toX72 bb u h0 (by simp [World.shape?,hb,Jcb]; rfl) (Lib.frozen_of_heap hb 0)).mono ?_
  rintro e w' ⟨rfl,rfl⟩
  refine ⟨rfl,?_⟩
  have:=hu.store (j:=0) rfl 0 (.pointer (some ⟨bb,0,none⟩))
  exact this
theorem Jlz {n0:Nat} {w u:World} {L:List SA} (bb:Nat) (x:Bld) (hu:St n0 w (blk bb (Jcb bb x) 68::L) u) :
  Calls Tryz.prog 40 #[.pointer (some ⟨bb,0,none⟩)] u (fun e u'=>(∃ y:Unit,True∧e = .returned (.tuple #[])∧St n0 w (blk bb (Jcb bb { x with us:=true }) 68::L) u')∨(False∧e = .panicked []∧St n0 w L u')) :=
 (Jmj bb x hu).mono fun _ _ h=>.inl ⟨(),trivial,h.1,h.2⟩
theorem Jj1 (a b:ByteArray):Lib.strCells (a++b)=Lib.strCells a++Lib.strCells b:=by simp [Lib.strCells,ByteArray.data_append]
theorem Jp9 (v:Value) (a b:ByteArray):osl 5 1 v (a.size+b.size) (Lib.strCells a++Lib.strCells b)=Joj ⟨true,v,a++b⟩:=by
 unfold Joj
 rw [Jj1,ByteArray.size_append]
theorem Jw8 {w u:World} (R:SA) (bb:Nat) (sx:Bld) (hu:St w.heap.size w [bldr bb sx,R] u) (t0:ByteArray) (hs:sx.bs.size+t0.size≤1000000) :
  Calls Tryz.prog 23 #[.pointer (some ⟨bb,0,none⟩),.string t0] u (RetX w R [] (fun y:Bld=>y.bs=sx.bs++t0) False (fun _=>.tuple #[.int .i64 t0.size,.nilIface]) (fun y=>bldr bb y)):=by
 refine Jd9 hu Tryz.func23 rfl rfl (Nat.le_of_ble_eq_true rfl) ?_
 refine CS.unpack (L1:=Je4 bb sx) ?_
 refine Nz 2 ?_
 refine Wd (Qc (Nz 1 ?_))
 refine WS.callP rfl rfl J5m (fun u hu=>Jlz bb sx hu) (fun _=>rfl) (fun hq u hu=>hq.elim) ?_; rintro ⟨⟩ _
 refine Wd (Qc (Nz 4 ?_))
 refine Wk 1 (by first | exact Jq0 rfl (by assumption) (by omega) tk66 | exact Jvt (j:=1) rfl rfl (by assumption) (by omega) tk66 | exact Jah (j:=0) rfl rfl rfl tk66 | exact Jah (j:=1) rfl rfl rfl tk66 | exact Jah (j:=2) rfl rfl rfl tk66 | exact Jah (j:=3) rfl rfl rfl tk66 | exact Jah (j:=4) rfl rfl rfl tk66 | exact Jah (j:=5) rfl rfl rfl tk66 | exact Jah (j:=6) rfl rfl rfl tk66 | exact Jah (j:=7) rfl rfl rfl tk66 | exact Jah (j:=8) rfl rfl rfl tk66 | exact Jah (j:=9) rfl rfl rfl tk66 | exact Ja0 rfl (by assumption) rfl tk66) ?_
 refine WS.appendS (j:=1) (s:=t0) (n:=sx.bs.size) (xs:=Lib.strCells sx.bs) sl66 (by kernel_rfl) Tryz.underlying9 rfl rfl rfl (by omega) (fun _=>rfl) (fun _=>rfl) ?_; intro v14 hv14
 refine Wz 2 ?_
 first | refine WS.store (j:=0) rfl rfl (by first | decide | omega | (simp; done) | (simp; omega) | exact Nat.le_of_ble_eq_true rfl) rfl (by first | rfl | assumption) tk66 rfl rfl ?_ | refine WS.store (j:=0) rfl rfl (by first | decide | omega | (simp; done) | (simp; omega) | exact Nat.le_of_ble_eq_true rfl) rfl (by first | rfl | assumption) tk66 (Jbk _ _ _) rfl ?_ | refine WS.store (j:=1) rfl rfl (by first | decide | omega | (simp; done) | (simp; omega) | exact Nat.le_of_ble_eq_true rfl) rfl (by first | rfl | assumption) tk66 rfl rfl ?_ | refine WS.store (j:=1) rfl rfl (by first | decide | omega | (simp; done) | (simp; omega) | exact Nat.le_of_ble_eq_true rfl) rfl (by first | rfl | assumption) tk66 (Jbk _ _ _) rfl ?_ | refine WS.store (j:=2) rfl rfl (by first | decide | omega | (simp; done) | (simp; omega) | exact Nat.le_of_ble_eq_true rfl) rfl (by first | rfl | assumption) tk66 rfl rfl ?_ | refine WS.store (j:=2) rfl rfl (by first | decide | omega | (simp; done) | (simp; omega) | exact Nat.le_of_ble_eq_true rfl) rfl (by first | rfl | assumption) tk66 (Jbk _ _ _) rfl ?_ | refine WS.store (j:=3) rfl rfl (by first | decide | omega | (simp; done) | (simp; omega) | exact Nat.le_of_ble_eq_true rfl) rfl (by first | rfl | assumption) tk66 rfl rfl ?_ | refine WS.store (j:=3) rfl rfl (by first | decide | omega | (simp; done) | (simp; omega) | exact Nat.le_of_ble_eq_true rfl) rfl (by first | rfl | assumption) tk66 (Jbk _ _ _) rfl ?_ | refine WS.store (j:=4) rfl rfl (by first | decide | omega | (simp; done) | (simp; omega) | exact Nat.le_of_ble_eq_true rfl) rfl (by first | rfl | assumption) tk66 rfl rfl ?_ | refine WS.store (j:=4) rfl rfl (by first | decide | omega | (simp; done) | (simp; omega) | exact Nat.le_of_ble_eq_true rfl) rfl (by first | rfl | assumption) tk66 (Jbk _ _ _) rfl ?_ | refine WS.store (j:=5) rfl rfl (by first | decide | omega | (simp; done) | (simp; omega) | exact Nat.le_of_ble_eq_true rfl) rfl (by first | rfl | assumption) tk66 rfl rfl ?_ | refine WS.store (j:=5) rfl rfl (by first | decide | omega | (simp; done) | (simp; omega) | exact Nat.le_of_ble_eq_true rfl) rfl (by first | rfl | assumption) tk66 (Jbk _ _ _) rfl ?_ | refine WS.store (j:=6) rfl rfl (by first | decide | omega | (simp; done) | (simp; omega) | exact Nat.le_of_ble_eq_true rfl) rfl (by first | rfl | assumption) tk66 rfl rfl ?_ | refine WS.store (j:=6) rfl rfl (by first | decide | omega | (simp; done) | (simp; omega) | exact Nat.le_of_ble_eq_true rfl) rfl (by first | rfl | assumption) tk66 (Jbk _ _ _) rfl ?_ | refine WS.store (j:=7) rfl rfl (by first | decide | omega | (simp; done) | (simp; omega) | exact Nat.le_of_ble_eq_true rfl) rfl (by first | rfl | assumption) tk66 rfl rfl ?_ | refine WS.store (j:=7) rfl rfl (by first | decide | omega | (simp; done) | (simp; omega) | exact Nat.le_of_ble_eq_true rfl) rfl (by first | rfl | assumption) tk66 (Jbk _ _ _) rfl ?_ | refine WS.store (j:=8) rfl rfl (by first | decide | omega | (simp; done) | (simp; omega) | exact Nat.le_of_ble_eq_true rfl) rfl (by first | rfl | assumption) tk66 rfl rfl ?_ | refine WS.store (j:=8) rfl rfl (by first | decide | omega | (simp; done) | (simp; omega) | exact Nat.le_of_ble_eq_true rfl) rfl (by first | rfl | assumption) tk66 (Jbk _ _ _) rfl ?_ | refine WS.store (j:=9) rfl rfl (by first | decide | omega | (simp; done) | (simp; omega) | exact Nat.le_of_ble_eq_true rfl) rfl (by first | rfl | assumption) tk66 rfl rfl ?_ | refine WS.store (j:=9) rfl rfl (by first | decide | omega | (simp; done) | (simp; omega) | exact Nat.le_of_ble_eq_true rfl) rfl (by first | rfl | assumption) tk66 (Jbk _ _ _) rfl ?_
 refine Wd (Qc (Nz 1 ?_))
 refine Wk 2 (Jbe Tryz.underlying9 rfl) ?_
 refine Wd (Qc (Cr ?_))
 refine QS.weak (L':=[blk bb (Jcb bb ⟨true,v14,sx.bs++t0⟩) 68,Joj ⟨true,v14,sx.bs++t0⟩,R]) (fun u hu=>by rw [← Jp9]; exact hu) ?_
 exact out2 rfl rfl rfl (fun u hu=>.inl ⟨⟨true,v14,sx.bs++t0⟩,rfl,rfl,St.pack (L1:=Je4 bb ⟨true,v14,sx.bs++t0⟩) hu⟩)
theorem Jro {n0:Nat} {w u:World} (bb:Nat) (sx:Bld) (hu:St n0 w [bldr bb sx] u) :
  Calls Tryz.prog 25 #[.pointer (some ⟨bb,0,none⟩)] u (fun e u'=>(∃ y:Unit,True∧e = .returned (.string sx.bs)∧St n0 w [] u')∨(False∧e = .panicked []∧St n0 w [] u')):=by
 have hu2:=St.unpack (L1:=Je4 bb sx) hu
 obtain ⟨hle,hbel,T,hT,⟨hS,hb⟩,T2,hT2,⟨hS2,hown⟩,_⟩:=hu2
 have hbn:n0≤bb:=hT bb ((hS bb).2 rfl)
 have hown2:u.ownsRow n0 5 1 sx.v sx.bs.size (Lib.strCells sx.bs):=by
  refine ⟨hown.1,?_⟩
  rcases hown.2 with h | ⟨g,cap,cur,e,h0,hr⟩
  ·
   exact .inl h
  refine .inr ⟨g,cap,cur,e,?_,hr⟩
  exact (hT2 g ((hS2 g).2 (by rw [e]; rfl))).1
 have hne:sx.v.ownBlock≠some bb:=fun e=>(hT2 bb ((hS2 bb).2 e)).2 ((hS bb).2 rfl)
 have hlen:(Lib.byteCells (bl sx.bs)).length=sx.bs.size:=by rw [Lib.byteCells_length,Jb6]
 have hat:∀ p,u.heap[bb]? = some (.cells #[p,sx.v] 68 (0,0))→Lib.BuilderAt 68 5 n0 bb p (Lib.byteCells (bl sx.bs)) u:=fun p hp=>⟨hbn,sx.v,hp,by rw [hlen]; exact hown2,hne⟩
 have hib:Lib.IsBuilder 68 5 n0 bb (Lib.byteCells (bl sx.bs)) u:=by
  cases hx:sx.us with
  | true=>exact .inr (hat _ (by rw [hb]; simp [Jcb,hx]))
  | false=>exact .inl (hat _ (by rw [hb]; simp [Jcb,hx]))
 refine (Tryz.Builder_String_any_f n0 bb (bl sx.bs) u (Lib.IsBuilderF.of hib) (Nat.le_trans hle hbel.size)).mono ?_
 rintro e w' ⟨rfl,_,hB⟩
 exact .inl ⟨(),trivial,rfl,hle,hbel.trans hB,trivial⟩
theorem St.tailPack {n0:Nat} {w0 u:World} {A:SA} {Ls:List SA} (h:St n0 w0 (A::Ls) u):St n0 w0 [A,Go.Proofs.YtfbfdnoodccgiaaGreatDoor.star Ls] u:=by
 have h1:St n0 w0 (Ls++[A]) u:=h.perm (List.perm_append_comm (l₁:=[A]) (l₂:=Ls))
 exact (St.pack h1).perm (.swap _ _ _)
theorem St.tailUnpack {n0:Nat} {w0 u:World} {A:SA} {Ls:List SA} (h:St n0 w0 [A,Go.Proofs.YtfbfdnoodccgiaaGreatDoor.star Ls] u):St n0 w0 (A::Ls) u:=by
 have h1:St n0 w0 (Ls++[A]) u:=St.unpack (h.perm (.swap _ _ _))
 exact h1.perm (List.perm_append_comm (l₁:=Ls) (l₂:=[A]))
theorem St.oneUnpack {n0:Nat} {w0 u:World} {Ls:List SA} (h:St n0 w0 [Go.Proofs.YtfbfdnoodccgiaaGreatDoor.star Ls] u):St n0 w0 Ls u:=by
 have h1:St n0 w0 (Ls++[]) u:=St.unpack h
 rwa [List.append_nil] at h1
theorem RetX.ls {β:Type} {w u:World} {Ls:List SA} {ch:List PanicEntry} {p:β→Prop} {q:Prop} {v:β→Value} {A:β→SA} {f:FuncId} {args:Array Value} (h:Calls Tryz.prog f args u (RetX w (star Ls) ch p q v A)) :
  Calls Tryz.prog f args u (fun e u'=>(∃ x,p x∧e = .returned (v x)∧St w.heap.size w (A x::Ls) u')∨(q∧e = .panicked ch∧St w.heap.size w Ls u')):=by
 refine h.mono ?_
 rintro e u' (⟨x,h1,h2,h3⟩ | ⟨h1,h2,h3⟩)
 ·
  exact .inl ⟨x,h1,h2,h3.tailUnpack⟩
 exact .inr ⟨h1,h2,h3.oneUnpack⟩
theorem bld0 {n0:Nat} {w0 u:World} {b:Nat} {L:List SA} (h:St n0 w0 (blk b [.pointer none,.slice none 0 0] 68::L) u):St n0 w0 (bldr b ⟨false,.slice none 0 0,⟨#[]⟩⟩::L) u:=by
 have h1:=(h.osl0 (e:=5) (size:=1)).perm (.swap _ _ _)
 exact St.pack (L1:=Je4 b ⟨false,.slice none 0 0,⟨#[]⟩⟩) h1
theorem Jsk (l:Sl Entr) (w:World) (hk:SlT cEntry w l) {m:Nat} {es:List MapEntry} {c:Nat} (hS:ShpOk w m es c) (ht:Lib.TabIs Tryz.prog w "internal/strconv.uint64pow10" .u64 Lib.pow10Tab) (hl:l.l.length≤1000) :
  Calls Tryz.prog 9 #[l.v] w (RetB w (.tuple #[.string (FmtE l.l).1,.int .i64 (FmtE l.l).2])):=by
 have lls:=hk.le
 have s10:(⟨#[10]⟩:ByteArray).size=1:=rfl
 refine enter Tryz.func9 rfl rfl (Nat.le_of_ble_eq_true rfl) ?_
 refine Nz 2 ?_
 refine Wd (Qc (Cs (Nz 1 ?_)))
 refine Wk 1 Nc ?_
 refine Wd (Qc (CS.cond rfl ?_ ?_))<;>intro hc1<;>try simp only [bq] at hc1
 ·
  have hmany:=Jhj (l:=l.l) hc1
  refine Nz 2 ?_
  exact Wd (Qc (Cr (Qr (out2 rfl rfl rfl (Jac (by rw [hmany]))))))
 have hfew:¬ 500 < (l.l.length:Int):=by omega
 refine Ck (Qc (Nz 0 ?_))
 refine Wl 0 zv68 (fun _=>rfl) (fun _=>rfl) fun b4 hb4=>?_
 refine Wd (Qc (Cs (Nz 1 ?_)))
 refine Wk 1 Nc ?_
 refine Wd (Qc (Ce ?_))
 refine CS.weak (fun u hu=>bld0 hu) ?_
 refine CS.loopM (σ:=Int × Bld) [2,3,6,7,8,9,11,18,19,20,21,22,23,24,25,26,27,28,29,30,31,32,33,34,35,36,37,38,39,40,41,42,43,44,45,46,47,48,49,50,51,52,53,54,55,56,57,58,59,60,61,62,63,64,65,66,67,68,69,70,71,72,73,74,75,76] (fun s=>[(17,.int .i64 s.1)]) (fun s=>[bldr b4 s.2]) (fun s=>0≤s.1∧s.1≤l.l.length∧s.2.bs=Jej ((l.l.take s.1.toNat).map linE)∧(l.l.take s.1.toNat).all okE=true) (fun s=>(l.l.length - s.1).toNat) (0,⟨false,.slice none 0 0,⟨#[]⟩⟩) (fun _ _=>rfl) rfl rfl ⟨by simp,by simp,rfl,rfl⟩ ?_
 intro a t hs
 obtain ⟨ha1,ha2,ha3,ha4⟩:=hs
 refine Nz 1 ?_
 refine Wd (Qc (Cs (CS.cond rfl ?_ ?_)))<;>intro hc2<;>try simp only [bq] at hc2
 ·
  have hxm:=Jaj ha1 (show a.1 < (l.l.length:Int) by omega)
  have hfv:=Jsa (nth l.l a.1).k
  have hbz:=Jfi ha4 (n:=1000) (by rw [List.length_take]; omega)
  rw [← ha3] at hbz
  refine Ck (Qc (Cs (Ce (Nz 0 ?_))))
  refine Wk 0 Xc ?_
  refine Wk 0 Ua ?_
  refine Wl 0 zv56 (fun _=>rfl) (fun _=>rfl) fun b6 hb6=>?_
  refine Wv 0 0 ?_
  refine Wd (Qc (Nz 0 ?_))
  refine Wk 1 (Jdk tkU rfl (fun u hu=>Jb9 hu.below (Nat.le_refl _) hS.cell)) ?_
  refine Wk 0 (by first | exact Jah (j:=0) rfl rfl rfl tk3 | exact Ja0 rfl (by assumption) rfl tk3) ?_
  refine Wk 3 (Jhv mapU mapK rfl rfl hS.at_ hS.key (hS.look (nth l.l a.1).k)) ?_
  refine Wl 0 zv71 (fun _=>rfl) (fun _=>rfl) fun b7 hb7=>?_
  refine Wv 1 0 ?_
  refine Wd (Qc (Cs (Nz 3 ?_)))
  refine Wf 0 rfl rfl (fun hg=>Ff) ?_
  refine Wf 0 rfl rfl (fun hg=>by first | exact Jah (j:=1) (eg_ hg rfl) rfl rfl tk3 | exact Ja0 (eg_ hg rfl) (by assumption) rfl tk3) ?_
  refine Wf 0 rfl rfl (fun hg=>Cb rfl (ec_ (eg_ hg rfl) (ec_ rfl (ec_ rfl en_))) Jxu (fun u hu=>Jff _ _ _ u)) ?_
  refine Wf 0 rfl rfl (fun hg=>Fn) ?_
  refine Wk 0 Po ?_
  refine Wd (Qc (CS.cond rfl ?_ ?_))<;>intro hc3<;>try simp only [bq] at hc3
  ·
   have hbad:okE (nth l.l a.1)=false:=by
    cases ho:okE (nth l.l a.1) with
    | false=>rfl
    | true =>
     obtain ⟨h7,h8,_⟩:=Jn9 ho
     have h9:=Jrv h7
     simp only [clkB,Bool.and_eq_true,decide_eq_true_eq] at h8
     exfalso
     have h6:=hc3
     simp [inK,h9,h8] at h6
   refine Nz 2 ?_
   exact Wd (Qc (Cr (Qr (Qs (Qr (Qr (Qs (Qr (out2 rfl rfl rfl (Jac (by rw [Je6 hfew hxm hbad])))))))))))
  have hik:inK (nth l.l a.1).k=true:=hc3.1
  have hat:0≤(nth l.l a.1).t∧(nth l.l a.1).t≤1000000:=by have h6:=hc3.2; (try simp at h6); omega
  have hk5:=Jjb hik
  rw [show wdV (nth l.l a.1).k=kwE (nth l.l a.1).k from if_pos hik,show fnV (nth l.l a.1).k = .func (.func (fnE (nth l.l a.1).k)) #[] #[] from if_pos hik]
  refine Ck (Qc (Cs ?_))
  refine CS.drawnAll (k:=7) mixed rfl rfl ?_
  refine Ar [0] ?_
  refine Ak 1 [] rfl (by first | exact Jah (j:=1) rfl rfl rfl tk3 | exact Ja0 rfl (by assumption) rfl tk3) ?_
  refine Ak 2 [3] rfl (Cb rfl rfl J1w (fun u hu=>Jr8 _ ⟨by omega,by omega⟩ u (J01 ht hu))) ?_
  refine Ak 4 [] rfl (by first | exact Jah (j:=0) rfl rfl rfl tk9 | exact Ja0 rfl (by assumption) rfl tk9) ?_
  refine Ao 5 rfl ?_
  refine WS.buildSs (bs:=[digB (nth l.l a.1).t,kwE (nth l.l a.1).k]) sl34 zv9 rfl rfl (by decide) (fun _=>rfl) ?_; intro v41 hv41
  refine Wd (Qa ?_)
  refine Ar [6] ?_
  refine Ae ?_
  refine Qc (Cs (Nz 1 ?_))
  refine Wk 0 (Jah (j:=1) rfl rfl rfl tkF) ?_
  refine Wc rfl rfl (entE hik) (fun u hu=>Jym hik b6 u) (fun _=>rfl) ?_; intro v44 hv44
  refine Wk 1 (Jcp sl76 rfl (j:=0) rfl) ?_
  refine Wd (Qc (Ce ?_))
  refine CS.sel [1,2,0,1] rfl ?_
  refine CS.loopM (σ:=Int × Value) [2,3,11,47,48,49,50,51,52,53,54,55,56,57,58,59,60,61,62,63,64] (fun s=>[(46,.int .i64 s.1),(9,s.2)]) (fun s=>[oT cStr 9 s.2 (digB (nth l.l a.1).t::kwE (nth l.l a.1).k::((fldE (nth l.l a.1)).take s.1.toNat).map digB),blk b6 (cEntry.cells (zerE (nth l.l a.1) s.1.toNat)) 56,osl 78 1 v44 (offE (nth l.l a.1).k).length (ptrL b6 (offE (nth l.l a.1).k)),bldr b4 a.2]) (fun s=>0≤s.1∧s.1≤(offE (nth l.l a.1).k).length∧s.2.oneCell'=true∧((fldE (nth l.l a.1)).take s.1.toNat).all clkB=true) (fun s=>((offE (nth l.l a.1).k).length - s.1).toNat) (0,v41) (fun _ _=>rfl) rfl rfl ⟨by simp,by simp,hv41,rfl⟩ ?_
  intro q t hs
  obtain ⟨hq1,hq2,hq3,hq4⟩:=hs
  have hfl:=Jue (nth l.l a.1)
  have hol:=Juq (nth l.l a.1).k
  refine Nz 1 ?_
  refine Wd (Qc (Cs (CS.cond rfl ?_ ?_)))<;>intro hc4<;>try simp only [bq] at hc4
  ·
   obtain ⟨o,ho⟩:∃ o,(offE (nth l.l a.1).k)[q.1.toNat]? = some o:=⟨_,List.getElem?_eq_getElem (by omega)⟩
   have hob:=Jys ho
   have hpa:(ptrL b6 (offE (nth l.l a.1).k))[q.1.toNat * 1]? = some (.pointer (some ⟨b6,o,none⟩)):=by rw [Nat.mul_one]; exact Jyb ho
   have hfa:=J3v ho
   rw [show ((q.1.toNat:Nat):Int)=q.1 by omega] at hfa
   refine Ck (Qc (Cs (Ce (Nz 0 ?_))))
   refine Wk 0 (Je2 (j:=2) sl76 rfl rfl rfl (by omega) (by omega)) ?_
   refine Wk 1 (Jg9 (j:=2) rfl rfl hpa tk78) ?_
   refine Wd (Qc (Cs (Nz 2 ?_)))
   refine Wk 0 (Jah (j:=1) rfl rfl hfa tk3) ?_
   refine Wk 1 (Cb rfl rfl Jxu (fun u hu=>Jff _ _ _ u)) ?_
   refine Wd (Qc (CS.cond rfl ?_ ?_))<;>intro hc5<;>try simp only [bq] at hc5
   ·
    have hbad:=Jm6 hq1 (show q.1 < ((fldE (nth l.l a.1)).length:Int) by omega) (by unfold clkB; simp; omega)
    refine Nz 2 ?_
    exact Wd (Qc (Cr (Qr (Qs (Qr (Qr (Qs (Qr (Qs (Qr (Qr (Qs (Qr (out2 rfl rfl rfl (Jac (by rw [Je6 hfew hxm hbad]))))))))))))))))
   have hn2:0≤nth (fldE (nth l.l a.1)) q.1∧nth (fldE (nth l.l a.1)) q.1≤1000000:=by have h6:=hc5; (try simp at h6); omega
   have hcl:clkB (nth (fldE (nth l.l a.1)) q.1)=true:=by unfold clkB; simp; omega
   refine Ck (Qc (Nz 3 ?_))
   refine Wk 0 (Jah (j:=1) rfl rfl hfa tk3) ?_
   refine Wk 0 (Cb rfl rfl J1w (fun u hu=>Jr8 _ ⟨by omega,by omega⟩ u (J01 ht hu))) ?_
   refine WS.buildS1 (b:=digB (nth (fldE (nth l.l a.1)) q.1)) sl34 zv9 rfl (fun _=>rfl) ?_; intro v60
   refine WS.appendT1 (j:=1) (jz:=0) sl34 zv9 rfl (by decide) rfl rfl rfl rfl (w:=w) trivial (by simp; omega) (by simp; omega) (fun _=>rfl) (fun _=>rfl) ?_; intro v61 hv61
   refine Wz 1 ?_
   refine Wd (Qc (Ny 2 ?_))
   refine WS.store (j:=2) rfl rfl (show o < 7 by omega) rfl rfl tk3 (Jbk _ _ _) rfl ?_
   refine Wd (Qb (Qc (Ny 0 ?_)))
   refine Wk 1 Za ?_
   refine Wd ?_
   refine QS.sel [1,1,1,1] rfl ?_
   exact QS.head ((q.1+1,v61)) rfl (by show [_,_,_,_]=[_,_,_,_]; rw [Ja2 (fldE (nth l.l a.1)) hq1 (by omega),show (q.1+1).toNat=q.1.toNat+1 by omega,Jw2 ho, ← Jjn hob,List.map_append,List.map_singleton]; rfl) ⟨⟨by simp; omega,by simp; omega,hv61,Jgh hq1 (by omega) hq4 hcl⟩,by simp; omega⟩
  have hqe:q.1.toNat=(offE (nth l.l a.1).k).length:=by omega
  refine Cv (Qe (Qe (Qx (Qc (Cs (Nz 0 ?_))))))
  refine Wk 1 (by first | exact Jbr (j:=1) rfl rfl tk56 | exact Jbj (j:=1) rfl rfl (by rfl) tk56 | exact Jbs rfl (by assumption) (by rfl) tk56 | exact Jbq (n:=7) (j:=1) rfl rfl rfl rfl tk56) ?_
  refine Wk 1 (by first | exact Jah (j:=1) rfl rfl rfl tk3 | exact Ja0 rfl (by assumption) rfl tk3) ?_
  refine Wk 0 (by first | exact Jah (j:=1) rfl rfl rfl tk3 | exact Ja0 rfl (by assumption) rfl tk3) ?_
  refine Wk 0 (Db Jvh zv56) ?_
  refine Wk 0 (Jik Jlm rfl rfl (Jg0 (zerE (nth l.l a.1) q.1.toNat) ⟨(zerE (nth l.l a.1) q.1.toNat).t,(zerE (nth l.l a.1) q.1.toNat).k,mv0,0,0⟩)) ?_
  refine Wd (Qc (CS.cond rfl ?_ ?_))<;>intro hc6<;>try simp only [bq] at hc6
  ·
   have hbad:okE (nth l.l a.1)=false:=Jza (by
    cases hf:Jci (nth l.l a.1) with
    | false=>rfl
    | true =>
     refine absurd ?_ hc6
     rw [hqe,(Jnh (by omega)).2 hf])
   refine Nz 2 ?_
   exact Wd (Qc (Cr (Qr (Qs (Qr (Qr (Qs (Qr (out2 rfl rfl rfl (Jac (by rw [Je6 hfew hxm hbad])))))))))))
  have hform:Jci (nth l.l a.1)=true:=(Jnh (by omega)).1 (by have h9:=hc6; rw [(J4f (nth l.l a.1) _).1,(J4f (nth l.l a.1) _).2,hqe] at h9; exact h9)
  have hok:okE (nth l.l a.1)=true:=Jyu hform (by unfold clkB; simp; omega) (by have h9:=hq4; rw [List.take_of_length_le (by omega)] at h9; exact h9)
  rw [show digB (nth l.l a.1).t::kwE (nth l.l a.1).k::((fldE (nth l.l a.1)).take q.1.toNat).map digB=linE (nth l.l a.1) by rw [List.take_of_length_le (by omega)]; rfl]
  have hlf:=Jfe hok
  have hlz:=Jqs hlf
  have hjz:(jnB (linE (nth l.l a.1))).size≤80:=by unfold Jgt at hlz; rw [ByteArray.size_append] at hlz; omega
  refine Ck (Qc (Ny 1 ?_))
  refine Wk 0 (Cb rfl rfl J5v (fun u hu=>by
   have hx:=Jim hu (j:=0) rfl (fun _ _=>trivial)
   exact J32 ⟨q.2,linE (nth l.l a.1)⟩ u hx (by simp [linE]) (n:=15) (fun y hy=>(hlf.2.1 y hy).sz) (by have:=hlf.2.2; simp only; omega) (by have:=hlf.2.2; simp only; omega))) ?_
  refine Wk 0 (Jc1 (a:=jnB (linE (nth l.l a.1))) rfl rfl (by omega)) ?_
  refine WS.callP rfl rfl J54 (fun u hu=>RetX.ls (Jw8 (star _) b4 a.2 (St.tailPack (hu.sel [3,0,0,0] rfl)) (Jgt (linE (nth l.l a.1))) (by omega))) (fun _=>rfl) (fun hq u hu=>hq.elim) ?_; rintro y hy
  refine Wd (Qb (Qc (Ny 0 ?_)))
  refine Wk 1 Za ?_
  refine Wd ?_
  refine QS.sel [0] rfl ?_
  exact QS.head ((a.1+1,y)) rfl rfl ⟨⟨by simp; omega,by simp; omega,by show y.bs=_; rw [hy,ha3]; exact (Jks ha1 (by omega)).symm,Jgh ha1 (by omega) ha4 hok⟩,by simp; omega⟩
 have hae:a.1.toNat=l.l.length:=by omega
 rw [hae,List.take_length] at ha3 ha4
 refine Cv (Qe (Qe (Qx (Qc (Nz 0 ?_)))))
 refine WS.callP rfl rfl J5u (fun u hu=>Jro b4 a.2 hu) (fun _=>rfl) (fun hq u hu=>hq.elim) ?_; rintro ⟨⟩ _
 refine Wz 2 ?_
 exact Wd (Qc (Cr (out2 rfl rfl rfl (Jac (by rw [Jm0 hfew ha4,ha3])))))
end Go.Proofs.YtfbfdnoodccgiaaGreatDoor
