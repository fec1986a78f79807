/- Merged texts of this proof (walks and plain laws), printed by a program of the prover. -/
import Derived.Test.YtdpbapffdmahnaaGreatDoorZb
import Derived.Lib.AppendIntMem
import Derived.Test.YtdpbapffdmahnaaGreatDoorShelf
import Derived.Test.YtdpbapffdmahnaaGreatDoorZc
import Derived.Shelf.Strings.SlTrimAscii
import Derived.Test.YtdpbapffdmahnaaGreatDoorZd
set_option maxHeartbeats 8000000
namespace Go.Proofs.YtdpbapffdmahnaaGreatDoor
open Go.RowKit Go.Proofs
set_option maxRecDepth 100000
set_option linter.unusedVariables false
set_option linter.unusedSimpArgs false
theorem Jol (s:Sl ByteArray) (w:World) (hk:SlT cStr w s) (hp:0 < s.l.length) {n:Nat} (hb:∀ x∈s.l,x.size≤n) (hn:(n+1) * s.l.length≤140737488355328) (hm:s.l.length≤1000000) :
  Calls Tryz.prog 25 #[s.v,.string ⟨#[32]⟩] w (RetB w (.string (jnB s.l))):=by
 obtain ⟨b,o,c,e,h1,h2,h3⟩:=Jid hk hp
 have hj:=Jhb hb
 have q:=Tryz.strings_Join b o c s.l ⟨#[32]⟩ w h3 h2 (by omega) h1 (Nat.le_trans hj hn)
 rw [← e] at q
 refine q.mono ?_
 rintro e' w' ⟨rfl,h4⟩
 exact ⟨rfl,h4⟩
theorem Jjq (n:Int) (h:0≤n∧n≤1000000000) (w:World) (ht:Lib.TabIs Tryz.prog w "internal/strconv.uint64pow10" .u64 Lib.pow10Tab):Calls Tryz.prog 24 #[.int .i64 n] w (RetB w (.string (digB n))):=by
 refine (Tryz.strconv_Itoa n (by omega) (by omega) w ht).mono ?_
 rintro e w' ⟨rfl,k,os,rfl⟩
 refine ⟨?_,Lib.below_grow _ _ (Nat.le_refl _) _ _⟩
 have e1:Lib.itoa n=Lib.decDigits n.toNat:=if_neg (by omega)
 rw [e1]; rfl
theorem Jma {w u:World} {L:List SA} (h:Lib.TabIs Tryz.prog w "internal/strconv.uint64pow10" .u64 Lib.pow10Tab) (hu:St w.heap.size w L u):Lib.TabIs Tryz.prog u "internal/strconv.uint64pow10" .u64 Lib.pow10Tab:=Lib.tabBelow_of_tabIs h u hu.below
def MaxOk (w:World):Prop:=∃ m:Int,w.cell? ⟨3,0,none⟩=some (.int .i64 m)
theorem MaxOk.ext {w u:World} (h:MaxOk w) (hb:Below w.heap.size w u):MaxOk u:=let ⟨m,e⟩:=h; ⟨m,Jbv hb (Nat.le_refl _) e⟩
theorem MaxOk.st {w u:World} {L:List SA} (h:MaxOk w) (hu:St w.heap.size w L u):MaxOk u:=h.ext hu.below
theorem Jnr (c:UInt8) (tx:ByteArray) (w:World) (hM:MaxOk w) (hs:tx.size < 4294967281) :
  Calls Tryz.prog 66 #[.string tx,.string ⟨#[c]⟩] w (RetL w (Jar c tx)):=by
 obtain ⟨m,hm⟩:=hM
 refine (Tryz.strings_Split tx ⟨#[c]⟩ m w hs hm (show 1≤1 by decide)).mono ?_
 rintro e w' ⟨rfl,rfl⟩
 rw [Jen,Jip]
 exact Jil (by have:=Jes c tx; omega)
theorem Jny (tx:ByteArray) (w:World) (hs:tx.size≤9223372036854775807) :
  Calls Tryz.prog 110 #[.string tx,.string ⟨#[48,49,50,51,52,53,54,55,56,57]⟩] w (RetB w (.string ⟨(Lib.trimS (bl tx) decL).toArray⟩)) :=
 Any.strings_Trim_laid Tryz.lays160 (by kernel_rfl) tx ⟨#[48,49,50,51,52,53,54,55,56,57]⟩ w hs (by decide) (ascii_of_all (by decide))
theorem Jnu (tx:ByteArray) {most:Int} (w:World) (h:Jas tx most=true) (hm:most≤18) :
  Calls Tryz.prog 111 #[.string tx] w (RetB w (.tuple #[.int .i64 (numL (bl tx)),.nilIface])):=by
 have h1:tx.size≤18:=by simp only [Jas,Bool.and_eq_true,decide_eq_true_eq] at h; omega
 refine (Tryz.strconv_Atoi tx _ h1 (Jkq h) w).mono ?_
 rintro e w' ⟨rfl,t,rfl⟩
 exact ⟨rfl,Lib.bytesWorld_below _ _ _⟩
theorem Jh1 (t0:ByteArray) (most:Int) (w:World) (ht:(t0.size:Int)≤1000000) :
  Calls Tryz.prog 68 #[.string t0,.int .i64 most] w (RetB w (.bool (Jas t0 most))):=by
 refine enter Tryz.func68 rfl rfl (Nat.le_of_ble_eq_true rfl) ?_
 refine Nz 1 ?_
 refine Wd (Qc (Nz 1 ?_))
 refine Wk 1 (Jem Tryz.underlying9 rfl) ?_
 refine Wk 1 (Cb rfl rfl Jdk (fun u hu=>Jba _ _ _ u)) ?_
 refine Wt 0 rfl rfl (fun hg=>Fm) ?_
 refine Wt 0 rfl rfl (fun hg=>Cb rfl (ec_ (eg_ hg rfl) (ec_ rfl en_)) Jn3 (fun u hu=>Jny t0 u (by omega))) ?_
 refine Wt 0 rfl rfl (fun hg=>Jdv (eg_ hg rfl) rfl) ?_
 refine Wk 1 Pa ?_
 refine Wd (Qc (Cr ?_))
 exact out1 rfl rfl (Jan (by
   rw [Jkz]; rfl))
theorem Jky (t0:ByteArray) (w:World) (ht:(t0.size:Int)≤1000000) :
  Calls Tryz.prog 69 #[.string t0] w (RetB w (.tuple #[.int .i64 ((numB 3 t0).getD 0),.bool (numB 3 t0).isSome])):=by
 refine enter Tryz.func69 rfl rfl (Nat.le_of_ble_eq_true rfl) ?_
 refine Nz 2 ?_
 refine Wd (Qc (Cs (Nz 1 ?_)))
 refine Wk 2 (Cb rfl rfl Jnx (fun u hu=>Jh1 _ _ u (by omega))) ?_
 refine Wf 0 rfl rfl (fun hg=>Fm) ?_
 refine Wf 0 rfl rfl (fun hg=>Jfs Tryz.underlying9 (eg_ hg rfl) rfl (by decide) (by simp at hg; exact (Ji7 hg).1)) ?_
 refine Wf 0 rfl rfl (fun hg=>Fq) ?_
 refine Wf 0 rfl rfl (fun hg=>Fm (eg_ hg rfl)) ?_
 refine Wn 0 rfl rfl rfl (fun hg=>Fm) ?_
 refine Wn 0 rfl rfl rfl (fun hg=>Jfg (eg_ hg rfl) rfl) ?_
 refine Wf 0 rfl rfl (fun hg=>Jb6 (eg_ hg rfl) (Jj6 hg rfl) rfl) ?_
 refine Wk 0 Po ?_
 refine Wd (Qc (CS.cond rfl ?_ ?_))<;>intro hc1<;>try simp only [bq] at hc1
 ·
  have hno:numB 3 t0=none:=by
   cases hd:Jas t0 3 with
   | false=>exact Jlu (.inl hd)
   | true =>
    rw [hd] at hc1
    have h2:byt t0 0=48∧seq t0 ⟨#[48]⟩=false:=by simpa using hc1
    refine Jlu (.inr ⟨h2.1,?_⟩)
    have h3:=Jhy h2.1 (Ji7 hd).1
    rw [h2.2] at h3
    simpa using h3.symm
  refine Nz 2 ?_
  exact Wd (Qc (Cr (Qr (out2 rfl rfl rfl (Jan (by rw [hno]; rfl))))))
 have hd:Jas t0 3=true:=by
  cases hd:Jas t0 3 with
  | false=>rw [hd] at hc1; simp at hc1
  | true=>rfl
 have hyes:numB 3 t0=some (numL (bl t0)):=Jjm hd fun h=>by
  rw [hd] at hc1
  have h3:=Jhy h (Ji7 hd).1
  rw [h3] at hc1
  simp [h] at hc1
  omega
 refine Ck (Qc (Nz 1 ?_))
 refine Wk 5 (Cb rfl rfl Jn0 (fun u hu=>Jnu t0 u (most:=3) hd (by decide))) ?_
 refine Wd (Qc (Cs (Dr mixed 2 ?_)))
 refine Dk 2 (Jgu (by kernel_rfl) rfl) ?_
 exact Dd (Qc (Cr (out2 rfl rfl rfl (Jan (by rw [hyes]; rfl)))))
theorem Jhl (b:Nat) (k:Int) (w:World) (h1:w.cell? ⟨b,0,none⟩=some (.int .i64 k)) :
  Calls Tryz.prog 40 #[.pointer (some ⟨b,0,none⟩)] w (Jn7 97 w b (offK k)):=by
 refine enter Tryz.func40 rfl rfl (Nat.le_of_ble_eq_true rfl) ?_
 refine Nz 1 ?_
 refine Wd (Qc (Cs (Nz 3 ?_)))
 refine Wk 0 (Jcl tk3 rfl (fun u hu=>Jbv hu.below (Nat.le_refl _) h1)) ?_
 refine Wd (Qc (Ce (Nz 2 ?_)))
 refine Wd (Qc (CS.cond rfl ?_ ?_))<;>intro hc1<;>try simp only [bq] at hc1
 ·
  refine Cs ?_
  refine CS.drawnAll (k:=8) mixed rfl rfl ?_
  refine Ar [0,1,2,3,4,5] ?_
  refine Ao 6 rfl ?_
  refine WS.buildSlice1 (pl:=[(0,.tmp 11),(1,.tmp 14)]) (vs:=ptrL b [1,3]) sl94 (show zv Tryz.prog 97=some [.pointer none] by kernel_rfl) rfl rfl (by decide) (Jbx b [1,3]) (fun _=>rfl) ?_; intro v15; refine WS.oc (j:=0) rfl (fun hv15=>?_)
  refine Wd (Qa ?_)
  refine Ar [7] ?_
  refine Ae ?_
  exact Qc (Cr (Qs (Qr (out1 rfl rfl (fun u hu=>Jge (if_pos hc1) hv15 (j:=0) rfl hu)))))
 refine Nz 2 ?_
 refine Wd (Qc (CS.cond rfl ?_ ?_))<;>intro hc2<;>try simp only [bq] at hc2
 ·
  refine Cs ?_
  refine CS.drawnAll (k:=11) mixed rfl rfl ?_
  refine Ar [0,1,2,3,4,5,6,7,8] ?_
  refine Ao 9 rfl ?_
  refine WS.buildSlice1 (pl:=[(0,.tmp 20),(1,.tmp 23),(2,.tmp 26)]) (vs:=ptrL b [1,2,3]) sl94 (show zv Tryz.prog 97=some [.pointer none] by kernel_rfl) rfl rfl (by decide) (Jbx b [1,2,3]) (fun _=>rfl) ?_; intro v27; refine WS.oc (j:=0) rfl (fun hv27=>?_)
  refine Wd (Qa ?_)
  refine Ar [10] ?_
  refine Ae ?_
  exact Qc (Cr (Qs (Qr (out1 rfl rfl (fun u hu=>Jge ((if_neg hc1).trans (if_pos hc2)) hv27 (j:=0) rfl hu)))))
 refine Cs (Nz 2 ?_)
 refine Wd (Qc (CS.cond rfl ?_ ?_))<;>intro hc3<;>try simp only [bq] at hc3
 ·
  refine Ck (Qc (CS.cond rfl ?_ ?_))<;>intro hc4<;>try simp only [bq] at hc4
  ·
   refine Cs ?_
   refine CS.drawnAll (k:=8) mixed rfl rfl ?_
   refine Ar [0,1,2,3,4,5] ?_
   refine Ao 6 rfl ?_
   refine WS.buildSlice1 (pl:=[(0,.tmp 33),(1,.tmp 36)]) (vs:=ptrL b [1,2]) sl94 (show zv Tryz.prog 97=some [.pointer none] by kernel_rfl) rfl rfl (by decide) (Jbx b [1,2]) (fun _=>rfl) ?_; intro v37; refine WS.oc (j:=0) rfl (fun hv37=>?_)
   refine Wd (Qa ?_)
   refine Ar [7] ?_
   refine Ae ?_
   exact Qc (Cr (Qs (Qr (out1 rfl rfl (fun u hu=>Jge ((if_neg hc1).trans ((if_neg hc2).trans (if_pos (.inl hc3)))) hv37 (j:=0) rfl hu)))))
  exact absurd hc3 hc4
 refine Ny 2 ?_
 refine Wd (Qc (CS.cond rfl ?_ ?_))<;>intro hc5<;>try simp only [bq] at hc5
 ·
  refine Cs ?_
  refine CS.drawnAll (k:=8) mixed rfl rfl ?_
  refine Ar [0,1,2,3,4,5] ?_
  refine Ao 6 rfl ?_
  refine WS.buildSlice1 (pl:=[(0,.tmp 33),(1,.tmp 36)]) (vs:=ptrL b [1,2]) sl94 (show zv Tryz.prog 97=some [.pointer none] by kernel_rfl) rfl rfl (by decide) (Jbx b [1,2]) (fun _=>rfl) ?_; intro v37; refine WS.oc (j:=0) rfl (fun hv37=>?_)
  refine Wd (Qa ?_)
  refine Ar [7] ?_
  refine Ae ?_
  exact Qc (Cr (Qs (Qr (out1 rfl rfl (fun u hu=>Jge ((if_neg hc1).trans ((if_neg hc2).trans (if_pos (.inr hc5)))) hv37 (j:=0) rfl hu)))))
 refine Cs (Nz 2 ?_)
 refine Wd (Qc (CS.cond rfl ?_ ?_))<;>intro hc6<;>try simp only [bq] at hc6
 ·
  refine Ck (Qc (CS.cond rfl ?_ ?_))<;>intro hc7<;>try simp only [bq] at hc7
  ·
   refine Cs ?_
   refine CS.drawnAll (k:=8) mixed rfl rfl ?_
   refine Ar [0,1,2,3,4,5] ?_
   refine Ao 6 rfl ?_
   refine WS.buildSlice1 (pl:=[(0,.tmp 43),(1,.tmp 46)]) (vs:=ptrL b [3,4]) sl94 (show zv Tryz.prog 97=some [.pointer none] by kernel_rfl) rfl rfl (by decide) (Jbx b [3,4]) (fun _=>rfl) ?_; intro v47; refine WS.oc (j:=0) rfl (fun hv47=>?_)
   refine Wd (Qa ?_)
   refine Ar [7] ?_
   refine Ae ?_
   exact Qc (Cr (Qs (Qr (out1 rfl rfl (fun u hu=>Jge ((if_neg hc1).trans ((if_neg hc2).trans ((if_neg (by omega)).trans (if_pos (.inl hc6))))) hv47 (j:=0) rfl hu)))))
  exact absurd hc6 hc7
 refine Ny 2 ?_
 refine Wd (Qc (CS.cond rfl ?_ ?_))<;>intro hc8<;>try simp only [bq] at hc8
 ·
  refine Cs ?_
  refine CS.drawnAll (k:=8) mixed rfl rfl ?_
  refine Ar [0,1,2,3,4,5] ?_
  refine Ao 6 rfl ?_
  refine WS.buildSlice1 (pl:=[(0,.tmp 43),(1,.tmp 46)]) (vs:=ptrL b [3,4]) sl94 (show zv Tryz.prog 97=some [.pointer none] by kernel_rfl) rfl rfl (by decide) (Jbx b [3,4]) (fun _=>rfl) ?_; intro v47; refine WS.oc (j:=0) rfl (fun hv47=>?_)
  refine Wd (Qa ?_)
  refine Ar [7] ?_
  refine Ae ?_
  exact Qc (Cr (Qs (Qr (out1 rfl rfl (fun u hu=>Jge ((if_neg hc1).trans ((if_neg hc2).trans ((if_neg (by omega)).trans (if_pos (.inr hc8))))) hv47 (j:=0) rfl hu)))))
 refine Ck (Qb (Qc (Cs ?_)))
 refine CS.drawnAll (k:=11) mixed rfl rfl ?_
 refine Ar [0,1,2,3,4,5,6,7,8] ?_
 refine Ao 9 rfl ?_
 refine WS.buildSlice1 (pl:=[(0,.tmp 50),(1,.tmp 53),(2,.tmp 56)]) (vs:=ptrL b [1,3,4]) sl94 (show zv Tryz.prog 97=some [.pointer none] by kernel_rfl) rfl rfl (by decide) (Jbx b [1,3,4]) (fun _=>rfl) ?_; intro v57; refine WS.oc (j:=0) rfl (fun hv57=>?_)
 refine Wd (Qa ?_)
 refine Ar [10] ?_
 refine Ae ?_
 exact Qc (Cr (out1 rfl rfl (fun u hu=>Jge ((if_neg hc1).trans ((if_neg hc2).trans ((if_neg (by omega)).trans (if_neg (by omega))))) hv57 (j:=0) rfl hu)))
theorem Jjr (c:Clue) (gv:Value) (w:World) (hg:gv.oneCell'=true) :
  Calls Tryz.prog 43 #[.agg #[.int .i64 c.k,.int .i64 c.a,.int .i64 c.b,.int .i64 c.n,.int .i64 c.m,gv,.bool c.nt]] w (RetI 3 w (Jam c)):=by
 refine enter Tryz.func43 rfl rfl (Nat.le_of_ble_eq_true rfl) ?_
 refine Nz 0 ?_
 refine Wb 1 rfl rfl (fun _=>rfl) (fun _=>rfl) fun b1 hb1=>?_
 refine Wd (Qc (Cs (Nz 1 ?_)))
 refine Wk 0 (by first | exact Jaa (j:=0) rfl rfl rfl tk3 | exact Jac rfl (by assumption) rfl tk3) ?_
 refine Wd (Qc (Ce (Nz 2 ?_)))
 refine Wd (Qc (CS.cond rfl ?_ ?_))<;>intro hc1<;>try simp only [bq] at hc1
 ·
  refine Nz 1 ?_
  refine Wk 1 (by first | exact Jaa (j:=0) rfl rfl rfl tk3 | exact Jac rfl (by assumption) rfl tk3) ?_
  refine Wk 0 (by first | exact Jaa (j:=0) rfl rfl rfl tk3 | exact Jac rfl (by assumption) rfl tk3) ?_
  refine WS.buildSlice1 (pl:=[(0,.tmp 8),(1,.tmp 10)]) (vs:=ints [c.a,c.n]) sl32 zv3 rfl rfl (by decide) (by simp [ints,Value.oneCell']) (fun _=>rfl) ?_; intro v11; refine WS.oc (j:=0) rfl (fun hv11=>?_)
  refine Wz 1 ?_
  exact Wd (Qc (Cr (Qs (Qr (out1 rfl rfl (fun u hu=>Jgh (if_pos hc1) hv11 (j:=0) rfl hu))))))
 refine Nz 2 ?_
 refine Wd (Qc (CS.cond rfl ?_ ?_))<;>intro hc2<;>try simp only [bq] at hc2
 ·
  refine Nz 1 ?_
  refine Wk 1 (by first | exact Jaa (j:=0) rfl rfl rfl tk3 | exact Jac rfl (by assumption) rfl tk3) ?_
  refine Wk 1 (by first | exact Jaa (j:=0) rfl rfl rfl tk3 | exact Jac rfl (by assumption) rfl tk3) ?_
  refine Wk 0 (by first | exact Jaa (j:=0) rfl rfl rfl tk3 | exact Jac rfl (by assumption) rfl tk3) ?_
  refine WS.buildSlice1 (pl:=[(0,.tmp 15),(1,.tmp 17),(2,.tmp 19)]) (vs:=ints [c.a,c.b,c.n]) sl32 zv3 rfl rfl (by decide) (by simp [ints,Value.oneCell']) (fun _=>rfl) ?_; intro v20; refine WS.oc (j:=0) rfl (fun hv20=>?_)
  refine Wz 1 ?_
  exact Wd (Qc (Cr (Qs (Qr (out1 rfl rfl (fun u hu=>Jgh ((if_neg hc1).trans (if_pos hc2)) hv20 (j:=0) rfl hu))))))
 refine Cs (Nz 2 ?_)
 refine Wd (Qc (CS.cond rfl ?_ ?_))<;>intro hc3<;>try simp only [bq] at hc3
 ·
  refine Ck (Qc (CS.cond rfl ?_ ?_))<;>intro hc4<;>try simp only [bq] at hc4
  ·
   refine Nz 1 ?_
   refine Wk 1 (by first | exact Jaa (j:=0) rfl rfl rfl tk3 | exact Jac rfl (by assumption) rfl tk3) ?_
   refine Wk 0 (by first | exact Jaa (j:=0) rfl rfl rfl tk3 | exact Jac rfl (by assumption) rfl tk3) ?_
   refine WS.buildSlice1 (pl:=[(0,.tmp 25),(1,.tmp 27)]) (vs:=ints [c.a,c.b]) sl32 zv3 rfl rfl (by decide) (by simp [ints,Value.oneCell']) (fun _=>rfl) ?_; intro v28; refine WS.oc (j:=0) rfl (fun hv28=>?_)
   refine Wz 1 ?_
   exact Wd (Qc (Cr (Qs (Qr (out1 rfl rfl (fun u hu=>Jgh ((if_neg hc1).trans ((if_neg hc2).trans (if_pos (.inl hc3)))) hv28 (j:=0) rfl hu))))))
  exact absurd hc3 hc4
 refine Ny 2 ?_
 refine Wd (Qc (CS.cond rfl ?_ ?_))<;>intro hc5<;>try simp only [bq] at hc5
 ·
  refine Nz 1 ?_
  refine Wk 1 (by first | exact Jaa (j:=0) rfl rfl rfl tk3 | exact Jac rfl (by assumption) rfl tk3) ?_
  refine Wk 0 (by first | exact Jaa (j:=0) rfl rfl rfl tk3 | exact Jac rfl (by assumption) rfl tk3) ?_
  refine WS.buildSlice1 (pl:=[(0,.tmp 25),(1,.tmp 27)]) (vs:=ints [c.a,c.b]) sl32 zv3 rfl rfl (by decide) (by simp [ints,Value.oneCell']) (fun _=>rfl) ?_; intro v28; refine WS.oc (j:=0) rfl (fun hv28=>?_)
  refine Wz 1 ?_
  exact Wd (Qc (Cr (Qs (Qr (out1 rfl rfl (fun u hu=>Jgh ((if_neg hc1).trans ((if_neg hc2).trans (if_pos (.inr hc5)))) hv28 (j:=0) rfl hu))))))
 refine Cs (Nz 2 ?_)
 refine Wd (Qc (CS.cond rfl ?_ ?_))<;>intro hc6<;>try simp only [bq] at hc6
 ·
  refine Ck (Qc (CS.cond rfl ?_ ?_))<;>intro hc7<;>try simp only [bq] at hc7
  ·
   refine Nz 1 ?_
   refine Wk 1 (by first | exact Jaa (j:=0) rfl rfl rfl tk3 | exact Jac rfl (by assumption) rfl tk3) ?_
   refine Wk 0 (by first | exact Jaa (j:=0) rfl rfl rfl tk3 | exact Jac rfl (by assumption) rfl tk3) ?_
   refine WS.buildSlice1 (pl:=[(0,.tmp 33),(1,.tmp 35)]) (vs:=ints [c.n,c.m]) sl32 zv3 rfl rfl (by decide) (by simp [ints,Value.oneCell']) (fun _=>rfl) ?_; intro v36; refine WS.oc (j:=0) rfl (fun hv36=>?_)
   refine Wz 1 ?_
   exact Wd (Qc (Cr (Qs (Qr (out1 rfl rfl (fun u hu=>Jgh ((if_neg hc1).trans ((if_neg hc2).trans ((if_neg (by omega)).trans (if_pos (.inl hc6))))) hv36 (j:=0) rfl hu))))))
  exact absurd hc6 hc7
 refine Ny 2 ?_
 refine Wd (Qc (CS.cond rfl ?_ ?_))<;>intro hc8<;>try simp only [bq] at hc8
 ·
  refine Nz 1 ?_
  refine Wk 1 (by first | exact Jaa (j:=0) rfl rfl rfl tk3 | exact Jac rfl (by assumption) rfl tk3) ?_
  refine Wk 0 (by first | exact Jaa (j:=0) rfl rfl rfl tk3 | exact Jac rfl (by assumption) rfl tk3) ?_
  refine WS.buildSlice1 (pl:=[(0,.tmp 33),(1,.tmp 35)]) (vs:=ints [c.n,c.m]) sl32 zv3 rfl rfl (by decide) (by simp [ints,Value.oneCell']) (fun _=>rfl) ?_; intro v36; refine WS.oc (j:=0) rfl (fun hv36=>?_)
  refine Wz 1 ?_
  exact Wd (Qc (Cr (Qs (Qr (out1 rfl rfl (fun u hu=>Jgh ((if_neg hc1).trans ((if_neg hc2).trans ((if_neg (by omega)).trans (if_pos (.inr hc8))))) hv36 (j:=0) rfl hu))))))
 refine Ck (Qb (Qc (Nz 1 ?_)))
 refine Wk 1 (by first | exact Jaa (j:=0) rfl rfl rfl tk3 | exact Jac rfl (by assumption) rfl tk3) ?_
 refine Wk 1 (by first | exact Jaa (j:=0) rfl rfl rfl tk3 | exact Jac rfl (by assumption) rfl tk3) ?_
 refine Wk 0 (by first | exact Jaa (j:=0) rfl rfl rfl tk3 | exact Jac rfl (by assumption) rfl tk3) ?_
 refine WS.buildSlice1 (pl:=[(0,.tmp 38),(1,.tmp 40),(2,.tmp 42)]) (vs:=ints [c.a,c.n,c.m]) sl32 zv3 rfl rfl (by decide) (by simp [ints,Value.oneCell']) (fun _=>rfl) ?_; intro v43; refine WS.oc (j:=0) rfl (fun hv43=>?_)
 refine Wz 1 ?_
 exact Wd (Qc (Cr (out1 rfl rfl (fun u hu=>Jgh ((if_neg hc1).trans ((if_neg hc2).trans ((if_neg (by omega)).trans (if_neg (by omega))))) hv43 (j:=0) rfl hu))))
theorem Jmh (w:World) :
  Calls Tryz.prog 42 #[] w (RetL w kindL):=by
 refine enter Tryz.func42 rfl rfl (Nat.le_of_ble_eq_true rfl) ?_
 refine Nz 1 ?_
 refine Wd (Qc (Nz 0 ?_))
 refine WS.buildSlice1 (pl:=[(0,.const (.string ⟨#[]⟩)),(1,.const (.string ⟨#[97,116]⟩)),(2,.const (.string ⟨#[115,117,109]⟩)),(3,.const (.string ⟨#[108,101,115,115]⟩)),(4,.const (.string ⟨#[115,97,109,101]⟩)),(5,.const (.string ⟨#[104,97,115]⟩)),(6,.const (.string ⟨#[114,105,103,104,116]⟩)),(7,.const (.string ⟨#[114,101,109,97,105,110]⟩))]) (vs:=kindL.map .string) sl22 zv9 rfl rfl (by decide) (by intro v hv; obtain ⟨x,_,rfl⟩:=List.mem_map.1 hv; rfl) (fun _=>rfl) ?_; intro v1
 refine Wz 1 ?_
 refine Wd (Qc (Cr ?_))
 exact out1 rfl rfl (by
   rw [← Jhw]
   exact fun u hu=>Jpp (j:=0) rfl hu)
end Go.Proofs.YtdpbapffdmahnaaGreatDoor
