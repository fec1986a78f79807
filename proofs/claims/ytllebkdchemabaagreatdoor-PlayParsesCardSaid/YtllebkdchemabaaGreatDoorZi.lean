/- Merged texts of this proof. -/
import Derived.Test.YtllebkdchemabaaGreatDoorZb
import Derived.Shelf.Strings.SlTrimAscii
import Derived.Test.YtllebkdchemabaaGreatDoorShelf
import Derived.Test.YtllebkdchemabaaGreatDoorZd
import Derived.Test.YtllebkdchemabaaGreatDoorZb2
set_option maxHeartbeats 8000000
namespace Go.Proofs.YtllebkdchemabaaGreatDoor
open Go.RowKit Go.Proofs Tryz
set_option maxRecDepth 100000
set_option linter.unusedVariables false
set_option linter.unusedSimpArgs false
def MaxOk (w:World):Prop:=∃m:Int,w.cell? ⟨4,0,none⟩=some (.int .i64 m)
variable {w u:World}
theorem MaxOk.ext (h:MaxOk w) (hb:Below w.heap.size w u):MaxOk u:=let⟨m,e⟩:=h;⟨m,Bi hb (Nat.le_refl _) e⟩
theorem MaxOk.st {L:List SA} (h:MaxOk w) (hu:St w.heap.size w L u):MaxOk u:=h.ext hu.below
theorem M9 (c:UInt8) (tx:ByteArray) (w:World) (hM:MaxOk w) (hs:tx.size<4294967281):
  Calls prog 26 #[.string tx,.string ⟨#[c]⟩] w (RetL w (Ab c tx)):=by
 obtain⟨m,hm⟩:=hM;refine(Tryz.strings_Split tx ⟨#[c]⟩ m w hs hm (show 1<=1 by decide)).mono ?_;rintro e w' ⟨rfl,rfl⟩;rw[Jh,JA];exact QC (by have:=Bn c tx;omega)
theorem Uh (tx:ByteArray) (w:World) (hs:tx.size<=9223372036854775807):
  Calls prog 180 #[.string tx,.string ⟨#[48,49,50,51,52,53,54,55,56,57]⟩] w (RetB w (.string ⟨(Lib.trimS (bl tx) decL).toArray⟩)):=
 Any.strings_Trim_laid Tryz.lays160 (by kernel_rfl) tx ⟨#[48,49,50,51,52,53,54,55,56,57]⟩ w hs (by decide) (ascii_of_all (by decide))
theorem SN (tx:ByteArray) {most:Int} (w:World) (h:AB tx most=true) (hm:most<=18):
  Calls prog 181 #[.string tx] w (RetB w (.tuple #[.int .i64 (numL (bl tx)),.nilIface])):=by
 have h1:tx.size<=18:=by simp only[AB,Bool.and_eq_true,decide_eq_true_eq]at h;omega
 refine(Tryz.strconv_Atoi tx _ h1 (Wm h) w).mono ?_;rintro e w' ⟨rfl,t,rfl⟩;exact⟨rfl,Lib.bytesWorld_below _ _ _⟩
theorem VM (t0:ByteArray) (c:UInt8) (w:World) (ht:(t0.size:Int)<=1000000):
  Calls prog 320 #[.string t0,.int .u8 c.toNat] w (RetL w (Ab c t0)):=by
 refine En func320 ?_;refine Nz 1 ?_;refine Nx 1 ?_;refine Nx 1 ?_;refine Nv 1 ?_;refine Nu ?_;refine CS.weak (fun _ hu=>hu.osl0 (e:=9) (size:=1)) ?_;refine CS.loopM (σ:=Int×Int×Value×List ByteArray) (rsL [8,33]) (fun s=>[(7,.int .i64 s.1),(6,.int .i64 s.2.1),(5,s.2.2.1)]) (fun s=>[oT cStr 9 s.2.2.1 s.2.2.2]) (fun s=>0<=s.1/\SplitI c t0 s.1 s.2.1 s.2.2.2) (fun s=>(t0.size+1-s.1).toNat) (0,0,.slice none 0 0,[]) (fun _ _=>rfl) rfl rfl ⟨by simp,SplitI.start c t0⟩ ?_;intro a t hs;obtain⟨ha1,ha2⟩:=hs;refine Cs (Nz 2 ?_);refine Wk 1 (Al underlying9 rfl) ?_;refine Wp ?_ ?_<;>intro hc1
 ·have hxl:=ha2.len;refine Ck (Qc (Cs (Ce (Nz 2 ?_))));refine Wk 2 (Al underlying9 rfl) ?_;refine We 0 ?_;refine We 0 ?_;refine Wf 0 rfl rfl (fun hg=>An underlying9 (eg_ hg rfl) (eg_ hg rfl) (by(try simp only[bq]at hg);omega) (by(try simp only[bq]at hg);omega)) ?_;refine We 0 ?_;refine We 0 ?_;refine Wk 0 Po ?_;refine Wp ?_ ?_<;>intro hc2
  ·have hfb:=ha2.bd (show a.1<=t0.size by omega);refine Nz 4 ?_;refine Wk 0 (KT underlying9 rfl rfl rfl ⟨hfb.1,hfb.2,by omega⟩) ?_;refine WS.buildS1 (b:=t0.extract a.2.1.toNat a.1.toNat) sl23 zv9 rfl (fun _=>rfl) ?_;intro v30;refine WS.appendT1 (j:=1) (jz:=0) sl23 zv9 rfl (by decide) rfl rfl rfl rfl (w:=w) trivial (by omega) (by omega) (fun _=>rfl) (fun _=>rfl) ?_;intro v31 hv31;refine Wz 1 ?_;refine Nw 1 ?_;refine Wk 1 Za ?_;refine Wd (Qb (Qc (Ny 1 ?_)));refine Wk 1 Za ?_;refine Wd ?_;refine QS.sel [1] rfl ?_;exact QS.head ((a.1+1,a.1+1,v31,a.2.2.2++[t0.extract a.2.1.toNat a.1.toNat])) rfl rfl ⟨⟨by simp;omega,(if h:a.1=t0.size then ha2.last h else ha2.hit (by omega) (by omega))⟩,by simp;omega⟩
  refine Ck (Qb (Qc (Ny 1 ?_)));refine Wk 1 Za ?_;exact Wd (QS.head ((a.1+1,a.2.1,a.2.2.1,a.2.2.2)) rfl rfl ⟨⟨by simp;omega,ha2.other (by omega) (by omega)⟩,by simp;omega⟩)
 have hfin:=ha2.fin (by omega);refine Cv (Qe (Qe (Qx (Qc (Nz 2 ?_)))));refine Wd (Qc (Cr ?_))
 exact out1 rfl rfl (by
   rw[<-hfin]
   exact fun u hu=>Vm (j:=0) rfl hu)
theorem PA (t0:ByteArray) (most:Int) (w:World) (ht:(t0.size:Int)<=1000000):
  Calls prog 263 #[.string t0,.int .i64 most] w (RetB w (.bool (AB t0 most))):=by
 refine En func263 ?_;refine Nz 1 ?_;refine Nx 1 ?_;refine Wk 1 (Al underlying9 rfl) ?_;refine Wk 1 (Cb rfl rfl Ey (fun u hu=>Co _ _ _ u)) ?_;refine Wj 0 ?_;refine Wt 0 rfl rfl (fun hg=>Cb rfl (ec_ (eg_ hg rfl) (ec_ rfl en_)) UM (fun u hu=>Uh t0 u (by omega))) ?_;refine Wt 0 rfl rfl (fun hg=>Ah (eg_ hg rfl) rfl) ?_;refine Wk 1 Pa ?_;refine Wd (Qc (Cr ?_))
 exact out1 rfl rfl (Af (by
   rw[HJ];rfl))
theorem KU (t0:ByteArray) (most:Int) (w:World) (ht:(t0.size:Int)<=1000000):
  Calls prog 321 #[.string t0,.int .i64 most] w (RetB w (.bool (AB t0 most))):=by
 refine En func321 ?_;refine Nz 1 ?_;refine Nv 1 ?_;refine Nu ?_;refine CS.loopM (σ:=Int) (rsL [4,4,6,21]) (fun s=>[(5,.int .i64 s)]) (fun _=>_) (fun s=>0<=s/\s<=t0.size/\∀j:Int,0<=j->j<s->48<=byt t0 j/\byt t0 j<=57) (fun s=>(t0.size-s).toNat) 0 (fun _ _=>rfl) rfl rfl ⟨by omega,by omega,fun j _ _=>by omega⟩ ?_;intro s t hs;obtain⟨hs1,hs2,hs3⟩:=hs;refine Cs (Nz 2 ?_);refine Wk 1 (Al underlying9 rfl) ?_;refine Wp ?_ ?_<;>intro hc1
 ·refine Ck (Qc (Cs (Ce (Nz 2 ?_))));refine Wk 2 (An underlying9 rfl rfl (by omega) (by omega)) ?_;refine We 0 ?_;refine We 0 ?_;refine Wf 0 rfl rfl (fun hg=>An underlying9 (eg_ hg rfl) (eg_ hg rfl) (by(try simp only[bq]at hg);omega) (by(try simp only[bq]at hg);omega)) ?_;refine We 0 ?_;refine Wk 0 Po ?_;refine Wp ?_ ?_<;>intro hc2
  ·refine Nz 1 ?_;exact Wd (Qc (Cr (Qs (Qr (Qr (Qs (Qr (out1 rfl rfl (Af (by unfold AB;rw[R1 hs1 (by omega) (by omega)];simp))))))))))
  refine Ck (Qb (Qc (Ny 1 ?_)));refine Wk 1 Za ?_;refine Wd ?_
  exact QS.head (s+1) rfl rfl ⟨⟨by omega,by omega,fun j h0 h1=>by
     rcases(show j<s\/j=s by omega)with h|h
     ·exact hs3 j h0 h
     rw[h];omega⟩,by omega⟩
 refine Cv (Qe (Qe (Qx (Qc (Nz 1 ?_)))));refine Wk 1 (Al underlying9 rfl) ?_;refine Wk 1 (Cb rfl rfl Dv (fun u hu=>BK _ _ _ u)) ?_;exact Wd (Qc (Cr (out1 rfl rfl (Af (by unfold AB;rw[MX fun j h0 h1=>hs3 j h0 (by omega)];simp[Aj])))))
theorem WU (t0:ByteArray) (w:World) (ht:(t0.size:Int)<=1000000):
  Calls prog 264 #[.string t0] w (RetB w (.tuple #[.int .i64 ((numB 3 t0).getD 0),.bool (numB 3 t0).isSome])):=by
 refine En func264 ?_;refine Nz 2 ?_;refine Nv 1 ?_;refine Wk 2 (Cb rfl rfl XP (fun u hu=>PA _ _ u (by omega))) ?_;refine We 0 ?_;refine Wf 0 rfl rfl (fun hg=>An underlying9 (eg_ hg rfl) rfl (by decide) (by simp at hg;exact(Ef hg).1)) ?_;refine We 0 ?_;refine Wf 0 rfl rfl (fun hg=>Fm (eg_ hg rfl)) ?_;refine Wn 0 rfl rfl rfl (fun hg=>Fm) ?_;refine Wn 0 rfl rfl rfl (fun hg=>A3 (eg_ hg rfl) rfl) ?_;refine Wf 0 rfl rfl (fun hg=>AW (eg_ hg rfl) (Cg hg rfl) rfl) ?_;refine Wk 0 Po ?_;refine Wp ?_ ?_<;>intro hc1
 ·have hno:numB 3 t0=none:=by
   cases hd:AB t0 3 with
   |false=>exact Eh (.inl hd)
   |true=>
    rw[hd]at hc1;have h2:byt t0 0=48/\seq t0 ⟨#[48]⟩=false:=by simpa using hc1
    refine Eh (.inr ⟨h2.1,?_⟩);have h3:=EQ h2.1 (Ef hd).1;rw[h2.2]at h3
    simpa using h3.symm
  refine Nz 2 ?_;exact Wd (Qc (Cr (Qr (out2 rfl rfl rfl (Af (by rw[hno];rfl))))))
 have hd:AB t0 3=true:=by
  cases hd:AB t0 3 with
  |false=>rw[hd]at hc1;simp at hc1
  |true=>rfl
 have hyes:numB 3 t0=some (numL (bl t0)):=GC hd fun h=>by
  rw[hd]at hc1;have h3:=EQ h (Ef hd).1;rw[h3]at hc1;simp[h]at hc1;omega
 refine Ck (Qc (Nz 1 ?_));refine Wk 5 (Cb rfl rfl Su (fun u hu=>SN t0 u (most:=3) hd (by decide))) ?_;refine Wd (Qc (Cs (Dr mixed 2 ?_)));refine Dk 2 (HY (by kernel_rfl) rfl) ?_;exact Dd (Qc (Cr (out2 rfl rfl rfl (Af (by rw[hyes];rfl)))))
theorem SJ (t0:ByteArray) (w:World) (ht:(t0.size:Int)<=1000000):
  Calls prog 322 #[.string t0] w (RetB w (.tuple #[.int .i64 ((numB 3 t0).getD 0),.bool (numB 3 t0).isSome])):=by
 refine En func322 ?_;refine Nz 2 ?_;refine Nv 1 ?_;refine Wk 2 (Cb rfl rfl Yl (fun u hu=>KU _ _ u (by omega))) ?_;refine We 0 ?_;refine Wf 0 rfl rfl (fun hg=>An underlying9 (eg_ hg rfl) rfl (by decide) (by simp at hg;exact(Ef hg).1)) ?_;refine We 0 ?_;refine Wf 0 rfl rfl (fun hg=>Fm (eg_ hg rfl)) ?_;refine Wn 0 rfl rfl rfl (fun hg=>Fm) ?_;refine Wn 0 rfl rfl rfl (fun hg=>Al underlying9 (eg_ hg rfl)) ?_;refine Wn 0 rfl rfl rfl (fun hg=>Fg) ?_;refine Wf 0 rfl rfl (fun hg=>AW (eg_ hg rfl) (Cg hg rfl) rfl) ?_;refine Wk 0 Po ?_;refine Wp ?_ ?_<;>intro hc1
 ·have hno:numB 3 t0=none:=by
   cases hd:AB t0 3 with
   |false=>exact Eh (.inl hd)
   |true=>
    rw[hd]at hc1;exact Eh (.inr (by simpa using hc1))
  refine Nz 2 ?_;exact Wd (Qc (Cr (Qr (out2 rfl rfl rfl (Af (by rw[hno];rfl))))))
 have hd:AB t0 3=true:=by
  cases hd:AB t0 3 with
  |false=>rw[hd]at hc1;simp at hc1
  |true=>rfl
 have hyes:numB 3 t0=some (numL (bl t0)):=GC hd fun h=>by
  rw[hd]at hc1;simp[h]at hc1;omega
 have hsz:=Ef hd;refine Ck (Qc (Nz 1 ?_));refine Nv 1 ?_;refine Nu ?_;refine CS.loopM (σ:=Int×Int) (rsL [19,32]) (fun s=>[(5,.int .i64 s.1),(4,.int .i64 s.2)]) (fun _=>_) (fun s=>0<=s.1/\s.1<=t0.size/\s.2=numL ((bl t0).take s.1.toNat)) (fun s=>(t0.size-s.1).toNat) (0,0) (fun _ _=>rfl) rfl rfl ⟨by simp,by simp,rfl⟩ ?_;intro s t hs;obtain⟨hs1,hs2,hs3⟩:=hs;refine Cs (Nz 2 ?_);refine Wk 1 (Al underlying9 rfl) ?_;refine Wp ?_ ?_<;>intro hc2
 ·have hnt:=WC hd (by decide) s.1.toNat;have hdg:=Oy (Fv hd) hs1 (show s.1<t0.size by omega);refine Ck (Qc (Cs (Ce (Ny 1 ?_))));refine Wk 2 Zc ?_;refine Wk 0 (An underlying9 rfl rfl (by omega) (by omega)) ?_;refine Wk 0 (EC rfl rfl (by omega)) ?_;refine Wk 0 (DG underlying5 underlying3 rfl (by omega)) ?_;refine Wk 1 Za ?_;refine Wd (Qb (Qc (Ny 1 ?_)));refine Wk 1 Za ?_;exact Wd (QS.head ((s.1+1,10*s.2+(byt t0 s.1-48))) rfl rfl ⟨⟨by simp;omega,by simp;omega,by show _=numL ((bl t0).take (s.1+1).toNat);rw[Pd hs1 (by omega),hs3]⟩,by simp;omega⟩)
 have hfin:(bl t0).take s.1.toNat=bl t0:=List.take_of_length_le (by rw[Bp];omega);refine Cv (Qe (Qe (Qx (Qc (Nz 3 ?_)))));exact Wd (Qc (Cr (out2 rfl rfl rfl (Af (by rw[hyes,hs3,hfin];rfl)))))
theorem Vq (b:Nat) (k:Int) (w:World) (h1:w.cell? ⟨b,0,none⟩=some (.int .i64 k)):
  Calls prog 114 #[.pointer (some ⟨b,0,none⟩)] w (Jdr 190 w b (offK k)):=by
 refine En func114 ?_;refine Nz 1 ?_;refine Nv 3 ?_;refine Wk 0 (AX tk3 rfl (fun u hu=>Bi hu.below (Nat.le_refl _) h1)) ?_;refine Wd (Qc (Ce (Nz 2 ?_)));refine Wp ?_ ?_<;>intro hc1
 ·refine Cs ?_;refine CS.drawnAll (k:=8) mixed rfl rfl ?_;refine Ar [0,1,2,3,4,5] ?_;refine Ao 6 rfl ?_;refine WS.buildSlice1 (pl:=[(0,.tmp 11),(1,.tmp 14)]) (vs:=ptrL b [1,3]) Ka (show zv prog 190=some [.pointer none] by kernel_rfl) rfl rfl (by decide) (Ec b [1,3]) (fun _=>rfl) ?_;intro v15;refine WS.oc (j:=0) rfl (fun hv15=>?_);refine Wd (Qa ?_);refine Ar [7] ?_;refine Ae ?_;exact Qc (Cr (Qs (Qr (out1 rfl rfl (fun u hu=>MS (if_pos hc1) hv15 (j:=0) rfl hu)))))
 refine Nz 2 ?_;refine Wp ?_ ?_<;>intro hc2
 ·refine Cs ?_;refine CS.drawnAll (k:=11) mixed rfl rfl ?_;refine Ar [0,1,2,3,4,5,6,7,8] ?_;refine Ao 9 rfl ?_;refine WS.buildSlice1 (pl:=[(0,.tmp 20),(1,.tmp 23),(2,.tmp 26)]) (vs:=ptrL b [1,2,3]) Ka (show zv prog 190=some [.pointer none] by kernel_rfl) rfl rfl (by decide) (Ec b [1,2,3]) (fun _=>rfl) ?_;intro v27;refine WS.oc (j:=0) rfl (fun hv27=>?_);refine Wd (Qa ?_);refine Ar [10] ?_;refine Ae ?_;exact Qc (Cr (Qs (Qr (out1 rfl rfl (fun u hu=>MS ((if_neg hc1).trans (if_pos hc2)) hv27 (j:=0) rfl hu)))))
 refine Cs (Nz 2 ?_);refine Wp ?_ ?_<;>intro hc3
 ·refine Ck (Qc (Cn ?_ ?_))<;>intro hc4
  ·refine Cs ?_;refine CS.drawnAll (k:=8) mixed rfl rfl ?_;refine Ar [0,1,2,3,4,5] ?_;refine Ao 6 rfl ?_;refine WS.buildSlice1 (pl:=[(0,.tmp 33),(1,.tmp 36)]) (vs:=ptrL b [1,2]) Ka (show zv prog 190=some [.pointer none] by kernel_rfl) rfl rfl (by decide) (Ec b [1,2]) (fun _=>rfl) ?_;intro v37;refine WS.oc (j:=0) rfl (fun hv37=>?_);refine Wd (Qa ?_);refine Ar [7] ?_;refine Ae ?_;exact Qc (Cr (Qs (Qr (out1 rfl rfl (fun u hu=>MS ((if_neg hc1).trans ((if_neg hc2).trans (if_pos (.inl hc3)))) hv37 (j:=0) rfl hu)))))
  exact absurd hc3 hc4
 refine Ny 2 ?_;refine Wp ?_ ?_<;>intro hc5
 ·refine Cs ?_;refine CS.drawnAll (k:=8) mixed rfl rfl ?_;refine Ar [0,1,2,3,4,5] ?_;refine Ao 6 rfl ?_;refine WS.buildSlice1 (pl:=[(0,.tmp 33),(1,.tmp 36)]) (vs:=ptrL b [1,2]) Ka (show zv prog 190=some [.pointer none] by kernel_rfl) rfl rfl (by decide) (Ec b [1,2]) (fun _=>rfl) ?_;intro v37;refine WS.oc (j:=0) rfl (fun hv37=>?_);refine Wd (Qa ?_);refine Ar [7] ?_;refine Ae ?_;exact Qc (Cr (Qs (Qr (out1 rfl rfl (fun u hu=>MS ((if_neg hc1).trans ((if_neg hc2).trans (if_pos (.inr hc5)))) hv37 (j:=0) rfl hu)))))
 refine Cs (Nz 2 ?_);refine Wp ?_ ?_<;>intro hc6
 ·refine Ck (Qc (Cn ?_ ?_))<;>intro hc7
  ·refine Cs ?_;refine CS.drawnAll (k:=8) mixed rfl rfl ?_;refine Ar [0,1,2,3,4,5] ?_;refine Ao 6 rfl ?_;refine WS.buildSlice1 (pl:=[(0,.tmp 43),(1,.tmp 46)]) (vs:=ptrL b [3,4]) Ka (show zv prog 190=some [.pointer none] by kernel_rfl) rfl rfl (by decide) (Ec b [3,4]) (fun _=>rfl) ?_;intro v47;refine WS.oc (j:=0) rfl (fun hv47=>?_);refine Wd (Qa ?_);refine Ar [7] ?_;refine Ae ?_;exact Qc (Cr (Qs (Qr (out1 rfl rfl (fun u hu=>MS ((if_neg hc1).trans ((if_neg hc2).trans ((if_neg (by omega)).trans (if_pos (.inl hc6))))) hv47 (j:=0) rfl hu)))))
  exact absurd hc6 hc7
 refine Ny 2 ?_;refine Wp ?_ ?_<;>intro hc8
 ·refine Cs ?_;refine CS.drawnAll (k:=8) mixed rfl rfl ?_;refine Ar [0,1,2,3,4,5] ?_;refine Ao 6 rfl ?_;refine WS.buildSlice1 (pl:=[(0,.tmp 43),(1,.tmp 46)]) (vs:=ptrL b [3,4]) Ka (show zv prog 190=some [.pointer none] by kernel_rfl) rfl rfl (by decide) (Ec b [3,4]) (fun _=>rfl) ?_;intro v47;refine WS.oc (j:=0) rfl (fun hv47=>?_);refine Wd (Qa ?_);refine Ar [7] ?_;refine Ae ?_;exact Qc (Cr (Qs (Qr (out1 rfl rfl (fun u hu=>MS ((if_neg hc1).trans ((if_neg hc2).trans ((if_neg (by omega)).trans (if_pos (.inr hc8))))) hv47 (j:=0) rfl hu)))))
 refine Ck (Qb (Qc (Cs ?_)));refine CS.drawnAll (k:=11) mixed rfl rfl ?_;refine Ar [0,1,2,3,4,5,6,7,8] ?_;refine Ao 9 rfl ?_;refine WS.buildSlice1 (pl:=[(0,.tmp 50),(1,.tmp 53),(2,.tmp 56)]) (vs:=ptrL b [1,3,4]) Ka (show zv prog 190=some [.pointer none] by kernel_rfl) rfl rfl (by decide) (Ec b [1,3,4]) (fun _=>rfl) ?_;intro v57;refine WS.oc (j:=0) rfl (fun hv57=>?_);refine Wd (Qa ?_);refine Ar [10] ?_;refine Ae ?_;exact Qc (Cr (out1 rfl rfl (fun u hu=>MS ((if_neg hc1).trans ((if_neg hc2).trans ((if_neg (by omega)).trans (if_neg (by omega))))) hv57 (j:=0) rfl hu)))
theorem Um (c:Clue) (gv:Value) (w:World) (hg:gv.oneCell'=true):
  Calls prog 121 #[.agg #[.int .i64 c.k,.int .i64 c.a,.int .i64 c.b,.int .i64 c.n,.int .i64 c.m,gv,.bool c.nt]] w (RetI 3 w (SL c)):=by
 refine En func121 ?_;refine Nz 0 ?_;refine Wr 1 fun b1 hb1=>?_;refine Nv 1 ?_;refine Wk 0 (Ba 0) ?_;refine Wd (Qc (Ce (Nz 2 ?_)));refine Wp ?_ ?_<;>intro hc1
 ·refine Nz 1 ?_;refine Wk 1 (Ba 0) ?_;refine Wk 0 (Ba 0) ?_;refine WS.buildSlice1 (pl:=[(0,.tmp 8),(1,.tmp 10)]) (vs:=ints [c.a,c.n]) sl48 zv3 rfl rfl (by decide) (by simp[ints,Value.oneCell']) (fun _=>rfl) ?_;intro v11;refine WS.oc (j:=0) rfl (fun hv11=>?_);refine Wz 1 ?_;exact Wd (Qc (Cr (Qs (Qr (out1 rfl rfl (fun u hu=>Np (if_pos hc1) hv11 (j:=0) rfl hu))))))
 refine Nz 2 ?_;refine Wp ?_ ?_<;>intro hc2
 ·refine Nz 1 ?_;refine Wk 1 (Ba 0) ?_;refine Wk 1 (Ba 0) ?_;refine Wk 0 (Ba 0) ?_;refine WS.buildSlice1 (pl:=[(0,.tmp 15),(1,.tmp 17),(2,.tmp 19)]) (vs:=ints [c.a,c.b,c.n]) sl48 zv3 rfl rfl (by decide) (by simp[ints,Value.oneCell']) (fun _=>rfl) ?_;intro v20;refine WS.oc (j:=0) rfl (fun hv20=>?_);refine Wz 1 ?_;exact Wd (Qc (Cr (Qs (Qr (out1 rfl rfl (fun u hu=>Np ((if_neg hc1).trans (if_pos hc2)) hv20 (j:=0) rfl hu))))))
 refine Cs (Nz 2 ?_);refine Wp ?_ ?_<;>intro hc3
 ·refine Ck (Qc (Cn ?_ ?_))<;>intro hc4
  ·refine Nz 1 ?_;refine Wk 1 (Ba 0) ?_;refine Wk 0 (Ba 0) ?_;refine WS.buildSlice1 (pl:=[(0,.tmp 25),(1,.tmp 27)]) (vs:=ints [c.a,c.b]) sl48 zv3 rfl rfl (by decide) (by simp[ints,Value.oneCell']) (fun _=>rfl) ?_;intro v28;refine WS.oc (j:=0) rfl (fun hv28=>?_);refine Wz 1 ?_;exact Wd (Qc (Cr (Qs (Qr (out1 rfl rfl (fun u hu=>Np ((if_neg hc1).trans ((if_neg hc2).trans (if_pos (.inl hc3)))) hv28 (j:=0) rfl hu))))))
  exact absurd hc3 hc4
 refine Ny 2 ?_;refine Wp ?_ ?_<;>intro hc5
 ·refine Nz 1 ?_;refine Wk 1 (Ba 0) ?_;refine Wk 0 (Ba 0) ?_;refine WS.buildSlice1 (pl:=[(0,.tmp 25),(1,.tmp 27)]) (vs:=ints [c.a,c.b]) sl48 zv3 rfl rfl (by decide) (by simp[ints,Value.oneCell']) (fun _=>rfl) ?_;intro v28;refine WS.oc (j:=0) rfl (fun hv28=>?_);refine Wz 1 ?_;exact Wd (Qc (Cr (Qs (Qr (out1 rfl rfl (fun u hu=>Np ((if_neg hc1).trans ((if_neg hc2).trans (if_pos (.inr hc5)))) hv28 (j:=0) rfl hu))))))
 refine Cs (Nz 2 ?_);refine Wp ?_ ?_<;>intro hc6
 ·refine Ck (Qc (Cn ?_ ?_))<;>intro hc7
  ·refine Nz 1 ?_;refine Wk 1 (Ba 0) ?_;refine Wk 0 (Ba 0) ?_;refine WS.buildSlice1 (pl:=[(0,.tmp 33),(1,.tmp 35)]) (vs:=ints [c.n,c.m]) sl48 zv3 rfl rfl (by decide) (by simp[ints,Value.oneCell']) (fun _=>rfl) ?_;intro v36;refine WS.oc (j:=0) rfl (fun hv36=>?_);refine Wz 1 ?_;exact Wd (Qc (Cr (Qs (Qr (out1 rfl rfl (fun u hu=>Np ((if_neg hc1).trans ((if_neg hc2).trans ((if_neg (by omega)).trans (if_pos (.inl hc6))))) hv36 (j:=0) rfl hu))))))
  exact absurd hc6 hc7
 refine Ny 2 ?_;refine Wp ?_ ?_<;>intro hc8
 ·refine Nz 1 ?_;refine Wk 1 (Ba 0) ?_;refine Wk 0 (Ba 0) ?_;refine WS.buildSlice1 (pl:=[(0,.tmp 33),(1,.tmp 35)]) (vs:=ints [c.n,c.m]) sl48 zv3 rfl rfl (by decide) (by simp[ints,Value.oneCell']) (fun _=>rfl) ?_;intro v36;refine WS.oc (j:=0) rfl (fun hv36=>?_);refine Wz 1 ?_;exact Wd (Qc (Cr (Qs (Qr (out1 rfl rfl (fun u hu=>Np ((if_neg hc1).trans ((if_neg hc2).trans ((if_neg (by omega)).trans (if_pos (.inr hc8))))) hv36 (j:=0) rfl hu))))))
 refine Ck (Qb (Qc (Nz 1 ?_)));refine Wk 1 (Ba 0) ?_;refine Wk 1 (Ba 0) ?_;refine Wk 0 (Ba 0) ?_;refine WS.buildSlice1 (pl:=[(0,.tmp 38),(1,.tmp 40),(2,.tmp 42)]) (vs:=ints [c.a,c.n,c.m]) sl48 zv3 rfl rfl (by decide) (by simp[ints,Value.oneCell']) (fun _=>rfl) ?_;intro v43;refine WS.oc (j:=0) rfl (fun hv43=>?_);refine Wz 1 ?_;exact Wd (Qc (Cr (out1 rfl rfl (fun u hu=>Np ((if_neg hc1).trans ((if_neg hc2).trans ((if_neg (by omega)).trans (if_neg (by omega))))) hv43 (j:=0) rfl hu))))
theorem S1 (w:World):
  Calls prog 120 #[] w (RetL w kindL):=by
 refine En func120 ?_;refine Nz 1 ?_;refine Nx 0 ?_;refine WS.buildSlice1 (pl:=[(0,.const (.string ⟨#[]⟩)),(1,.const (.string ⟨#[97,116]⟩)),(2,.const (.string ⟨#[115,117,109]⟩)),(3,.const (.string ⟨#[108,101,115,115]⟩)),(4,.const (.string ⟨#[115,97,109,101]⟩)),(5,.const (.string ⟨#[104,97,115]⟩)),(6,.const (.string ⟨#[114,105,103,104,116]⟩)),(7,.const (.string ⟨#[114,101,109,97,105,110]⟩))]) (vs:=kindL.map .string) sl23 zv9 rfl rfl (by decide) (by intro v hv;obtain⟨x,_,rfl⟩:=List.mem_map.1 hv;rfl) (fun _=>rfl) ?_;intro v1;refine Wz 1 ?_;refine Wd (Qc (Cr ?_))
 exact out1 rfl rfl (by
   rw[<-JU]
   exact fun u hu=>Vm (j:=0) rfl hu)
def WOk (w:World):Prop:=∀j,j<8->w.cell? ⟨1,j,none⟩=some (.string (kindL.getD j ByteArray.empty))
theorem WOk.ext (h:WOk w) (hb:Below w.heap.size w u):WOk u:=fun j hj=>Bi hb (Nat.le_refl _) (h j hj)
theorem WOk.st {L:List SA} (h:WOk w) (hu:St w.heap.size w L u):WOk u:=h.ext hu.below
theorem Jbu (tx:ByteArray) (w:World) (hW:WOk w):Calls prog 82 #[.slice (some ⟨1,0,none⟩) 8 8,.string tx] w (RetB w (.int .i64 (Lib.idxOfS kindL tx))):=by
 refine(Tryz.slices_Index_string 1 0 8 8 kindL tx w (by decide) (by decide) (fun j hj=>by rw[Nat.zero_add];exact hW j hj)).mono ?_;rintro e w' ⟨rfl,rfl⟩;exact⟨rfl,Below.refl _ _⟩
theorem Z8 (t0:ByteArray) (w:World) (hM:MaxOk w) (hW:WOk w) (ht:(t0.size:Int)<=1000000):
  Calls prog 182 #[.string t0] w (Xk w (BL t0)):=by
 have hp:=AE 32 t0;have hsz:∀x∈Ab 32 t0,(x.size:Int)<=1000000:=fun x hx=>by have:=A6 hx;omega
 refine En func182 ?_;refine Nz 0 ?_;refine Wq 1 zv89 fun b2 hb2=>?_;refine Nx 1 ?_;refine Wc rfl rfl U0 (fun u hu=>M9 32 t0 u (hM.st hu) (by omega)) (fun _=>rfl) ?_;rintro v13 ⟨u13,hv13⟩;have hpw:(1:Int)<=((⟨v13,Ab 32 t0⟩:Sl ByteArray).l.length:Int):=by show(1:Int)<=((Ab 32 t0).length:Int);omega
 refine Wz 1 ?_;refine Wd (Qc ?_);refine CS.cut (σ:=Bool×Sl ByteArray) [14,15,16,17,18,19,20] (fun s=>[(4,s.2.v)]) (fun s=>[blk b2 (Aw ⟨0,0,0,0,0,[],s.1⟩ (.slice none 0 0)) 89,roT cStr s.2]) (fun s=>(s.1=seq (nth (Ab 32 t0) 0) notW/\s.2.l=if s.1 then(Ab 32 t0).tail else Ab 32 t0)/\(∃u0,SlT cStr u0 s.2)/\∀x∈s.2.l,(x.size:Int)<=1000000) (fun _ _=>rfl) ?_ ?_
 ·refine Nz 1 ?_;refine Wk 0 (Xc (s:=⟨v13,Ab 32 t0⟩)) ?_;refine Wk 0 (Vb 0 rfl (s:=⟨v13,Ab 32 t0⟩)) ?_;refine Wk 0 (Ah rfl rfl) ?_;refine Wp ?_ ?_<;>intro hc1
  ·refine Nz 1 ?_;refine Ws 0 1 ?_;refine Nw 1 ?_;refine Wk 1 (Bf sl23 rfl rfl hv13.sp (by decide) (by omega)) ?_;refine Wd ?_;refine QS.weak (fun u hu=>St.roCut (lo:=1) (hi:=(Ab 32 t0).length) hu (by omega) (Nat.le_refl _)) ?_;refine QS.sel [1,0] rfl ?_;exact QS.head ((true,(⟨v13,Ab 32 t0⟩:Sl ByteArray).cut 1 1 (Ab 32 t0).length)) rfl rfl ⟨⟨hc1.symm,CZ _⟩,⟨u13,hv13.cut (by omega) (Nat.le_refl _)⟩,fun x hx=>hsz x (List.mem_of_mem_drop (List.mem_of_mem_take hx))⟩
  refine Ck ?_;refine QS.sel [1,0] rfl ?_;exact QS.head ((false,⟨v13,Ab 32 t0⟩)) rfl rfl ⟨⟨hc1.symm,rfl⟩,⟨u13,hv13⟩,hsz⟩
 intro a t hs;obtain⟨nt,q⟩:=a;obtain⟨⟨ha1,ha2⟩,⟨ua,ha3⟩,ha4⟩:=hs;dsimp only at ha1 ha2 ha3 ha4;have hR:BL t0=K4 nt q.l:=TE ha1 ha2;have lq:=ha3.le;refine Cs (Nz 1 ?_);refine Wk 2 (Nc (s:=q)) ?_;refine We 0 ?_;refine Wf 0 rfl rfl (fun hg=>Xc (s:=q)) ?_;refine Wf 0 rfl rfl (fun hg=>Vb 1 rfl (s:=q)) ?_;refine Wf 0 rfl rfl (fun hg=>Ah (eg_ hg rfl) rfl) ?_;refine Wk 0 Po ?_;refine Wp ?_ ?_<;>intro hc2
 ·have hno:BL t0=none:=by rw[hR];exact Jg hc2
  refine Nz 0 ?_;refine Wk 0 (Bb 0) ?_;refine Wv 1 0 ?_;exact Wd (Qc (Cr (Qr (outR (Bv rfl (Ag (j:=0) rfl rfl tk89) rfl) (fun u hu=>Ez hno rfl (Bs rfl) hu)))))
 have hq0:0<q.l.length:=by omega
 have hR2:BL t0=Hj nt (AD (nth q.l 0)) q.l.tail:=by rw[hR,Jz hq0]
 have hix:=UR (t:=nth q.l 0) (by simpa using hc2.2);have hkb:=FR (nth q.l 0);refine Ck (Qc (Cs ?_));refine CS.drawnTill 6 (k:=7) mixed rfl rfl ?_;refine Tk 7 0 [1] rfl (YB underlying186 (by obtain⟨i,_,h,hs,_⟩:=BX sl23;exact⟨i,h,hs⟩) (by decide)) ?_;refine Tk 7 2 [] rfl (Xc (s:=q)) ?_;refine Tk 7 3 [] rfl (Vb 1 rfl (s:=q)) ?_;refine Tk 7 4 [5] rfl (Cb rfl rfl SC (fun u hu=>Jbu _ u (hW.st hu))) ?_;refine To 6 rfl ?_;refine Ws 0 0 ?_;refine Wd (Qt ?_);refine Te ?_;refine Qc (Cs (Nz 1 ?_));refine Wk 1 (Ba 0) ?_;refine Wp ?_ ?_<;>intro hc3
 ·have hk0:AD (nth q.l 0)=0:=by
   rw[hix]at hc3;split at hc3
   ·assumption
   omega
  have hno:BL t0=none:=by rw[hR2,hk0];rfl
  refine Nz 0 ?_;refine Wk 0 (Bb 0) ?_;refine Wv 1 0 ?_;exact Wd (Qc (Cr (Qr (outR (Bv rfl (Ag (j:=0) rfl rfl tk89) rfl) (fun u hu=>Ez hno rfl (Bs (c:=⟨Lib.idxOfS kindL (nth q.l 0),0,0,0,0,[],nt⟩) (gv:=.slice none 0 0) rfl) hu)))))
 have hk0:¬AD (nth q.l 0)=0:=fun h=>by
  rw[hix,if_pos h]at hc3;omega
 have hkk:Lib.idxOfS kindL (nth q.l 0)=AD (nth q.l 0):=by rw[hix,if_neg hk0]
 refine Ck (Qc ?_);refine CS.cut (σ:=Sl ByteArray) [41,42] (fun s=>[(4,s.v)]) (fun s=>[blk b2 (Aw ⟨(AD (nth q.l 0)),0,0,0,0,[],nt⟩ (.slice none 0 0)) 89,roT cStr s]) (fun s=>s.l=q.l.tail/\(∃u0,SlT cStr u0 s)/\∀x∈s.l,(x.size:Int)<=1000000) (fun _ _=>rfl) ?_ ?_
 ·refine Ny 1 ?_;refine Wk 1 (Bf sl23 rfl rfl ha3.sp (by decide) (by omega)) ?_;refine Wd ?_;refine QS.sel [1,0] rfl ?_;refine QS.weak (fun u hu=>St.roCut (lo:=1) (hi:=q.l.length) hu (by omega) (Nat.le_refl _)) ?_;refine QS.sel [1,0] rfl ?_;exact QS.head ((q.cut 1 1 q.l.length)) rfl (by first|(rw[hkk];done)|(rw[hkk];rfl)) ⟨CZ _,⟨ua,ha3.cut (by omega) (Nat.le_refl _)⟩,fun x hx=>ha4 x (List.mem_of_mem_drop (List.mem_of_mem_take hx))⟩
 intro d t hs;obtain⟨hd1,⟨ud,hd2⟩,hd3⟩:=hs;have hR3:BL t0=Hj nt (AD (nth q.l 0)) d.l:=by rw[hR2,hd1]
 have ld:=hd2.le;refine CS.cut (σ:=Sl ByteArray×Value×List Int) [3,6,43,44,45,46,47,48,49,50,51,52,53,54,55,56,57,58,59,60,61,62,63,64,65,66,67,68,69,70,71,72,73,74,75,76,77,78,79,80] (fun s=>[(4,s.1.v)]) (fun s=>[blk b2 (Aw ⟨(AD (nth q.l 0)),0,0,0,0,[],nt⟩ (s.2.1)) 89,roT cStr s.1,roI s.2.1 s.2.2]) (fun s=>(∀x∈s.1.l,(x.size:Int)<=1000000)/\(∃u0,SlT cStr u0 s.1)/\s.2.1.oneCell'=true/\BL t0=rdN nt (AD (nth q.l 0)) s.1.l s.2.2) (fun _ _=>rfl) ?_ ?_
 ·refine Nz 1 ?_;refine Wk 2 (Ba 0) ?_;refine Wj 0 ?_;refine Wt 0 rfl rfl (fun hg=>Nc (s:=d)) ?_;refine Wj 0 ?_;refine Wk 0 Pa ?_;refine Wp ?_ ?_<;>intro hc4
  ·have hd2s:((nth d.l 2).size:Int)<=1000000:=hd3 _ (Ai (by decide) (by omega));refine Cs (Nz 1 ?_);refine Wk 0 (Xc (s:=d)) ?_;refine Wk 0 (Vb 1 rfl (s:=d)) ?_;refine Wk 1 (Cb rfl rfl XP (fun u hu=>PA _ _ u (by omega))) ?_;refine Wp ?_ ?_<;>intro hc5
   ·have hno:BL t0=none:=by
     rw[hR3];exact GE hc4.1 (fun h=>by rw[h.2]at hc5;simp at hc5)
    refine Nz 0 ?_;refine Wk 0 (Bb 0) ?_;refine Wv 1 0 ?_;exact Wd (Qc (Cr (Qr (Qr (outR (Bv rfl (Ag (j:=0) rfl rfl tk89) rfl) (fun u hu=>Ez hno rfl (Bs rfl) hu))))))
   have hdg:AB (nth d.l 2) 4=true:=by simpa using hc5
   have hbl:=F9 (nth d.l 2);refine Ck (Qc (Cs (Nz 1 ?_)));refine Wk 0 (Xc (s:=d)) ?_;refine Wk 0 (Vb 1 rfl (s:=d)) ?_;refine WS.bytes underlying9 underlying95 underlying5 rfl (by unfold maxLen;omega) (fun _=>rfl) ?_;rintro v60 ⟨u60,hv60⟩;refine Wk 1 (Nc (s:=⟨v60,byts (nth d.l 2)⟩)) ?_;refine Nu ?_;refine CS.weak (fun _ hu=>hu.osl0 (e:=3) (size:=1)) ?_;refine CS.sel [0,1,0,0] rfl ?_;refine CS.loopM (σ:=Int×Value) (rsL [6,6,63,74]) (fun s=>[(62,.int .i64 s.1)]) (fun s=>[oints 3 s.2 ((BB (nth d.l 2)).take s.1.toNat),blk b2 (Aw ⟨(AD (nth q.l 0)),0,0,0,0,[],nt⟩ (s.2)) 89,roT cU8 ⟨v60,byts (nth d.l 2)⟩,roT cStr d]) (fun s=>0<=s.1/\s.1<=(nth d.l 2).size/\s.2.oneCell'=true) (fun s=>((nth d.l 2).size-s.1).toNat) (0,.slice none 0 0) (fun _ _=>rfl) rfl rfl ⟨by simp,by simp,rfl⟩ ?_;intro i t hs;obtain⟨hi1,hi2,hi4⟩:=hs;refine Nz 1 ?_;refine Wd (Qc (Cs (Cn ?_ ?_)))<;>intro hc6
   ·have hi3:i.1<((nth d.l 2).size:Int):=by omega
    have hbn:=Ov hi1 hi3;have hdi:=Oy (Fv hdg) hi1 hi3;refine Ck (Qc (Cs (Ce (Nz 0 ?_))));refine Wk 0 (Xc (s:=⟨v60,byts (nth d.l 2)⟩)) ?_;refine Wk 1 (Vb 2 rfl (K:=cU8) (s:=⟨v60,byts (nth d.l 2)⟩) (v:=.int .u8 (byt (nth d.l 2) i.1)) (h:=⟨hi1,by show i.1<((byts (nth d.l 2)).length:Int);omega⟩) (hc:=by rw[<-hbn];rfl)) ?_;refine Nw 1 ?_;refine Wk 1 (Ba 1) ?_;refine Wk 0 (EC rfl rfl (by omega)) ?_;refine Wk 0 (DG underlying5 underlying3 rfl (by omega)) ?_;refine WS.buildI1 sl48 zv3 rfl (fun _=>rfl) ?_;intro v71;refine WS.appendI (j:=1) sl48 zv3 rfl rfl rfl (fun u hu=>AK hu (j:=0) rfl) (by simp only[List.length_take,Cz,List.length_singleton];omega) (by simp only[List.length_take,Cz,List.length_singleton];omega) (fun _=>rfl) (fun _=>rfl) ?_;intro v72;refine WS.oc (j:=1) rfl (fun hv72=>?_);refine Wz 1 ?_;refine Ws 0 2 ?_;refine Wd (Qb (Qc (Ny 0 ?_)));refine Wk 1 Za ?_;refine Wd ?_;refine QS.sel [1,1,1,1] rfl ?_;exact QS.head ((i.1+1,v72)) rfl (by first|(rw[show(i.1+1,v72).1=i.1+1 from rfl,C6 hi1 hi3];done)|(rw[show(i.1+1,v72).1=i.1+1 from rfl,C6 hi1 hi3];rfl)) ⟨⟨by simp;omega,by simp;omega,hv72⟩,by simp;omega⟩
   refine Cv (Qe (Qe (Qx (Qc (Ny 1 ?_)))));refine Wk 1 (Cl sl23 rfl rfl hd2.sp (by decide) (by omega)) ?_;refine Wd ?_;refine QS.sel [0,2,0] rfl ?_;refine QS.weak (fun u hu=>hu.toRoI) ?_;refine QS.sel [1,0,0] rfl ?_;refine QS.weak (fun u hu=>St.roCut (lo:=0) (hi:=2) hu (by omega) (by omega)) ?_;refine QS.sel [2,0,0] rfl ?_
   exact QS.head ((d.cut 1 0 2,i.2,(BB (nth d.l 2)).take i.1.toNat)) rfl rfl ⟨fun x hx=>hd3 x (List.mem_of_mem_drop (List.mem_of_mem_take hx)),⟨ud,hd2.cut (by omega) (by omega)⟩,hi4,by
      rw[hR3,K8 hc4.1 (by omega) hdg,show(BB (nth d.l 2)).take i.1.toNat=BB (nth d.l 2)from List.take_of_length_le (by rw[Cz];omega)];rfl⟩
  refine Nz 1 ?_;refine Wk 1 (Ba 0) ?_;refine Wp ?_ ?_<;>intro hc7
  ·have hno:BL t0=none:=by
    rw[hR3];exact GE hc7 (fun h=>by omega)
   refine Nz 0 ?_;refine Wk 0 (Bb 0) ?_;refine Wv 1 0 ?_;exact Wd (Qc (Cr (Qr (outR (Bv rfl (Ag (j:=0) rfl rfl tk89) rfl) (fun u hu=>Ez hno rfl (Bs rfl) hu)))))
  refine Ck ?_;refine QS.weak (fun u hu=>hu.nilRoI) ?_;refine QS.sel [1,1,0] rfl ?_;exact QS.head ((d,.slice none 0 0,[])) rfl rfl ⟨hd3,⟨ud,hd2⟩,rfl,by rw[hR3,Ix hk0 hc7]⟩
 intro e t hs;obtain⟨r,gv,g⟩:=e;obtain⟨he1,⟨ue,he2⟩,he3,he4⟩:=hs;dsimp only at he1 he2 he3 he4;have lr:=he2.le;have hol:=Ow (AD (nth q.l 0));refine Nz 0 ?_;refine Wc rfl rfl Jf4 (fun u hu=>Vq b2 (AD (nth q.l 0)) u (by rw[BT (hu.blk (j:=0) rfl).2];rfl)) (fun _=>rfl) ?_;intro v81 hv81;refine Wz 1 ?_;refine Nv 1 ?_;refine Wk 1 (Nc (s:=r)) ?_;refine Wk 1 (JR Ka rfl (j:=0) rfl) ?_;refine Wp ?_ ?_<;>intro hc8
 ·have hno:BL t0=none:=by
   rw[he4];exact Uy (by omega)
  refine Nz 0 ?_;refine Wk 0 (Bb 1) ?_;refine Wv 1 1 ?_;exact Wd (Qc (Cr (Qr (outR (Bv rfl (Ag (j:=1) rfl rfl tk89) rfl) (fun u hu=>Ez hno rfl (Bs he3) hu)))))
 have hln:r.l.length=(offK (AD (nth q.l 0))).length:=by omega
 refine Ck (Qc (Cs (Nz 1 ?_)));refine Wk 1 (Nc (s:=r)) ?_;refine Nu ?_;refine CS.sel [1,1,1,0] rfl ?_;refine CS.loopM (σ:=Int×List Int) (rsL [3,3,8,11,91,109]) (fun s=>[(90,.int .i64 s.1)]) (fun s=>[blk b2 (setC (Aw ⟨(AD (nth q.l 0)),0,0,0,0,[],nt⟩ gv) (offK (AD (nth q.l 0))) s.2) 89,roT cStr r,roI gv g,osl 190 1 v81 (offK (AD (nth q.l 0))).length (ptrL b2 (offK (AD (nth q.l 0))))]) (fun s=>0<=s.1/\s.1<=r.l.length/\(s.2.length:Int)=s.1/\Dq 3 (r.l.take s.1.toNat)=some s.2) (fun s=>(r.l.length-s.1).toNat) (0,[]) (fun _ _=>rfl) rfl (by rw[Vw]) ⟨by simp,by simp,rfl,rfl⟩ ?_;intro p t hs;obtain⟨hp1,hp2,hp3,hp4⟩:=hs;refine Nz 1 ?_;refine Wd (Qc (Cs (Cn ?_ ?_)))<;>intro hc9
 ·have hps:((nth r.l p.1).size:Int)<=1000000:=he1 _ (Ai hp1 (by omega));obtain⟨o,ho⟩:∃o,(offK (AD (nth q.l 0)))[p.1.toNat]? = some o:=⟨_,List.getElem?_eq_getElem (by omega)⟩;have ho2:o<7:=Y4 _ o (List.mem_of_getElem? ho);have hpa:(ptrL b2 (offK (AD (nth q.l 0))))[p.1.toNat*1]? = some (.pointer (some ⟨b2,o,none⟩)):=by rw[Nat.mul_one];exact Jd3 ho
  refine Ck (Qc (Cs (Ce (Nz 1 ?_))));refine Wk 0 (Xc (s:=r)) ?_;refine Wk 2 (Vb 1 rfl (s:=r)) ?_;refine Nx 1 ?_;refine Wk 5 (Cb rfl rfl Jga (fun u hu=>WU _ u (by omega))) ?_;refine Nv 2 ?_;refine Wp ?_ ?_<;>intro hc10
  ·have hno:BL t0=none:=by
    rw[he4];refine SI (Ai hp1 (show p.1<r.l.length by omega)) ?_;cases hb:numB 3 (nth r.l p.1)with
    |none=>rfl
    |some n=>rw[hb]at hc10;simp at hc10
   refine Nz 0 ?_;refine Wk 0 (AU (j:=0) rfl rfl (by rw[C0];exact tk89)) ?_;refine WS.storeW (j:=0) rfl rfl rfl rfl (HK _ _ _ (Bs he3)) tk89 (by rw[C0];rfl) rfl ?_;refine Wz 1 ?_;exact Wd (Qc (Cr (Qr (Qs (Qr (Qr (Qs (Qr (outR (Bv rfl (Ag (j:=0) rfl rfl (by rw[C0];exact tk89)) rfl) (fun u hu=>Ez hno (by rw[C0];rfl) (HK _ _ _ (Bs he3)) hu))))))))))
  obtain⟨n,hb⟩:∃n,numB 3 (nth r.l p.1)=some n:=by
   cases hb:numB 3 (nth r.l p.1)with
   |none=>rw[hb]at hc10;simp at hc10
   |some n=>exact⟨n,rfl⟩
  refine Ck (Qc (Ny 2 ?_));refine Wk 0 (Kj (j:=3) Ka rfl rfl rfl (by omega) (by omega)) ?_;refine Wk 2 (M8 (j:=3) rfl rfl hpa Jgv) ?_;refine WS.store (j:=0) rfl rfl (by rw[C0];exact ho2) rfl rfl tk3 (Fw _ _ _) rfl ?_;refine Wd (Qb (Qc (Ny 0 ?_)));refine Wk 1 Za ?_;exact Wd (QS.head ((p.1+1,p.2++[n])) rfl (by first|(rw[<-Ie (by rw[show p.2.length=p.1.toNat by omega];exact ho),hb];done)|(rw[<-Ie (by rw[show p.2.length=p.1.toNat by omega];exact ho),hb];rfl)) ⟨⟨by simp;omega,by simp;omega,by simp;omega,by show Dq 3 (r.l.take (p.1+1).toNat)=_;rw[AG r.l hp1 (by omega)];exact Gv hp4 hb⟩,by simp;omega⟩)
 have htk:r.l.take p.1.toNat=r.l:=List.take_of_length_le (by omega);rw[htk]at hp4;have hyes:=he4.trans (T3 hln hp4);have hfull:setC (Aw ⟨(AD (nth q.l 0)),0,0,0,0,[],nt⟩ gv) (offK (AD (nth q.l 0))) p.2=Aw (setF (AD (nth q.l 0)) p.2 g nt) gv:=Ue (g:=g) (by rw[IE hp4,hln]);refine Cv (Qe (Qe (Qx (Qc (Nz 0 ?_)))));refine Wk 0 (AU (j:=0) rfl rfl (by rw[C0];exact tk89)) ?_;refine WS.storeW (j:=0) rfl rfl rfl rfl (HK _ _ _ (Bs he3)) tk89 (by rw[C0];rfl) rfl ?_;refine Wz 1 ?_;refine Wd (Qc (Cr ?_))
 exact outR (Bv rfl (Ag (j:=0) rfl rfl (by rw[C0];exact tk89)) rfl) (fun u hu=>by
   rw[hfull]
   exact XY hyes he3 (j:=2) (by rw[XN];rfl) hu)
theorem Zl (t0:ByteArray) (w:World) (ht:(t0.size:Int)<=1000000):
  Calls prog 278 #[.string t0] w (Xk w (BL t0)):=by
 have hp:=AE 32 t0;have hsz:∀x∈Ab 32 t0,(x.size:Int)<=1000000:=fun x hx=>by have:=A6 hx;omega
 refine En func278 ?_;refine Nz 0 ?_;refine Wq 1 zv89 fun b2 hb2=>?_;refine Nx 0 ?_;refine Wk 0 (Db Gx zv89) ?_;refine Wq 0 zv89 fun b4 hb4=>?_;refine Wv 0 0 ?_;refine Nx 1 ?_;refine Wc rfl rfl Jca (fun u hu=>VM t0 32 u (by omega)) (fun _=>rfl) ?_;rintro v14 ⟨u14,hv14⟩;have hpw:(1:Int)<=((⟨v14,Ab 32 t0⟩:Sl ByteArray).l.length:Int):=by show(1:Int)<=((Ab 32 t0).length:Int);omega
 refine Wz 1 ?_;refine Wd (Qc ?_);refine CS.cut (σ:=Bool×Sl ByteArray) [15,16,17,18,19,20,21] (fun s=>[(5,s.2.v)]) (fun s=>[blk b2 (Aw ⟨0,0,0,0,0,[],false⟩ (.slice none 0 0)) 89,blk b4 (Aw ⟨0,0,0,0,0,[],s.1⟩ (.slice none 0 0)) 89,roT cStr s.2]) (fun s=>(s.1=seq (nth (Ab 32 t0) 0) notW/\s.2.l=if s.1 then(Ab 32 t0).tail else Ab 32 t0)/\(∃u0,SlT cStr u0 s.2)/\∀x∈s.2.l,(x.size:Int)<=1000000) (fun _ _=>rfl) ?_ ?_
 ·refine Nz 1 ?_;refine Wk 0 (Xc (s:=⟨v14,Ab 32 t0⟩)) ?_;refine Wk 0 (Vb 0 rfl (s:=⟨v14,Ab 32 t0⟩)) ?_;refine Wk 0 (Ah rfl rfl) ?_;refine Wp ?_ ?_<;>intro hc1
  ·refine Nz 1 ?_;refine Ws 0 1 ?_;refine Nw 1 ?_;refine Wk 1 (Bf sl23 rfl rfl hv14.sp (by decide) (by omega)) ?_;refine Wd ?_;refine QS.sel [0,1,0] rfl ?_;refine QS.weak (fun u hu=>St.roCut (lo:=1) (hi:=(Ab 32 t0).length) hu (by omega) (Nat.le_refl _)) ?_;refine QS.sel [1,1,0] rfl ?_;exact QS.head ((true,(⟨v14,Ab 32 t0⟩:Sl ByteArray).cut 1 1 (Ab 32 t0).length)) rfl rfl ⟨⟨hc1.symm,CZ _⟩,⟨u14,hv14.cut (by omega) (Nat.le_refl _)⟩,fun x hx=>hsz x (List.mem_of_mem_drop (List.mem_of_mem_take hx))⟩
  refine Ck ?_;refine QS.sel [2,1,0] rfl ?_;exact QS.head ((false,⟨v14,Ab 32 t0⟩)) rfl rfl ⟨⟨hc1.symm,rfl⟩,⟨u14,hv14⟩,hsz⟩
 intro a t hs;obtain⟨nt,q⟩:=a;obtain⟨⟨ha1,ha2⟩,⟨ua,ha3⟩,ha4⟩:=hs;dsimp only at ha1 ha2 ha3 ha4;have hR:BL t0=K4 nt q.l:=TE ha1 ha2;have lq:=ha3.le;refine Cs (Nz 1 ?_);refine Wk 1 (Nc (s:=q)) ?_;refine Wp ?_ ?_<;>intro hc2
 ·have hno:BL t0=none:=by rw[hR];exact Jg (.inl hc2)
  refine Nz 0 ?_;refine Wk 0 (Bb 1) ?_;refine Wv 1 0 ?_;exact Wd (Qc (Cr (Qr (outR (Bv rfl (Ag (j:=0) rfl rfl tk89) rfl) (fun u hu=>Ez hno rfl (Bs (c:=⟨0,0,0,0,0,[],nt⟩) (gv:=.slice none 0 0) rfl) hu)))))
 have hq0:0<q.l.length:=by omega
 have hR2:BL t0=Hj nt (AD (nth q.l 0)) q.l.tail:=by rw[hR,Jz hq0]
 have hkb:=FR (nth q.l 0);refine Ck (Qc (Cs (Nz 1 ?_)));refine Nu ?_;refine CS.loopM (σ:=Int) (rsL [26,41]) (fun s=>[(6,.int .i64 s)]) (fun s=>[blk b2 (Aw ⟨0,0,0,0,0,[],false⟩ (.slice none 0 0)) 89,blk b4 (Aw ⟨kU (nth q.l 0) s,0,0,0,0,[],nt⟩ (.slice none 0 0)) 89,roT cStr q]) (fun s=>1<=s/\s<=8) (fun s=>(8-s).toNat) 1 (fun _ _=>rfl) rfl (by rw[kU_1]) ⟨by decide,by decide⟩ ?_;intro k t hs;obtain⟨hk1,hk2⟩:=hs;refine Cs (Nz 1 ?_);refine Wc rfl rfl Xy (fun u hu=>S1 u) (fun _=>rfl) ?_;rintro v27 ⟨u27,hv27⟩;refine Wk 1 (Ds (n:=8) sl23 rfl hv27.sp) ?_;refine Wp ?_ ?_<;>intro hc3
 ·refine Ck (Qc (Cs (Ce (Cs ?_))));refine CS.drawnAll (k:=8) mixed rfl rfl ?_;refine Ar [1,4] ?_;refine Ak 5 [] rfl (Xc (s:=q)) ?_;refine Ak 6 [] rfl (Vb 3 rfl (s:=q)) ?_;refine Ao 0 rfl ?_;refine Wc rfl rfl Xy (fun u hu=>S1 u) (fun _=>rfl) ?_;rintro v32 ⟨u32,hv32⟩;have e8:((⟨v32,kindL⟩:Sl ByteArray).l.length:Int)=8:=rfl;refine Wd (Qa ?_);refine Ak 2 [] rfl (Xc (s:=⟨v32,kindL⟩)) ?_;refine Ao 3 rfl ?_;refine Wk 0 (Vb 0 rfl (s:=⟨v32,kindL⟩)) ?_;refine Wd (Qa ?_);refine Ak 7 [] rfl (Ah rfl rfl) ?_;refine Ae ?_;refine Qc (Cn ?_ ?_)<;>intro hc4
  ·refine Ny 2 ?_;refine Ws 0 3 ?_;refine Wd (Qb (Qc (Ny 1 ?_)));refine Wk 1 Za ?_;refine Wd ?_;refine QS.sel [2,2,2] rfl ?_;exact QS.head (k+1) rfl (by first|(rw[X1 hk1 (by omega) hc4];done)|(rw[X1 hk1 (by omega) hc4];rfl)) (by omega)
  refine Ck (Qb (Qc (Ny 1 ?_)));refine Wk 1 Za ?_;refine Wd ?_;refine QS.sel [2,2,2] rfl ?_;exact QS.head (k+1) rfl (by first|(rw[R4 hk1 (by omega) hc4];done)|(rw[R4 hk1 (by omega) hc4];rfl)) (by omega)
 have hk8:kU (nth q.l 0) k=AD (nth q.l 0):=by rw[show k=8 by omega];exact kU_8 _
 refine Cv (Qe (Qe (Qx (Qc ?_))));refine CS.cut (σ:=Sl ByteArray) [42,43] (fun s=>[(5,s.v)]) (fun s=>[blk b2 (Aw ⟨0,0,0,0,0,[],false⟩ (.slice none 0 0)) 89,blk b4 (Aw ⟨(AD (nth q.l 0)),0,0,0,0,[],nt⟩ (.slice none 0 0)) 89,roT cStr s]) (fun s=>s.l=q.l.tail/\(∃u0,SlT cStr u0 s)/\∀x∈s.l,(x.size:Int)<=1000000) (fun _ _=>rfl) ?_ ?_
 ·refine Ny 1 ?_;refine Wk 1 (Bf sl23 rfl rfl ha3.sp (by decide) (by omega)) ?_;refine Wd ?_;refine QS.sel [3,1,1] rfl ?_;refine QS.weak (fun u hu=>St.roCut (lo:=1) (hi:=q.l.length) hu (by omega) (Nat.le_refl _)) ?_;refine QS.sel [1,1,0] rfl ?_;exact QS.head ((q.cut 1 1 q.l.length)) rfl (by first|(rw[hk8];done)|(rw[hk8];rfl)) ⟨CZ _,⟨ua,ha3.cut (by omega) (Nat.le_refl _)⟩,fun x hx=>ha4 x (List.mem_of_mem_drop (List.mem_of_mem_take hx))⟩
 intro d t hs;obtain⟨hd1,⟨ud,hd2⟩,hd3⟩:=hs;have hR3:BL t0=Hj nt (AD (nth q.l 0)) d.l:=by rw[hR2,hd1]
 have ld:=hd2.le;refine Cs (Nz 1 ?_);refine Wk 1 (Ba 1) ?_;refine Wp ?_ ?_<;>intro hc5
 ·have hno:BL t0=none:=by rw[hR3,hc5];rfl
  refine Nz 0 ?_;refine Wk 0 (Bb 1) ?_;refine Wv 1 0 ?_;exact Wd (Qc (Cr (Qr (outR (Bv rfl (Ag (j:=0) rfl rfl tk89) rfl) (fun u hu=>Ez hno rfl (Bs (c:=⟨(AD (nth q.l 0)),0,0,0,0,[],nt⟩) (gv:=.slice none 0 0) rfl) hu)))))
 have hk0:¬AD (nth q.l 0)=0:=hc5;refine Ck (Qc ?_);refine CS.cut (σ:=Sl ByteArray×Value×List Int) [3,7,48,49,50,51,52,53,54,55,56,57,58,59,60,61,62,63,64,65,66,67,68,69,70,71,72,73,74,75,76,77,78,79,80,81,82,83] (fun s=>[(5,s.1.v)]) (fun s=>[blk b2 (Aw ⟨0,0,0,0,0,[],false⟩ (.slice none 0 0)) 89,blk b4 (Aw ⟨(AD (nth q.l 0)),0,0,0,0,[],nt⟩ (s.2.1)) 89,roT cStr s.1,roI s.2.1 s.2.2]) (fun s=>(∀x∈s.1.l,(x.size:Int)<=1000000)/\(∃u0,SlT cStr u0 s.1)/\s.2.1.oneCell'=true/\BL t0=rdN nt (AD (nth q.l 0)) s.1.l s.2.2) (fun _ _=>rfl) ?_ ?_
 ·refine Nz 1 ?_;refine Wk 1 (Ba 1) ?_;refine Wp ?_ ?_<;>intro hc6
  ·have hc6:AD (nth q.l 0)=6:=hc6;refine Cs (Nz 1 ?_);refine Wk 2 (Nc (s:=d)) ?_;refine We 0 ?_;refine Wf 0 rfl rfl (fun hg=>Xc (s:=d)) ?_;refine Wf 0 rfl rfl (fun hg=>Vb 2 rfl (s:=d)) ?_;refine Wf 0 rfl rfl (fun hg=>Cb rfl (ec_ (eg_ hg rfl) (ec_ rfl en_)) Yl (fun u hu=>KU _ _ u (hd3 _ (Ai (by decide) (by simp at hg;omega))))) ?_;refine We 0 ?_;refine Wk 0 Po ?_;refine Wp ?_ ?_<;>intro hc7
   ·have hno:BL t0=none:=by
     rw[hR3];refine GE hc6 (fun h=>?_);rw[h.2]at hc7;simp[h.1]at hc7
    refine Nz 0 ?_;refine Wk 0 (Bb 1) ?_;refine Wv 1 0 ?_;exact Wd (Qc (Cr (Qr (Qr (outR (Bv rfl (Ag (j:=0) rfl rfl tk89) rfl) (fun u hu=>Ez hno rfl (Bs (c:=⟨(AD (nth q.l 0)),0,0,0,0,[],nt⟩) (gv:=.slice none 0 0) rfl) hu))))))
   have hdl:d.l.length=3:=by omega
   have hdg:AB (nth d.l 2) 4=true:=by
    have h2:=hc7.2
    simpa using h2
   have hd2s:((nth d.l 2).size:Int)<=1000000:=hd3 _ (Ai (by decide) (by omega));refine Ck (Qc (Cs (Nz 1 ?_)));refine Nu ?_;refine CS.weak (fun _ hu=>hu.osl0 (e:=3) (size:=1)) ?_;refine CS.loopM (σ:=Int×Value) (rsL [62,81]) (fun s=>[(7,.int .i64 s.1)]) (fun s=>[oints 3 s.2 ((BB (nth d.l 2)).take s.1.toNat),blk b2 (Aw ⟨0,0,0,0,0,[],false⟩ (.slice none 0 0)) 89,blk b4 (Aw ⟨(AD (nth q.l 0)),0,0,0,0,[],nt⟩ (s.2)) 89,roT cStr d]) (fun s=>0<=s.1/\s.1<=(nth d.l 2).size/\s.2.oneCell'=true) (fun s=>((nth d.l 2).size-s.1).toNat) (0,.slice none 0 0) (fun _ _=>rfl) rfl rfl ⟨by simp,by simp,rfl⟩ ?_;intro i t hs;obtain⟨hi1,hi2,hi4⟩:=hs;refine Cs (Nz 2 ?_);refine Wk 0 (Xc (s:=d)) ?_;refine Wk 0 (Vb 3 rfl (s:=d)) ?_;refine Wk 1 (Al underlying9 rfl) ?_;refine Wp ?_ ?_<;>intro hc8
   ·have hi3:i.1<((nth d.l 2).size:Int):=by omega
    have hdi:=Oy (Fv hdg) hi1 hi3;refine Ck (Qc (Cs (Ce ?_)));refine CS.drawnTill 10 (k:=13) mixed rfl rfl ?_;refine Tr 13 [0] ?_;refine Tk 13 1 [2] rfl (Ba 2) ?_;refine Tk 13 3 [] rfl (Xc (s:=d)) ?_;refine Tk 13 4 [5] rfl (Vb 3 rfl (s:=d)) ?_;refine Tk 13 6 [] rfl (An underlying9 rfl rfl (by omega) (by omega)) ?_;refine Tk 13 7 [] rfl (EC rfl rfl (by omega)) ?_;refine Tk 13 8 [] rfl (DG underlying5 underlying3 rfl (by omega)) ?_;refine To 9 rfl ?_;refine WS.buildI1 sl48 zv3 rfl (fun _=>rfl) ?_;intro v79;refine Wd (Qt ?_);refine To 10 rfl ?_;refine WS.appendI (j:=1) sl48 zv3 rfl rfl rfl (fun u hu=>AK hu (j:=0) rfl) (by simp only[List.length_take,Cz,List.length_singleton];omega) (by simp only[List.length_take,Cz,List.length_singleton];omega) (fun _=>rfl) (fun _=>rfl) ?_;intro v80;refine WS.oc (j:=1) rfl (fun hv80=>?_);refine Wd (Qt ?_);refine To 11 rfl ?_;refine Wz 1 ?_;refine Wd (Qt ?_);refine To 12 rfl ?_;refine Ws 0 3 ?_;refine Wd (Qt ?_);refine Te ?_;refine Qb (Qc (Ny 1 ?_));refine Wk 1 Za ?_;refine Wd ?_;refine QS.sel [1,1,1,1] rfl ?_;exact QS.head ((i.1+1,v80)) rfl (by first|(rw[show(i.1+1,v80).1=i.1+1 from rfl,C6 hi1 hi3];done)|(rw[show(i.1+1,v80).1=i.1+1 from rfl,C6 hi1 hi3];rfl)) ⟨⟨by simp;omega,by simp;omega,hv80⟩,by simp;omega⟩
   refine Cv (Qe (Qe (Qx (Qc (Ny 1 ?_)))));refine Wk 1 (Cl sl23 rfl rfl hd2.sp (by decide) (by omega)) ?_;refine Wd ?_;refine QS.sel [0,2,0,0] rfl ?_;refine QS.weak (fun u hu=>hu.toRoI) ?_;refine QS.sel [1,0,0,0] rfl ?_;refine QS.weak (fun u hu=>St.roCut (lo:=0) (hi:=2) hu (by omega) (by omega)) ?_;refine QS.sel [2,2,0,0] rfl ?_
   exact QS.head ((d.cut 1 0 2,i.2,(BB (nth d.l 2)).take i.1.toNat)) rfl rfl ⟨fun x hx=>hd3 x (List.mem_of_mem_drop (List.mem_of_mem_take hx)),⟨ud,hd2.cut (by omega) (by omega)⟩,hi4,by
      rw[hR3,K8 hc6 (by omega) hdg,show(BB (nth d.l 2)).take i.1.toNat=BB (nth d.l 2)from List.take_of_length_le (by rw[Cz];omega)];rfl⟩
  have hc6:¬AD (nth q.l 0)=6:=hc6;refine Ck ?_;refine QS.weak (fun u hu=>hu.nilRoI) ?_;refine QS.sel [1,1,1,0] rfl ?_;exact QS.head ((d,.slice none 0 0,[])) rfl rfl ⟨hd3,⟨ud,hd2⟩,rfl,by rw[hR3,Ix hk0 hc6]⟩
 intro e t hs;obtain⟨r,gv,g⟩:=e;obtain⟨he1,⟨ue,he2⟩,he3,he4⟩:=hs;dsimp only at he1 he2 he3 he4;have lr:=he2.le;have hol:=Ow (AD (nth q.l 0));have hfl:=QA ⟨(AD (nth q.l 0)),0,0,0,0,[],nt⟩;dsimp only at hfl;refine Cs (Nz 1 ?_);refine Wk 0 (Nc (s:=r)) ?_;refine Wk 0 (Bb 1) ?_;refine Wc rfl rfl Jed (fun u hu=>Um ⟨(AD (nth q.l 0)),0,0,0,0,[],nt⟩ gv u he3) (fun _=>rfl) ?_;intro v87 hv87;refine Wk 1 (Nb 0) ?_;refine Wp ?_ ?_<;>intro hc9
 ·have hno:BL t0=none:=by
   rw[he4];exact Uy (by omega)
  refine Nz 0 ?_;refine Wk 0 (Bb 2) ?_;refine Wv 1 1 ?_;exact Wd (Qc (Cr (Qr (outR (Bv rfl (Ag (j:=1) rfl rfl tk89) rfl) (fun u hu=>Ez hno rfl (Bs (c:=⟨(AD (nth q.l 0)),0,0,0,0,[],nt⟩) (gv:=gv) he3) hu)))))
 have hln:r.l.length=(offK (AD (nth q.l 0))).length:=by omega
 refine Ck (Qc (Nz 1 ?_));refine Nv 1 ?_;refine Nu ?_;refine CS.weak (fun _ hu=>hu.osl0 (e:=3) (size:=1)) ?_;refine CS.sel [0,1,1,1,1] rfl ?_;refine CS.loopM (σ:=Int×Value×List Int) (rsL [3,3,10,11,91,111]) (fun s=>[(9,.int .i64 s.1),(8,s.2.1)]) (fun s=>[oints 3 s.2.1 s.2.2,blk b2 (Aw ⟨0,0,0,0,0,[],false⟩ (.slice none 0 0)) 89,blk b4 (Aw ⟨(AD (nth q.l 0)),0,0,0,0,[],nt⟩ (gv)) 89,roT cStr r,roI gv g]) (fun s=>0<=s.1/\s.1<=r.l.length/\(s.2.2.length:Int)=s.1/\Dq 3 (r.l.take s.1.toNat)=some s.2.2) (fun s=>(r.l.length-s.1).toNat) (0,.slice none 0 0,[]) (fun _ _=>rfl) rfl rfl ⟨by simp,by simp,rfl,rfl⟩ ?_;intro p t hs;obtain⟨hp1,hp2,hp3,hp4⟩:=hs;refine Cs (Nz 2 ?_);refine Wk 1 (Nc (s:=r)) ?_;refine Wp ?_ ?_<;>intro hc10
 ·have hps:((nth r.l p.1).size:Int)<=1000000:=he1 _ (Ai hp1 (by omega));refine Ck (Qc (Cs (Ce (Nz 2 ?_))));refine Wk 0 (Xc (s:=r)) ?_;refine Wk 0 (Vb 3 rfl (s:=r)) ?_;refine Wk 5 (Cb rfl rfl Jbf (fun u hu=>SJ _ u (by omega))) ?_;refine Nv 2 ?_;refine Wp ?_ ?_<;>intro hc11
  ·have hno:BL t0=none:=by
    rw[he4];refine SI (Ai hp1 (show p.1<r.l.length by omega)) ?_;cases hb:numB 3 (nth r.l p.1)with
    |none=>rfl
    |some n=>rw[hb]at hc11;simp at hc11
   refine Nz 0 ?_;refine Wk 0 (Bb 2) ?_;refine Wv 1 1 ?_;exact Wd (Qc (Cr (Qr (Qs (Qr (Qr (Qs (Qr (outR (Bv rfl (Ag (j:=1) rfl rfl tk89) rfl) (fun u hu=>Ez hno rfl (Bs (c:=⟨(AD (nth q.l 0)),0,0,0,0,[],nt⟩) (gv:=gv) he3) hu))))))))))
  obtain⟨n,hb⟩:∃n,numB 3 (nth r.l p.1)=some n:=by
   cases hb:numB 3 (nth r.l p.1)with
   |none=>rw[hb]at hc11;simp at hc11
   |some n=>exact⟨n,rfl⟩
  have hgd:(numB 3 (nth r.l p.1)).getD 0=n:=by rw[hb];rfl
  refine Ck (Qc (Ny 2 ?_));refine WS.buildI1 sl48 zv3 rfl (fun _=>rfl) ?_;intro v110;refine WS.appendI (j:=1) sl48 zv3 rfl rfl rfl (fun u hu=>AK hu (j:=0) rfl) (by first|omega|(simp;omega)|(simp only[List.length_append,List.length_singleton,List.length_map,List.length_cons,List.length_nil]at*;omega)) (by first|omega|(simp;omega)|(simp only[List.length_append,List.length_singleton,List.length_map,List.length_cons,List.length_nil]at*;omega)) (fun _=>rfl) (fun _=>rfl) ?_;intro v111;refine WS.oc (j:=1) rfl (fun hv111=>?_);refine Wz 1 ?_;refine Wd (Qb (Qc (Ny 1 ?_)));refine Wk 1 Za ?_;refine Wd ?_;refine QS.sel [1,1,1,1,1] rfl ?_;exact QS.head ((p.1+1,v111,p.2.2++[(numB 3 (nth r.l p.1)).getD 0])) rfl rfl ⟨⟨by simp;omega,by simp;omega,by simp;omega,by show Dq 3 (r.l.take (p.1+1).toNat)=_;rw[AG r.l hp1 (by omega),hgd];exact Gv hp4 hb⟩,by simp;omega⟩
 have htk:r.l.take p.1.toNat=r.l:=List.take_of_length_le (by omega);rw[htk]at hp4;have hyes:=he4.trans (T3 hln hp4);have hnl:p.2.2.length=(offK (AD (nth q.l 0))).length:=by rw[IE hp4,hln]
 refine Cv (Qe (Qe (Qx (Qc ?_))));refine CS.cut (σ:=Unit) [112,113,114,115,116,117,118,119,120,121,122,123,124,125,126,127,128,129,130,131,132,133,134,135,136,137,138,139,140,141,142,143,144,145,146,147,148,149,150,151,152,153,154,155,156,157,158,159,160,161,162,163,164,165,166,167,168,169,170,171,172,173] (fun s=>[]) (fun s=>[blk b2 (Aw ⟨0,0,0,0,0,[],false⟩ (.slice none 0 0)) 89,blk b4 (Aw (setF (AD (nth q.l 0)) p.2.2 g nt) gv) 89,roI gv g]) (fun s=>True) (fun _ _=>rfl) ?_ ?_
 ·refine Nz 1 ?_;refine Wk 0 (Ba 2) ?_;refine Wd (Qc (Ce (Nz 2 ?_)));refine Wp ?_ ?_<;>intro hc12
  ·have hc12:(AD (nth q.l 0))=1:=hc12
   have hl2:p.2.2.length=2:=by
    have h0:offK (AD (nth q.l 0))=[1,3]:=if_pos hc12;have h:=congrArg List.length h0;simp only[List.length_cons,List.length_nil]at h;omega
   refine Nz 1 ?_;refine Wk 0 (Xb 0) ?_;refine Wk 1 (Ib 0) ?_;refine Ws 0 2 ?_;refine Nw 1 ?_;refine Wk 0 (Xb 0) ?_;refine Wk 1 (Ib 0) ?_;refine Ws 0 2 ?_;refine Wd (Qb ?_);refine QS.sel [1,1,2] rfl ?_;exact QS.head (()) rfl (by first|(rw[show setF (AD (nth q.l 0)) p.2.2 g nt=_ from if_pos hc12];done)|(rw[show setF (AD (nth q.l 0)) p.2.2 g nt=_ from if_pos hc12];rfl)) trivial
  have hc12:¬(AD (nth q.l 0))=1:=hc12;refine Nz 2 ?_;refine Wp ?_ ?_<;>intro hc13
  ·have hc13:(AD (nth q.l 0))=2:=hc13
   have hl2:p.2.2.length=3:=by
    have h0:offK (AD (nth q.l 0))=[1,2,3]:=(if_neg hc12).trans (if_pos hc13);have h:=congrArg List.length h0;simp only[List.length_cons,List.length_nil]at h;omega
   refine Nz 1 ?_;refine Wk 0 (Xb 0) ?_;refine Wk 1 (Ib 0) ?_;refine Ws 0 2 ?_;refine Nx 1 ?_;refine Wk 0 (Xb 0) ?_;refine Wk 1 (Ib 0) ?_;refine Ws 0 2 ?_;refine Nw 1 ?_;refine Wk 0 (Xb 0) ?_;refine Wk 1 (Ib 0) ?_;refine Ws 0 2 ?_;refine Wd (Qb ?_);refine QS.sel [1,1,2] rfl ?_;exact QS.head (()) rfl (by first|(rw[show setF (AD (nth q.l 0)) p.2.2 g nt=_ from(if_neg hc12).trans (if_pos hc13)];done)|(rw[show setF (AD (nth q.l 0)) p.2.2 g nt=_ from(if_neg hc12).trans (if_pos hc13)];rfl)) trivial
  have hc13:¬(AD (nth q.l 0))=2:=hc13;refine CS.cut (σ:=Bool) [139,140] (fun s=>[(138,.bool s)]) (fun s=>[oints 3 p.2.1 p.2.2,blk b2 (Aw ⟨0,0,0,0,0,[],false⟩ (.slice none 0 0)) 89,blk b4 (Aw ⟨(AD (nth q.l 0)),0,0,0,0,[],nt⟩ (gv)) 89,roT cStr r,roI gv g]) (fun s=>s=decide ((AD (nth q.l 0))=3\/(AD (nth q.l 0))=4)) (fun _ _=>rfl) ?_ ?_
  ·refine Nz 2 ?_;refine Wp ?_ ?_<;>intro hc14
   ·exact Ck (QS.head ((decide ((AD (nth q.l 0))=3))) rfl rfl (by rw[decide_eq_decide];omega))
   refine Ny 2 ?_;exact Wd (QS.head ((decide ((AD (nth q.l 0))=4))) rfl rfl (by rw[decide_eq_decide];omega))
  intro z t hs;subst hs;refine CS.cond rfl (fun hc15=>?_) (fun hc15=>?_)<;>(try simp only[bq]at hc15)
  ·have hl2:p.2.2.length=2:=by
    have h0:offK (AD (nth q.l 0))=[1,2]:=(if_neg hc12).trans ((if_neg hc13).trans (if_pos (by omega)));have h:=congrArg List.length h0;simp only[List.length_cons,List.length_nil]at h;omega
   refine Nz 1 ?_;refine Wk 0 (Xb 0) ?_;refine Wk 1 (Ib 0) ?_;refine Ws 0 2 ?_;refine Nw 1 ?_;refine Wk 0 (Xb 0) ?_;refine Wk 1 (Ib 0) ?_;refine Ws 0 2 ?_;refine Wd (Qb ?_);refine QS.sel [1,1,2] rfl ?_;exact QS.head (()) rfl (by first|(rw[show setF (AD (nth q.l 0)) p.2.2 g nt=_ from(if_neg hc12).trans ((if_neg hc13).trans (if_pos (by omega)))];done)|(rw[show setF (AD (nth q.l 0)) p.2.2 g nt=_ from(if_neg hc12).trans ((if_neg hc13).trans (if_pos (by omega)))];rfl)) trivial
  refine CS.cut (σ:=Bool) [150,151] (fun s=>[(149,.bool s)]) (fun s=>[oints 3 p.2.1 p.2.2,blk b2 (Aw ⟨0,0,0,0,0,[],false⟩ (.slice none 0 0)) 89,blk b4 (Aw ⟨(AD (nth q.l 0)),0,0,0,0,[],nt⟩ (gv)) 89,roT cStr r,roI gv g]) (fun s=>s=decide ((AD (nth q.l 0))=5\/(AD (nth q.l 0))=6)) (fun _ _=>rfl) ?_ ?_
  ·refine Nz 2 ?_;refine Wp ?_ ?_<;>intro hc16
   ·exact Ck (QS.head ((decide ((AD (nth q.l 0))=5))) rfl rfl (by rw[decide_eq_decide];omega))
   refine Ny 2 ?_;exact Wd (QS.head ((decide ((AD (nth q.l 0))=6))) rfl rfl (by rw[decide_eq_decide];omega))
  intro z t hs;subst hs;refine CS.cond rfl (fun hc17=>?_) (fun hc17=>?_)<;>(try simp only[bq]at hc17)
  ·have hl2:p.2.2.length=2:=by
    have h0:offK (AD (nth q.l 0))=[3,4]:=(if_neg hc12).trans ((if_neg hc13).trans ((if_neg (by omega)).trans (if_pos (by omega))));have h:=congrArg List.length h0;simp only[List.length_cons,List.length_nil]at h;omega
   refine Nz 1 ?_;refine Wk 0 (Xb 0) ?_;refine Wk 1 (Ib 0) ?_;refine Ws 0 2 ?_;refine Nw 1 ?_;refine Wk 0 (Xb 0) ?_;refine Wk 1 (Ib 0) ?_;refine Ws 0 2 ?_;refine Wd (Qb ?_);refine QS.sel [1,1,2] rfl ?_;exact QS.head (()) rfl (by first|(rw[show setF (AD (nth q.l 0)) p.2.2 g nt=_ from(if_neg hc12).trans ((if_neg hc13).trans ((if_neg (by omega)).trans (if_pos (by omega))))];done)|(rw[show setF (AD (nth q.l 0)) p.2.2 g nt=_ from(if_neg hc12).trans ((if_neg hc13).trans ((if_neg (by omega)).trans (if_pos (by omega))))];rfl)) trivial
  refine Nz 2 ?_;refine Wp ?_ ?_<;>intro hc18
  ·have hl2:p.2.2.length=3:=by
    have h0:offK (AD (nth q.l 0))=[1,3,4]:=(if_neg hc12).trans ((if_neg hc13).trans ((if_neg (by omega)).trans (if_neg (by omega))));have h:=congrArg List.length h0;simp only[List.length_cons,List.length_nil]at h;omega
   refine Nz 1 ?_;refine Wk 0 (Xb 0) ?_;refine Wk 1 (Ib 0) ?_;refine Ws 0 2 ?_;refine Nx 1 ?_;refine Wk 0 (Xb 0) ?_;refine Wk 1 (Ib 0) ?_;refine Ws 0 2 ?_;refine Nw 1 ?_;refine Wk 0 (Xb 0) ?_;refine Wk 1 (Ib 0) ?_;refine Ws 0 2 ?_;refine Wd (Qb ?_);refine QS.sel [1,1,2] rfl ?_;exact QS.head (()) rfl (by first|(rw[show setF (AD (nth q.l 0)) p.2.2 g nt=_ from(if_neg hc12).trans ((if_neg hc13).trans ((if_neg (by omega)).trans (if_neg (by omega))))];done)|(rw[show setF (AD (nth q.l 0)) p.2.2 g nt=_ from(if_neg hc12).trans ((if_neg hc13).trans ((if_neg (by omega)).trans (if_neg (by omega))))];rfl)) trivial
  omega
 intro z t hs;refine Nz 0 ?_;refine Wk 0 (Bb 1) ?_;refine Wv 1 0 ?_;exact Wd (Qc (Cr (outR (Bv rfl (Ag (j:=0) rfl rfl tk89) rfl) (fun u hu=>XY hyes he3 (j:=2) (by rw[XN];rfl) hu))))
theorem Ph (lw ls:Int) (t0:ByteArray) (w:World) (hM:MaxOk w) (hW:WOk w):
  Calls prog 85 #[.agg #[.int .i64 lw,.int .i64 ls],.string t0] w (W9 w (DV lw ls t0)):=by
 refine En func85 ?_;refine Nz 0 ?_;refine Wr 0 fun b2 hb2=>?_;refine Wq 1 zv89 fun b4 hb4=>?_;refine Nv 0 ?_;refine Wk 0 (Bb 1) ?_;refine Wk 1 (Cb rfl rfl Uk (fun u hu=>H5 _ _ u)) ?_;refine Nx 2 ?_;refine Wp ?_ ?_<;>intro hc1
 ·refine Nz 0 ?_;refine Wk 1 (Db Gx zv89) ?_;refine Wv 1 0 ?_;exact Wd (Qc (Cr (Qr (outR (Bv rfl (Ag (j:=0) rfl rfl tk89) rfl) (fun u hu=>Ha (FH hc1) hu)))))
 have hL:=NW hc1;refine Ck (Qc (Cs (Nz 1 ?_)));refine Wk 1 (Al underlying9 rfl) ?_;refine Wp ?_ ?_<;>intro hc2
 ·have hlong:65536<(t0.size:Int):=by omega
  refine Nz 0 ?_;refine Wk 0 (Db Gx zv89) ?_;refine Wv 1 0 ?_;exact Wd (Qc (Cr (Qr (outR (Bv rfl (Ag (j:=0) rfl rfl tk89) rfl) (fun u hu=>Ha (IB hL hlong) hu)))))
 have hsh:¬65536<(t0.size:Int):=by omega
 refine Ck (Qc (Nz 1 ?_));refine Wc rfl rfl Jbe (fun u hu=>Z8 t0 u (hM.st hu) (hW.st hu) (by omega)) (fun _=>rfl) ?_;rintro⟨cs,gv⟩ ⟨hx1,hx2,hx3⟩;dsimp only at hx1 hx2 hx3;refine Wz 3 ?_;refine Wq 0 zv89 fun b7 hb7=>?_;refine WS.storeW (j:=0) rfl rfl rfl (by rw[hx1];rfl) hx2 tk89 hx1 rfl ?_;refine Wz 1 ?_;refine Nv 2 ?_;refine Wp ?_ ?_<;>intro hc3
 ·have hno:BL t0=none:=by simpa using hc3
  refine Nz 0 ?_;refine Wk 0 (Db Gx zv89) ?_;refine Wv 1 2 ?_;exact Wd (Qc (Cr (Qr (outR (Bv rfl (Ag (j:=2) rfl rfl tk89) rfl) (fun u hu=>Ha (Fs hL hsh hno) hu)))))
 obtain⟨c,hc⟩:=Option.isSome_iff_exists.1 (show(BL t0).isSome=true by simpa using hc3);obtain⟨hx4,u9,hx5⟩:=hx3 c hc;subst hx4;have hgo:=Jaz hx2;refine Ck (Qc (Cs (Nz 0 ?_)));refine Wk 0 (Bb 3) ?_;refine Wk 0 (Bb 0) ?_;refine Wk 1 (Cb rfl rfl SD (fun u hu=>So lw ls c gv u hL ((hu.ro (j:=1) rfl:∀d,BL t0=some d->SlI u gv d.g) c hc))) ?_;refine Wp ?_ ?_<;>intro hc4
 ·have hcb:Bd lw ls c=false:=by simpa using hc4
  refine Nz 0 ?_;refine Wk 0 (Db Gx zv89) ?_;refine Wv 1 2 ?_;exact Wd (Qc (Cr (Qr (outR (Bv rfl (Ag (j:=2) rfl rfl tk89) rfl) (fun u hu=>Ha (JD hL hsh hc hcb) hu)))))
 have hcb:Bd lw ls c=true:=by simpa using hc4
 refine Ck (Qc (Nz 0 ?_));refine Wk 0 (Bb 0) ?_;refine WS.storeW (j:=2) rfl rfl rfl rfl hx2 tk89 rfl rfl ?_;refine Wz 1 ?_;exact Wd (Qc (Cr (outR (Bv rfl (Ag (j:=2) rfl rfl tk89) rfl) (fun u hu=>XV (Mp hL hsh hc hcb) hgo (fun S u hs=>(Star.ro (j:=1) rfl hs:∀d,BL t0=some d->SlI u gv d.g) c hc) hu))))
theorem ON (lw ls:Int) (t0:ByteArray) (w:World):
  Calls prog 209 #[.agg #[.int .i64 lw,.int .i64 ls],.string t0] w (W9 w (DV lw ls t0)):=by
 refine En func209 ?_;refine Nz 0 ?_;refine Wr 0 fun b2 hb2=>?_;refine Wq 1 zv89 fun b4 hb4=>?_;refine Nv 0 ?_;refine Wk 0 (Bb 1) ?_;refine Wk 1 (Cb rfl rfl WM (fun u hu=>HB _ _ u)) ?_;refine Nx 2 ?_;refine Wp ?_ ?_<;>intro hc1
 ·refine Nz 0 ?_;refine Wk 1 (Db Gx zv89) ?_;refine Wv 1 0 ?_;exact Wd (Qc (Cr (Qr (outR (Bv rfl (Ag (j:=0) rfl rfl tk89) rfl) (fun u hu=>Ha (FH hc1) hu)))))
 have hL:=NW hc1;refine Ck (Qc (Cs (Nz 1 ?_)));refine Wk 1 (Al underlying9 rfl) ?_;refine Wp ?_ ?_<;>intro hc2
 ·have hlong:65536<(t0.size:Int):=by omega
  refine Nz 0 ?_;refine Wk 0 (Db Gx zv89) ?_;refine Wv 1 0 ?_;exact Wd (Qc (Cr (Qr (outR (Bv rfl (Ag (j:=0) rfl rfl tk89) rfl) (fun u hu=>Ha (IB hL hlong) hu)))))
 have hsh:¬65536<(t0.size:Int):=by omega
 refine Ck (Qc (Nz 1 ?_));refine Wc rfl rfl Jbs (fun u hu=>Zl t0 u (by omega)) (fun _=>rfl) ?_;rintro⟨cs,gv⟩ ⟨hx1,hx2,hx3⟩;dsimp only at hx1 hx2 hx3;refine Wz 3 ?_;refine Wq 0 zv89 fun b7 hb7=>?_;refine WS.storeW (j:=0) rfl rfl rfl (by rw[hx1];rfl) hx2 tk89 hx1 rfl ?_;refine Wz 1 ?_;refine Nv 2 ?_;refine Wp ?_ ?_<;>intro hc3
 ·have hno:BL t0=none:=by simpa using hc3
  refine Nz 0 ?_;refine Wk 0 (Db Gx zv89) ?_;refine Wv 1 2 ?_;exact Wd (Qc (Cr (Qr (outR (Bv rfl (Ag (j:=2) rfl rfl tk89) rfl) (fun u hu=>Ha (Fs hL hsh hno) hu)))))
 obtain⟨c,hc⟩:=Option.isSome_iff_exists.1 (show(BL t0).isSome=true by simpa using hc3);obtain⟨hx4,u9,hx5⟩:=hx3 c hc;subst hx4;have hgo:=Jaz hx2;refine Ck (Qc (Cs (Nz 0 ?_)));refine Wk 0 (Bb 3) ?_;refine Wk 0 (Bb 0) ?_;refine Wk 1 (Cb rfl rfl Yf (fun u hu=>PF lw ls c gv u hL ((hu.ro (j:=1) rfl:∀d,BL t0=some d->SlI u gv d.g) c hc))) ?_;refine Wp ?_ ?_<;>intro hc4
 ·have hcb:Bd lw ls c=false:=by simpa using hc4
  refine Nz 0 ?_;refine Wk 0 (Db Gx zv89) ?_;refine Wv 1 2 ?_;exact Wd (Qc (Cr (Qr (outR (Bv rfl (Ag (j:=2) rfl rfl tk89) rfl) (fun u hu=>Ha (JD hL hsh hc hcb) hu)))))
 have hcb:Bd lw ls c=true:=by simpa using hc4
 refine Ck (Qc (Nz 0 ?_));refine Wk 0 (Bb 0) ?_;refine WS.storeW (j:=2) rfl rfl rfl rfl hx2 tk89 rfl rfl ?_;refine Wz 1 ?_;exact Wd (Qc (Cr (outR (Bv rfl (Ag (j:=2) rfl rfl tk89) rfl) (fun u hu=>XV (Mp hL hsh hc hcb) hgo (fun S u hs=>(Star.ro (j:=1) rfl hs:∀d,BL t0=some d->SlI u gv d.g) c hc) hu))))
end Go.Proofs.YtllebkdchemabaaGreatDoor
