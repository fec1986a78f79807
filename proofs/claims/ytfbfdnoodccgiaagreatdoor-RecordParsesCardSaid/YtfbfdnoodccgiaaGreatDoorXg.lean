/- Merged texts of this proof (walks and plain laws), printed by a program of the prover. -/
import Derived.Test.YtfbfdnoodccgiaaGreatDoorXf
import Derived.Test.YtfbfdnoodccgiaaGreatDoorZb2
set_option maxHeartbeats 8000000
namespace Go.Proofs.YtfbfdnoodccgiaaGreatDoor
open Go.RowKit Go.Proofs
set_option maxRecDepth 100000
set_option linter.unusedVariables false
set_option linter.unusedSimpArgs false
def Jn5 (es:List MapEntry) (w1:ByteArray) (kd:Int) (seen:List Nat):Prop :=
 (kd=0∨(inK kd=true∧kwE kd=w1))∧∀ e∈es,e.born∈seen→∀ k,inK k=true→e.key = .int .i64 k→kwE k=w1→kd=k
theorem Jtz {w:World} {m:Nat} {es:List MapEntry} {c:Nat} (hS:ShpOk w m es c) {w1:ByteArray} {kd k:Int} {seen:List Nat} (h:Jn5 es w1 kd seen) {e:MapEntry} (he:e∈es) (hk:e.key = .int .i64 k) (hi:inK k=true) (hw:kwE k=w1):Jn5 es w1 k (seen++[e.born]) :=
 ⟨.inr ⟨hi,hw⟩,fun q hq _ j hj _ hjw=>Jzf hi hj (hw.trans hjw.symm)⟩
theorem Jyh {w:World} {m:Nat} {es:List MapEntry} {c:Nat} (hS:ShpOk w m es c) {w1:ByteArray} {kd k:Int} {seen:List Nat} (h:Jn5 es w1 kd seen) {e:MapEntry} (he:e∈es) (hk:e.key = .int .i64 k) (hw:¬ kwE k=w1):Jn5 es w1 kd (seen++[e.born]) :=
 ⟨h.1,fun q hq hb j hj ej hjw=>by
  rcases List.mem_append.1 hb with hb | hb
  ·
   exact h.2 q hq hb j hj ej hjw
  rw [List.mem_singleton] at hb
  obtain rfl:=Jub hS.at_ he hq hb
  rw [hk] at ej
  obtain rfl:k=j:=by injection ej
  exact absurd hjw hw⟩
theorem Jtd {w:World} {m:Nat} {es:List MapEntry} {c:Nat} (hS:ShpOk w m es c) {w1:ByteArray} {kd:Int} {seen:List Nat} (h:Jn5 es w1 kd seen) (ha:∀ e∈es,e.born∈seen):kd=Jdl w1:=by
 rcases Jxi w1 with h0 | ⟨h1,h2⟩
 ·
  rw [h0]
  rcases h.1 with h3 | ⟨h3,h4⟩
  ·
   exact h3
  rw [← h4,Jh6 (Jup h3)] at h0
  subst h0
  cases h3
 obtain ⟨e,he,hk⟩:=hS.all _ h1
 exact h.2 e he (ha e he) _ h1 hk h2
def RdE (w:World) (s:Option Entr):Ending→World→Prop:=fun e w'=>∃ y:Entr × Bool,(y.2=true∧s=some y.1∨y.2=false∧s=none)∧RetB w (.tuple #[.agg (cEntry.cells y.1).toArray,.bool y.2]) e w'
theorem Jfs {w0 u:World} {L:List SA} {s:Option Entr} (y:Entr) (h:s=none) (hu:St w0.heap.size w0 L u):RdE w0 s (.returned (.tuple #[.agg (cEntry.cells y).toArray,.bool false])) u:=⟨(y,false),.inr ⟨rfl,h⟩,rfl,hu.below⟩
theorem Jqv {w0 u:World} {L:List SA} {s:Option Entr} {y:Entr} (h:s=some y) (hu:St w0.heap.size w0 L u):RdE w0 s (.returned (.tuple #[.agg (cEntry.cells y).toArray,.bool true])) u:=⟨(y,true),.inl ⟨rfl,h⟩,rfl,hu.below⟩
theorem Jye (t0:ByteArray) (w:World) (hM:MaxOk w) {m:Nat} {es:List MapEntry} {c:Nat} (hS:ShpOk w m es c) (ht:(t0.size:Int)≤1000000) :
  Calls Tryz.prog 17 #[.string t0] w (RdE w (logE t0)):=by
 refine enter Tryz.func17 rfl rfl (Nat.le_of_ble_eq_true rfl) ?_
 refine Nz 0 ?_
 refine Wl 1 zv56 (fun _=>rfl) (fun _=>rfl) fun b2 hb2=>?_
 refine Wd (Qc (Nz 1 ?_))
 refine Wc rfl rfl J3w (fun u hu=>Jxo 32 t0 u (hM.st hu) (by omega)) (fun _=>rfl) ?_; rintro v13 ⟨u13,hv13⟩
 refine Wz 1 ?_
 refine Wd (Qc (Cs (Nz 1 ?_)))
 refine Wk 1 (Nc (s:=⟨v13,Jab 32 t0⟩)) ?_
 refine Wd (Qc (CS.cond rfl ?_ ?_))<;>intro hc1<;>try simp only [bq] at hc1
 ·
  have hbad:=Jne (t:=t0) (by have h9:((Jab 32 t0).length:Int) < 2:=hc1; omega)
  refine Nz 0 ?_
  refine Wk 0 (by first | exact Jbi (j:=1) rfl rfl tk56 | exact Jbd (j:=1) rfl rfl (by rfl) tk56 | exact Jbk rfl (by assumption) (by rfl) tk56 | exact Jbl (n:=7) (j:=1) rfl rfl rfl rfl tk56) ?_
  refine WS.storeW (j:=1) rfl rfl rfl rfl (cEntry.one w ⟨0,0,mv0,0,0⟩ trivial) tk56 rfl rfl ?_
  refine Wz 1 ?_
  exact Wd (Qc (Cr (Qr (outR (Jcg rfl (Jam (j:=1) rfl rfl tk56) rfl) (fun u hu=>Jfs ⟨0,0,mv0,0,0⟩ hbad hu)))))
 have hsl:=Jb8 32 t0
 have hl2:2≤(Jab 32 t0).length:=by have h9:¬ ((Jab 32 t0).length:Int) < 2:=hc1; omega
 refine Ck (Qc ?_)
 refine CS.cut (σ:=Unit) [18,19,20,21,22,23,24,25] (fun s=>[(3,.bool (numE (nth (Jab 32 t0) 0)).isSome)]) (fun s=>[blk b2 (cEntry.cells ⟨((numB 7 (nth (Jab 32 t0) 0)).getD 0),0,mv0,0,0⟩) 56,roT cStr ⟨v13,Jab 32 t0⟩]) (fun s=>True) (fun _ _=>rfl) ?_ ?_
 ·
  refine Ny 1 ?_
  refine Wk 0 (Xc (s:=⟨v13,Jab 32 t0⟩) (h0:=by first | decide | omega) (h1:=by show (0:Int) < ((Jab 32 t0).length:Int); omega)) ?_
  refine Wk 0 (Vb 0 rfl (s:=⟨v13,Jab 32 t0⟩) (h:=⟨by first | decide | omega,by show (0:Int) < ((Jab 32 t0).length:Int); omega⟩)) ?_
  refine Wk 4 (Cb rfl rfl J0a (fun u hu=>Jkg (nth (Jab 32 t0) 0) u (by have:=Jdb (Jai (xs:=Jab 32 t0) (i:=0) (by decide) (by omega)); omega))) ?_
  refine Ws 1 1 ?_
  refine Wd ?_
  refine QS.sel [1,0] rfl ?_
  exact QS.head (()) rfl rfl trivial
 intro z0 t hs
 refine Cs (Nz 0 ?_)
 refine Wk 0 (Jd0 tkU rfl (fun u hu=>Jcs hu.below (Nat.le_refl _) hS.cell)) ?_
 refine WS.range mapU rfl hS.at_ rfl (fun _=>rfl) fun b27 hb27=>?_
 refine Wd (Qc (Ce ?_))
 refine CS.loopM (σ:=Int × List Nat) [5,6,28,29,30,31,32,33,34,35,36,37,38,39,40] (fun s=>[]) (fun s=>[itP b27 m c s.2,blk b2 (cEntry.cells ⟨((numB 7 (nth (Jab 32 t0) 0)).getD 0),s.1,mv0,0,0⟩) 56,roT cStr ⟨v13,Jab 32 t0⟩]) (fun s=>Jn5 es (nth (Jab 32 t0) 1) s.1 s.2) (fun s=>Jiy es s.2) (0,[]) (fun _ _=>rfl) rfl rfl ⟨.inl rfl,fun e _ h=>absurd h List.not_mem_nil⟩ ?_
 intro z t hs
 have hz:=hs
 refine Nz 0 ?_
 refine WS.next (j:=0) rfl rfl hS.at_ rfl (fun _=>rfl) (fun _=>rfl) fun o ho=>?_
 refine Wk 0 (Jo9 rfl) ?_
 refine Wd (Qc (Cs (CS.cond rfl ?_ ?_)))<;>intro hc2<;>try simp only [bq] at hc2
 ·
  obtain ⟨e,rfl⟩:∃ e,o=some e:=Option.isSome_iff_exists.1 hc2
  obtain ⟨k,hik,hek,hev⟩:=hS.has e ho.1
  refine Ck (Qc (Ce (Nz 0 ?_)))
  refine Wk 2 (Jop (j:=0) (seen:=z.2) rfl rfl hS.at_ ho.1 hek hev) ?_
  refine Wl 1 zv71 (fun _=>rfl) (fun _=>rfl) fun b6 hb6=>?_
  refine Wv 0 0 ?_
  refine Wd (Qc (Cs (Dr mixed 1 ?_)))
  refine Dk 1 (by first | exact Jbo (j:=0) rfl rfl rfl tk9 | exact Jge rfl (by assumption) rfl tk9) ?_
  refine Dk 0 (Xc (s:=⟨v13,Jab 32 t0⟩) (h0:=by first | decide | omega) (h1:=by show (1:Int) < ((Jab 32 t0).length:Int); omega)) ?_
  refine Dk 0 (Vb 3 rfl (s:=⟨v13,Jab 32 t0⟩) (h:=⟨by first | decide | omega,by show (1:Int) < ((Jab 32 t0).length:Int); omega⟩)) ?_
  refine Dk 0 (Jao rfl rfl) ?_
  refine Dd (Qc (CS.cond rfl ?_ ?_))<;>intro hc3<;>try simp only [bq] at hc3
  ·
   have hwk:kwE k=(nth (Jab 32 t0) 1):=Jev.1 hc3
   refine Ny 2 ?_
   refine Ws 0 2 ?_
   refine Wd (Qb ?_)
   refine QS.sel [1,1,1] rfl ?_
   exact QS.head ((k,z.2++[e.born])) rfl rfl ⟨Jtz hS hz ho.1 hek hik hwk,Jg0 ho⟩
  have hwk:¬ kwE k=(nth (Jab 32 t0) 1):=J1j.1 hc3
  refine Ck (Qb ?_)
  refine QS.sel [1,1,1] rfl ?_
  exact QS.head ((z.1,z.2++[e.born])) rfl rfl ⟨Jyh hS hz ho.1 hek hwk,Jg0 ho⟩
 obtain rfl:o=none:=by simpa using hc2
 have hkd:=Jtd hS hz ho
 have hfv:=Jxs z.1
 refine Cv (Qe (Qe (Qx (Qc (Nz 0 ?_)))))
 refine Wk 1 (Jd0 tkU rfl (fun u hu=>Jcs hu.below (Nat.le_refl _) hS.cell)) ?_
 refine Wk 0 (by first | exact Jbo (j:=1) rfl rfl rfl tk3 | exact Jge rfl (by assumption) rfl tk3) ?_
 refine Wk 3 (Jo2 mapU mapK rfl rfl hS.at_ hS.key (hS.look z.1)) ?_
 refine Wl 0 zv71 (fun _=>rfl) (fun _=>rfl) fun b7 hb7=>?_
 refine Wv 1 0 ?_
 refine Wd (Qc (Cs (Nz 3 ?_)))
 refine Wf 0 rfl rfl (fun hg=>Fm) ?_
 refine Wf 0 rfl rfl (fun hg=>Fn) ?_
 refine Wk 0 Po ?_
 refine Wd (Qc (CS.cond rfl ?_ ?_))<;>intro hc4<;>try simp only [bq] at hc4
 ·
  have hbad:logE t0=none:=Jg4 hl2 (by
   rcases hc4 with h | h
   ·
    exact .inl (Option.isSome_eq_false_iff.1 h |> Option.isNone_iff_eq_none.1)
   exact .inr (.inl (by rw [← hkd]; exact h)))
  refine Nz 0 ?_
  refine Wk 0 (by first | exact Jbi (j:=2) rfl rfl tk56 | exact Jbd (j:=2) rfl rfl (by rfl) tk56 | exact Jbk rfl (by assumption) (by rfl) tk56 | exact Jbl (n:=7) (j:=2) rfl rfl rfl rfl tk56) ?_
  refine WS.storeW (j:=2) rfl rfl rfl rfl (cEntry.one w _ trivial) tk56 rfl rfl ?_
  refine Wz 1 ?_
  exact Wd (Qc (Cr (Qr (outR (Jcg rfl (Jam (j:=2) rfl rfl tk56) rfl) (fun u hu=>Jfs ⟨((numB 7 (nth (Jab 32 t0) 0)).getD 0),z.1,mv0,0,0⟩ hbad hu)))))
 have hn0:(numE (nth (Jab 32 t0) 0)).isSome=true:=hc4.1
 have hik:inK z.1=true:=hc4.2
 have hk5:=Jkn hik
 obtain ⟨hnE,hnB⟩:=Jmo hn0
 rw [show wdV z.1=kwE z.1 from if_pos hik,show fnV z.1 = .func (.func (fnE z.1)) #[] #[] from if_pos hik]
 refine Ck (Qc (Nz 1 ?_))
 refine Wk 0 (Jbo (j:=0) rfl rfl rfl tkF) ?_
 refine Wc rfl rfl (entE hik) (fun u hu=>J27 hik b2 u) (fun _=>rfl) ?_; intro v57 hv57
 refine Wz 1 ?_
 refine Wd (Qc (Cs (Nz 1 ?_)))
 refine Wk 1 (Jdc sl76 rfl (j:=0) rfl) ?_
 refine Wk 0 (Nc (s:=⟨v13,Jab 32 t0⟩)) ?_
 refine Wk 1 (Jkt rfl rfl (by show -9223372036854775808≤((Jab 32 t0).length:Int) - 2∧((Jab 32 t0).length:Int) - 2≤9223372036854775807; omega)) ?_
 refine Wd (Qc (CS.cond rfl ?_ ?_))<;>intro hc5<;>try simp only [bq] at hc5
 ·
  have hbad:logE t0=none:=Jg4 hl2 (.inr (.inr (by have h9:¬ ((offE z.1).length:Int)=((Jab 32 t0).length:Int) - 2:=hc5; rw [← hkd]; omega)))
  refine Nz 0 ?_
  refine Wk 0 (by first | exact Jbi (j:=3) rfl rfl tk56 | exact Jbd (j:=3) rfl rfl (by rfl) tk56 | exact Jbk rfl (by assumption) (by rfl) tk56 | exact Jbl (n:=7) (j:=3) rfl rfl rfl rfl tk56) ?_
  refine WS.storeW (j:=3) rfl rfl rfl rfl (cEntry.one w _ trivial) tk56 rfl rfl ?_
  refine Wz 1 ?_
  exact Wd (Qc (Cr (Qr (outR (Jcg rfl (Jam (j:=3) rfl rfl tk56) rfl) (fun u hu=>Jfs ⟨((numB 7 (nth (Jab 32 t0) 0)).getD 0),z.1,mv0,0,0⟩ hbad hu)))))
 have hll:(offE z.1).length+2=(Jab 32 t0).length:=by
  have h9:((offE z.1).length:Int)=((Jab 32 t0).length:Int) - 2:=by simpa using hc5
  omega
 refine Ck (Qc (Cs (Nz 1 ?_)))
 refine Wk 1 (Jdc sl76 rfl (j:=0) rfl) ?_
 refine Wd (Qc (Ce ?_))
 refine CS.sel [3,0,2] rfl ?_
 refine CS.loopM (σ:=Int × List Int) [3,10,11,68,69,70,71,72,73,74,75,76,77,78,79,80,81,82,83,84,85,86] (fun s=>[(67,.int .i64 s.1)]) (fun s=>[blk b2 (cEntry.cells (stoE ((numB 7 (nth (Jab 32 t0) 0)).getD 0) z.1 s.2)) 56,osl 78 1 v57 (offE z.1).length (ptrL b2 (offE z.1)),roT cStr ⟨v13,Jab 32 t0⟩]) (fun s=>0≤s.1∧s.1≤(offE z.1).length∧Jb7 (((Jab 32 t0).drop 2).take s.1.toNat)=some s.2∧s.2.length=s.1.toNat) (fun s=>((offE z.1).length - s.1).toNat) (0,[]) (fun _ _=>rfl) rfl (by unfold stoE; rw [List.zip_nil_right]; rfl) ⟨by simp,by simp,rfl,rfl⟩ ?_
 intro q t hs
 obtain ⟨hq1,hq2,hq3,hq4⟩:=hs
 refine Nz 1 ?_
 refine Wd (Qc (Cs (CS.cond rfl ?_ ?_)))<;>intro hc6<;>try simp only [bq] at hc6
 ·
  obtain ⟨o,ho⟩:∃ o,(offE z.1)[q.1.toNat]? = some o:=⟨_,List.getElem?_eq_getElem (by omega)⟩
  have hob:=J15 ho
  have hpa:(ptrL b2 (offE z.1))[q.1.toNat * 1]? = some (.pointer (some ⟨b2,o,none⟩)):=by rw [Nat.mul_one]; exact J2u ho
  refine Ck (Qc (Cs (Ce (Nz 1 ?_))))
  refine Wk 0 (Jf8 (j:=1) sl76 rfl rfl rfl (by omega) (by omega)) ?_
  refine Wk 2 (Jix (j:=1) rfl rfl hpa tk78) ?_
  refine Wd (Qc (Nz 3 ?_))
  refine Wk 0 Za ?_
  refine Wk 0 (Xc (s:=⟨v13,Jab 32 t0⟩) (h0:=by first | decide | omega) (h1:=by show q.1+2 < ((Jab 32 t0).length:Int); omega)) ?_
  refine Wk 0 (Vb 2 rfl (s:=⟨v13,Jab 32 t0⟩) (h:=⟨by first | decide | omega,by show q.1+2 < ((Jab 32 t0).length:Int); omega⟩)) ?_
  refine Wk 4 (Cb rfl rfl J0a (fun u hu=>Jkg (nth (Jab 32 t0) (q.1+2)) u (by have:=Jdb (Jai (xs:=Jab 32 t0) (i:=q.1+2) (by omega) (by omega)); omega))) ?_
  refine WS.store (j:=0) rfl rfl (show o < 7 by omega) rfl rfl tk3 (Jee _ _ _) rfl ?_
  rw [Jqf hob]
  refine Wz 1 ?_
  refine Wd (Qc (Nz 2 ?_))
  refine Wd (Qc (CS.cond rfl ?_ ?_))<;>intro hc7<;>try simp only [bq] at hc7
  ·
   have hbad:=Jme hl2 hq1 (by omega) (Option.isSome_eq_false_iff.1 hc7 |> Option.isNone_iff_eq_none.1)
   refine Nz 0 ?_
   refine Wk 0 (by first | exact Jbi (j:=0) rfl rfl tk56 | exact Jbd (j:=0) rfl rfl (by rfl) tk56 | exact Jbk rfl (by assumption) (by rfl) tk56 | exact Jbl (n:=7) (j:=0) rfl rfl rfl rfl tk56) ?_
   refine WS.storeW (j:=0) rfl rfl rfl rfl (cEntry.one w _ trivial) tk56 rfl rfl ?_
   refine Wz 1 ?_
   exact Wd (Qc (Cr (Qs (Qr (Qr (Qs (Qr (outR (Jcg rfl (Jam (j:=0) rfl rfl tk56) rfl) (fun u hu=>Jfs (setE (stoE ((numB 7 (nth (Jab 32 t0) 0)).getD 0) z.1 q.2) o ((numB 7 (nth (Jab 32 t0) (q.1+2))).getD 0)) hbad hu)))))))))
  have hc7:(numE (nth (Jab 32 t0) (q.1+2))).isSome=true:=by simpa using hc7
  obtain ⟨hwE,hwB⟩:=Jmo hc7
  refine Ck (Qb (Qc (Ny 0 ?_)))
  refine Wk 1 Za ?_
  exact Wd (QS.head ((q.1+1,q.2++[(numB 7 (nth (Jab 32 t0) (q.1+2))).getD 0])) rfl (by show [_,_,_]=[_,_,_]; rw [Jys (by rw [hq4]; exact ho)]) ⟨⟨by simp; omega,by simp; omega,Jp6 hq1 (by omega) hq3 hwE,by simp; omega⟩,by simp; omega⟩)
 have hqe:q.1.toNat=(offE z.1).length:=by omega
 refine Cv (Qe (Qe (Qx (Qc (Nz 0 ?_)))))
 refine Wk 0 (by first | exact Jbi (j:=0) rfl rfl tk56 | exact Jbd (j:=0) rfl rfl (by rfl) tk56 | exact Jbk rfl (by assumption) (by rfl) tk56 | exact Jbl (n:=7) (j:=0) rfl rfl rfl rfl tk56) ?_
 refine WS.storeW (j:=0) rfl rfl rfl rfl (cEntry.one w _ trivial) tk56 rfl rfl ?_
 refine Wz 1 ?_
 refine Wd (Qc (Cr ?_))
 exact outR (Jcg rfl (Jam (j:=0) rfl rfl tk56) rfl) (fun u hu=>Jqv (by
    rw [hkd]
    exact Jpq hl2 hnE (by have h9:=hq3; rw [List.take_of_length_le (by rw [List.length_drop]; omega)] at h9; exact h9) (by rw [← hkd]; exact hik) (by rw [← hkd]; omega)) hu)
section
variable {P:Program} {ro:Option Nat} {n0:Nat} {w0:World} {ds:List Deferred} {ops:Array Oper} {Q:Exit→Act→World→Prop} {L:List SA} {rest:List Oper} {l:List Value}
theorem CS.roE {p:World→Prop} {c:Code} {j:Nat} (hj:L[j]? = some (roS p)) (k:(∃ u,p u)→CS P ro n0 w0 ds c Q L l):CS P ro n0 w0 ds c Q L l:=fun u hu=>k ⟨u,hu.ro hj⟩ u hu
theorem WS.roE {p:World→Prop} {j:Nat} (hj:L[j]? = some (roS p)) (k:(∃ u,p u)→WS P ro n0 w0 ds ops Q L rest l):WS P ro n0 w0 ds ops Q L rest l:=fun u hu=>k ⟨u,hu.ro hj⟩ u hu
theorem QS.roE {p:World→Prop} {e:Exit} {j:Nat} (hj:L[j]? = some (roS p)) (k:(∃ u,p u)→QS n0 w0 ds Q e L l):QS n0 w0 ds Q e L l:=fun u hu=>k ⟨u,hu.ro hj⟩ u hu
end
theorem J20 {n0:Nat} {w0 u:World} {L:List SA} {e:TypeId} {v:Value} {xs:List ByteArray} (h:St n0 w0 (oT cStr e v xs::L) u):St n0 w0 (roT cStr ⟨v,xs⟩::L) u :=
 St.toRo (A:=oT cStr e v xs) (p:=fun u=>SlT cStr u ⟨v,xs⟩) (fun S u h=>⟨Star.osl (L:=[oT cStr e v xs]) (j:=0) rfl ⟨S,fun _ h=>h,h,trivial⟩,fun _ _=>trivial⟩) h
theorem J25 (t0:ByteArray) (i:Int) (w:World) (h0:0≤i) (h1:i < (linS t0).length) (ht:t0.size≤100000) :
  Calls Tryz.prog 16 #[.string (nth (linS t0) i),.string ⟨#[10]⟩] w (RetB w (.tuple #[.string (nth (Jab 10 t0) i),.bool (decide (i+1 < ((Jab 10 t0).length:Int)))])):=by
 have hl:=Jst t0
 have hin:i < (Jab 10 t0).length:=by
  rw [hl] at h1
  split at h1 <;> omega
 have hm:=Jai (xs:=Jab 10 t0) h0 hin
 have hz:=Jdb hm
 rw [Jw3 h0 h1]
 by_cases h:i+1 < ((Jab 10 t0).length:Int)
 ·
  rw [Jx3 h0 h,decide_eq_true h]
  have q:=Jwz 10 (nth (Jab 10 t0) i++(⟨#[10]⟩:ByteArray)) w (by rw [ByteArray.size_append]; have:(⟨#[10]⟩:ByteArray).size=1:=rfl; omega)
  rw [(Jpv 10 _).1,(Jpv 10 _).2] at q
  exact q
 rw [Jmj h0 (by omega),decide_eq_false h]
 have q:=Jwz 10 (nth (Jab 10 t0) i) w (by omega)
 have hs:=Jz9 (Jk1 hm)
 rw [hs,Lib.trimSuffix,if_neg (by rw [hs]; decide)] at q
 exact q
theorem Jqt {xs:List ByteArray} (h:0 < xs.length):(Ja3 cStr xs)[((xs.length:Int) - 1).toNat * 1]? = some (.string (nth xs ((xs.length:Int) - 1))):=by
 rw [Jew,Nat.mul_one,List.getElem?_map,Jgk (by omega) (by omega)]
 rfl
theorem Jvs (t0:ByteArray) (w:World) (hM:MaxOk w) {m:Nat} {es:List MapEntry} {c:Nat} (hS:ShpOk w m es c) (ht:t0.size≤65536) :
  Calls Tryz.prog 6 #[.string t0] w (RetT cEntry w (Jch t0).1 (fun v=>.tuple #[v,.int .i64 (Jch t0).2.1,.int .i64 (Jch t0).2.2])):=by
 have hal:=Jir 10 t0
 have hsl:=Jb8 10 t0
 have hsp:=Je6 10 t0
 have hll:=Jst t0
 have hlc:=Jqt (xs:=(aftS 10 t0)) (by omega)
 have hla:nth (aftS 10 t0) (((aftS 10 t0).length:Int) - 1)=Jjn t0:=by rw [hal]; exact Jmj (by omega) (by omega)
 refine enter Tryz.func6 rfl rfl (Nat.le_of_ble_eq_true rfl) ?_
 refine Nz 3 ?_
 refine Wd (Qc (Cs (Nz 1 ?_)))
 refine Wk 1 (Jau Tryz.underlying9 rfl) ?_
 refine Wd (Qc (CS.cond rfl ?_ ?_))<;>intro hc1<;>try simp only [bq] at hc1
 ·
  exact absurd hc1 (by omega)
 refine Ck (Qc (Nz 1 ?_))
 refine Wc rfl rfl J3n (fun u hu=>Jx0 10 t0 u (hM.st hu) (by omega)) (fun _=>rfl) ?_; intro v16 hv16
 refine Wz 1 ?_
 refine Wd (Qc ?_)
 refine CS.cut (σ:=Value) [17,18,19,20,21,22,23,24,25,26,27,28,29,30] (fun s=>[(5,s)]) (fun s=>[roT cStr ⟨s,linS t0⟩]) (fun s=>True) (fun _ _=>rfl) ?_ ?_
 ·
  refine Nz 2 ?_
  refine Wk 0 (Jdc sl34 rfl (j:=0) rfl) ?_
  refine Wk 0 Zb ?_
  refine Wk 0 (Jf8 (j:=0) sl34 rfl rfl rfl (by omega) (by omega)) ?_
  refine Wk 0 (Jix (j:=0) rfl rfl hlc tk9) ?_
  refine Wk 0 (Jao rfl rfl) ?_
  refine Wd (Qc (CS.cond rfl ?_ ?_))<;>intro hc2<;>try simp only [bq] at hc2
  ·
   have hlast:seq (Jjn t0) ⟨#[]⟩=true:=by rw [← hla]; exact hc2
   have hlin:linS t0=(aftS 10 t0).dropLast:=if_pos hlast
   refine Ny 2 ?_
   refine Wk 0 (Jdc sl34 rfl (j:=0) rfl) ?_
   refine Wk 1 Zb ?_
   refine Wk 0 (Jdc sl34 rfl (j:=0) rfl) ?_
   refine WS.callS (p:=fun v':Value=>v'.oneCell'=true) (L':=fun v':Value=>[oT cStr 9 v' (aftS 10 t0).dropLast]) rfl rfl J4j (fun u hu=>Jsd [] (aftS 10 t0) v16 hu (by omega) (by omega)) (fun _=>rfl) ?_; intro v30 hv30
   refine Wz 1 ?_
   refine Wd ?_
   refine QS.weak (fun u hu=>J20 hu) ?_
   exact QS.head (v30) rfl (by rw [hlin]) trivial
  have hlast:¬ seq (Jjn t0) ⟨#[]⟩=true:=by rw [← hla]; simpa using hc2
  have hlin:linS t0=(aftS 10 t0):=if_neg hlast
  refine Ck ?_
  refine QS.weak (fun u hu=>J20 hu) ?_
  exact QS.head (v16) rfl (by rw [hlin]) trivial
 intro p t hs
 refine CS.roE (j:=0) rfl fun hwx=>?_
 obtain ⟨u5,hv5⟩:=hwx
 refine Cs (Nz 1 ?_)
 refine Wk 1 (Nc (s:=⟨p,linS t0⟩)) ?_
 refine Wd (Qc (Ce ?_))
 refine CS.weak (fun _ hu=>hu.osl0 (e:=56) (size:=7)) ?_
 refine CS.loopM (σ:=Int × Value × List Entr) [3,4,6,7,8,9,10,11,34,35,36,37,38,39,40,41,42,43,44,45,46,47,48,49,50,51,52,53,54,55,56,57,58,59,60] (fun s=>[(33,.int .i64 s.1),(2,s.2.1)]) (fun s=>[oT cEntry 56 s.2.1 s.2.2,roT cStr ⟨p,linS t0⟩]) (fun s=>0≤s.1∧s.1+1≤((Jab 10 t0).length:Int)∧s.1≤(linS t0).length∧Jch t0=parE s.2.2 s.1 ((Jab 10 t0).drop s.1.toNat)∧s.2.2.length=s.1.toNat) (fun s=>((linS t0).length - s.1).toNat) (0,.slice none 0 0,[]) (fun _ _=>rfl) rfl rfl ⟨by simp,by simp; omega,by simp,rfl,rfl⟩ ?_
 intro a t hs
 obtain ⟨ha0,ha1,ha2,ha4,ha5⟩:=hs
 refine Nz 1 ?_
 refine Wd (Qc (Cs (CS.cond rfl ?_ ?_)))<;>intro hc3<;>try simp only [bq] at hc3
 ·
  have hin:a.1 < ((Jab 10 t0).length:Int):=by rw [hll] at hc3; split at hc3 <;> omega
  have hpz:=Jdb (Jai (xs:=Jab 10 t0) ha0 hin)
  refine Ck (Qc (Cs (Ce (Nz 1 ?_))))
  refine Wk 0 (Xc (s:=⟨p,linS t0⟩) (h1:=by show a.1 < ((linS t0).length:Int); omega)) ?_
  refine Wk 2 (Vb 1 rfl (s:=⟨p,linS t0⟩) (h:=⟨by omega,by show a.1 < ((linS t0).length:Int); omega⟩)) ?_
  refine Wd (Qc (Nz 1 ?_))
  refine Wk 5 (Cb rfl rfl J4c (fun u hu=>J25 t0 a.1 u ha0 (by omega) (by omega))) ?_
  refine Wd (Qc (Nz 1 ?_))
  refine WS.callE (β:=Entr × Bool) (p:=fun y=>y.2=true∧logE (nth (Jab 10 t0) a.1)=some y.1∨y.2=false∧logE (nth (Jab 10 t0) a.1)=none) (v:=fun y=>.tuple #[.agg (cEntry.cells y.1).toArray,.bool y.2]) rfl rfl J4e (fun u hu=>Jye (nth (Jab 10 t0) a.1) u (hM.st hu) (hS.st hu) (by omega)) (fun _=>rfl) ?_; rintro x hx
  refine Wz 3 ?_
  refine Wl 0 zv56 (fun _=>rfl) (fun _=>rfl) fun b10 hb10=>?_
  refine Wv 1 0 ?_
  refine Wd (Qc (Cs (Nz 3 ?_)))
  refine Wf 0 rfl rfl (fun hg=>Fm) ?_
  refine Wf 0 rfl rfl (fun hg=>Fn) ?_
  refine Wk 0 Po ?_
  refine Wd (Qc (CS.cond rfl ?_ ?_))<;>intro hc4<;>try simp only [bq] at hc4
  ·
   have hbad:Jch t0=([],a.1+1,4):=by
    rw [ha4]
    by_cases h:a.1+1 < ((Jab 10 t0).length:Int)
    ·
     rcases hc4 with h9 | h9
     ·
      exact absurd h (by simpa using h9)
     rcases hx with ⟨h8,_⟩ | ⟨_,h8⟩
     ·
      rw [h8] at h9; cases h9
     rw [Jf4 ha0 h,h8]
    have hno:¬ seq (Jjn t0) ⟨#[]⟩=true:=fun hq=>by rw [if_pos hq] at hll; omega
    rw [Jiv ha0 (by omega),if_neg (by rw [show a.1=((Jab 10 t0).length:Int) - 1 by omega]; exact hno)]
   refine Nz 1 ?_
   refine Wk 3 Za ?_
   refine Wd (Qc (Cr (Qr (Qs (Qr (Qr (Qs (Qr ?_))))))))
   exact out3 rfl rfl rfl rfl (fun u hu=>by
      rw [hbad]
      exact Jit hu)
  have h:a.1+1 < ((Jab 10 t0).length:Int):=by simpa using hc4.1
  have hxs:logE (nth (Jab 10 t0) a.1)=some x.1:=by
   rcases hx with ⟨_,h8⟩ | ⟨h8,_⟩
   ·
    exact h8
   rw [h8] at hc4; simp at hc4
  refine Ck (Qc (Ny 1 ?_))
  refine Wk 0 (by first | exact Jbi (j:=0) rfl rfl tk56 | exact Jbd (j:=0) rfl rfl (by rfl) tk56 | exact Jbk rfl (by assumption) (by rfl) tk56 | exact Jbl (n:=7) (j:=0) rfl rfl rfl rfl tk56) ?_
  refine WS.buildT1 cEntry (a:=x.1) sl23 zv56 rfl (by decide) (fun _=>rfl) ?_; intro v58
  refine WS.appendT1 (C:=cEntry) (a:=x.1) (j:=2) (jz:=0) sl23 zv56 rfl (by decide) rfl rfl rfl rfl (w:=w) trivial (by omega) (by omega) (fun _=>rfl) (fun _=>rfl) ?_; intro v59 hv59
  refine Wz 1 ?_
  refine Wd (Qb (Qc (Ny 0 ?_)))
  refine Wk 1 Za ?_
  refine Wd ?_
  refine QS.sel [2,2] rfl ?_
  exact QS.head ((a.1+1,v59,a.2.2++[x.1])) rfl rfl ⟨⟨by simp; omega,by simp; omega,by simp; omega,by rw [ha4,Jf4 ha0 h,hxs],by simp; omega⟩,by simp; omega⟩
 have hyes:seq (Jjn t0) ⟨#[]⟩=true:=by
  cases hq:seq (Jjn t0) ⟨#[]⟩ with
  | true=>rfl
  | false=>rw [hq] at hll; simp at hll; omega
 rw [if_pos hyes] at hll
 have hae:a.1=((Jab 10 t0).length:Int) - 1:=by omega
 have hfin:Jch t0=if 500 < (a.2.2.length:Int) then ([],0,2) else (a.2.2,0,0):=by
  rw [ha4,Jiv ha0 (by omega),if_pos (by rw [hae]; exact hyes)]
 refine Cv (Qe (Qe (Qx (Qc (Cs (Nz 1 ?_))))))
 refine Wk 1 (Jdc (j:=0) sl23 rfl rfl) ?_
 refine Wd (Qc (CS.cond rfl ?_ ?_))<;>intro hc5<;>try simp only [bq] at hc5
 ·
  have hmany:Jch t0=([],0,2):=by rw [hfin,if_pos hc5]
  refine Nz 3 ?_
  refine Wd (Qc (Cr (Qr ?_)))
  exact out3 rfl rfl rfl rfl (fun u hu=>by
     rw [hmany]
     exact Jit hu)
 have hfew:Jch t0=(a.2.2,0,0):=by rw [hfin,if_neg hc5]
 refine Ck (Qc (Nz 4 ?_))
 refine Wd (Qc (Cr ?_))
 exact out3 rfl rfl rfl rfl (fun u hu=>by
    rw [hfew]
    exact retT (C:=cEntry) (f:=fun v=>.tuple #[v,.int .i64 0,.int .i64 0]) (fun _ _ _=>trivial) (j:=0) rfl hu)
end Go.Proofs.YtfbfdnoodccgiaaGreatDoor
