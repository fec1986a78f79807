/- Merged texts of this proof (walks and plain laws), printed by a program of the prover. -/
import Derived.Test.YtfbfdnoodccgiaaGreatDoorXf
import Derived.Test.YtfbfdnoodccgiaaGreatDoorZb2
set_option maxHeartbeats 8000000
namespace Go.Proofs.YtfbfdnoodccgiaaGreatDoor
open Go.RowKit Go.Proofs
set_option maxRecDepth 100000
set_option linter.unusedVariables false
set_option linter.unusedSimpArgs false
def Jp1 (es:List MapEntry) (w1:ByteArray) (kd:Int) (seen:List Nat):Prop :=
 (kd=0∨(inK kd=true∧kwE kd=w1))∧∀ e∈es,e.born∈seen→∀ k,inK k=true→e.key = .int .i64 k→kwE k=w1→kd=k
theorem Jwa {w:World} {m:Nat} {es:List MapEntry} {c:Nat} (hS:ShpOk w m es c) {w1:ByteArray} {kd k:Int} {seen:List Nat} (h:Jp1 es w1 kd seen) {e:MapEntry} (he:e∈es) (hk:e.key = .int .i64 k) (hi:inK k=true) (hw:kwE k=w1):Jp1 es w1 k (seen++[e.born]) :=
 ⟨.inr ⟨hi,hw⟩,fun q hq _ j hj _ hjw=>J4m hi hj (hw.trans hjw.symm)⟩
theorem J07 {w:World} {m:Nat} {es:List MapEntry} {c:Nat} (hS:ShpOk w m es c) {w1:ByteArray} {kd k:Int} {seen:List Nat} (h:Jp1 es w1 kd seen) {e:MapEntry} (he:e∈es) (hk:e.key = .int .i64 k) (hw:¬ kwE k=w1):Jp1 es w1 kd (seen++[e.born]) :=
 ⟨h.1,fun q hq hb j hj ej hjw=>by
  rcases List.mem_append.1 hb with hb | hb
  ·
   exact h.2 q hq hb j hj ej hjw
  rw [List.mem_singleton] at hb
  obtain rfl:=Jvn hS.at_ he hq hb
  rw [hk] at ej
  obtain rfl:k=j:=by injection ej
  exact absurd hjw hw⟩
theorem Jwf {w:World} {m:Nat} {es:List MapEntry} {c:Nat} (hS:ShpOk w m es c) {w1:ByteArray} {kd:Int} {seen:List Nat} (h:Jp1 es w1 kd seen) (ha:∀ e∈es,e.born∈seen):kd=Jfx w1:=by
 rcases J0t w1 with h0 | ⟨h1,h2⟩
 ·
  rw [h0]
  rcases h.1 with h3 | ⟨h3,h4⟩
  ·
   exact h3
  rw [← h4,Ji0 (Jz0 h3)] at h0
  subst h0
  cases h3
 obtain ⟨e,he,hk⟩:=hS.all _ h1
 exact h.2 e he (ha e he) _ h1 hk h2
def RdE (w:World) (s:Option Entr):Ending→World→Prop:=fun e w'=>∃ y:Entr × Bool,(y.2=true∧s=some y.1∨y.2=false∧s=none)∧RetB w (.tuple #[.agg (cEntry.cells y.1).toArray,.bool y.2]) e w'
theorem Joc {w0 u:World} {L:List SA} {s:Option Entr} (y:Entr) (h:s=none) (hu:St w0.heap.size w0 L u):RdE w0 s (.returned (.tuple #[.agg (cEntry.cells y).toArray,.bool false])) u:=⟨(y,false),.inr ⟨rfl,h⟩,rfl,hu.below⟩
theorem Jzp {w0 u:World} {L:List SA} {s:Option Entr} {y:Entr} (h:s=some y) (hu:St w0.heap.size w0 L u):RdE w0 s (.returned (.tuple #[.agg (cEntry.cells y).toArray,.bool true])) u:=⟨(y,true),.inl ⟨rfl,h⟩,rfl,hu.below⟩
theorem J0q (t0:ByteArray) (w:World) (hM:MaxOk w) {m:Nat} {es:List MapEntry} {c:Nat} (hS:ShpOk w m es c) (ht:(t0.size:Int)≤1000000) :
  Calls Tryz.prog 17 #[.string t0] w (RdE w (logE t0)):=by
 refine enter Tryz.func17 rfl rfl (Nat.le_of_ble_eq_true rfl) ?_
 refine Nz 0 ?_
 refine Wl 1 zv56 (fun _=>rfl) (fun _=>rfl) fun b2 hb2=>?_
 refine Wd (Qc (Nz 1 ?_))
 refine Wc rfl rfl J5p (fun u hu=>J0m 32 t0 u (hM.st hu) (by omega)) (fun _=>rfl) ?_; rintro v13 ⟨u13,hv13⟩
 refine Wz 1 ?_
 refine Wd (Qc (Cs (Nz 1 ?_)))
 refine Wk 1 (Nc (s:=⟨v13,Jad 32 t0⟩)) ?_
 refine Wd (Qc (CS.cond rfl ?_ ?_))<;>intro hc1<;>try simp only [bq] at hc1
 ·
  have hbad:=Jwn (t:=t0) (by have h9:((Jad 32 t0).length:Int) < 2:=hc1; omega)
  refine Nz 0 ?_
  refine Wk 0 (by first | exact Jbr (j:=1) rfl rfl tk56 | exact Jbj (j:=1) rfl rfl (by rfl) tk56 | exact Jbs rfl (by assumption) (by rfl) tk56 | exact Jbq (n:=7) (j:=1) rfl rfl rfl rfl tk56) ?_
  refine WS.storeW (j:=1) rfl rfl rfl rfl (cEntry.one w ⟨0,0,mv0,0,0⟩ trivial) tk56 rfl rfl ?_
  refine Wz 1 ?_
  exact Wd (Qc (Cr (Qr (outR (Jc3 rfl (Jar (j:=1) rfl rfl tk56) rfl) (fun u hu=>Joc ⟨0,0,mv0,0,0⟩ hbad hu)))))
 have hsl:=Jde 32 t0
 have hl2:2≤(Jad 32 t0).length:=by have h9:¬ ((Jad 32 t0).length:Int) < 2:=hc1; omega
 refine Ck (Qc ?_)
 refine CS.cut (σ:=Unit) [18,19,20,21,22,23,24,25] (fun s=>[(3,.bool (numE (nth (Jad 32 t0) 0)).isSome)]) (fun s=>[blk b2 (cEntry.cells ⟨((numB 7 (nth (Jad 32 t0) 0)).getD 0),0,mv0,0,0⟩) 56,roT cStr ⟨v13,Jad 32 t0⟩]) (fun s=>True) (fun _ _=>rfl) ?_ ?_
 ·
  refine Ny 1 ?_
  refine Wk 0 (Xc (s:=⟨v13,Jad 32 t0⟩) (h0:=by first | decide | omega) (h1:=by show (0:Int) < ((Jad 32 t0).length:Int); omega)) ?_
  refine Wk 0 (Vb 0 rfl (s:=⟨v13,Jad 32 t0⟩) (h:=⟨by first | decide | omega,by show (0:Int) < ((Jad 32 t0).length:Int); omega⟩)) ?_
  refine Wk 4 (Cb rfl rfl J1i (fun u hu=>Jjo (nth (Jad 32 t0) 0) u (by have:=Jet (Jaj (xs:=Jad 32 t0) (i:=0) (by decide) (by omega)); omega))) ?_
  refine Ws 1 1 ?_
  refine Wd ?_
  refine QS.sel [1,0] rfl ?_
  exact QS.head (()) rfl rfl trivial
 intro z0 t hs
 refine Cs (Nz 0 ?_)
 refine Wk 0 (Jdk tkU rfl (fun u hu=>Jb9 hu.below (Nat.le_refl _) hS.cell)) ?_
 refine WS.range mapU rfl hS.at_ rfl (fun _=>rfl) fun b27 hb27=>?_
 refine Wd (Qc (Ce ?_))
 refine CS.loopM (σ:=Int × List Nat) [5,6,28,29,30,31,32,33,34,35,36,37,38,39,40] (fun s=>[]) (fun s=>[itP b27 m c s.2,blk b2 (cEntry.cells ⟨((numB 7 (nth (Jad 32 t0) 0)).getD 0),s.1,mv0,0,0⟩) 56,roT cStr ⟨v13,Jad 32 t0⟩]) (fun s=>Jp1 es (nth (Jad 32 t0) 1) s.1 s.2) (fun s=>Jjl es s.2) (0,[]) (fun _ _=>rfl) rfl rfl ⟨.inl rfl,fun e _ h=>absurd h List.not_mem_nil⟩ ?_
 intro z t hs
 have hz:=hs
 refine Nz 0 ?_
 refine WS.next (j:=0) rfl rfl hS.at_ rfl (fun _=>rfl) (fun _=>rfl) fun o ho=>?_
 refine Wk 0 (Jpq rfl) ?_
 refine Wd (Qc (Cs (CS.cond rfl ?_ ?_)))<;>intro hc2<;>try simp only [bq] at hc2
 ·
  obtain ⟨e,rfl⟩:∃ e,o=some e:=Option.isSome_iff_exists.1 hc2
  obtain ⟨k,hik,hek,hev⟩:=hS.has e ho.1
  refine Ck (Qc (Ce (Nz 0 ?_)))
  refine Wk 2 (Jpn (j:=0) (seen:=z.2) rfl rfl hS.at_ ho.1 hek hev) ?_
  refine Wl 1 zv71 (fun _=>rfl) (fun _=>rfl) fun b6 hb6=>?_
  refine Wv 0 0 ?_
  refine Wd (Qc (Cs (Dr mixed 1 ?_)))
  refine Dk 1 (by first | exact Jah (j:=0) rfl rfl rfl tk9 | exact Ja0 rfl (by assumption) rfl tk9) ?_
  refine Dk 0 (Xc (s:=⟨v13,Jad 32 t0⟩) (h0:=by first | decide | omega) (h1:=by show (1:Int) < ((Jad 32 t0).length:Int); omega)) ?_
  refine Dk 0 (Vb 3 rfl (s:=⟨v13,Jad 32 t0⟩) (h:=⟨by first | decide | omega,by show (1:Int) < ((Jad 32 t0).length:Int); omega⟩)) ?_
  refine Dk 0 (Jaw rfl rfl) ?_
  refine Dd (Qc (CS.cond rfl ?_ ?_))<;>intro hc3<;>try simp only [bq] at hc3
  ·
   have hwk:kwE k=(nth (Jad 32 t0) 1):=Jew.1 hc3
   refine Ny 2 ?_
   refine Ws 0 2 ?_
   refine Wd (Qb ?_)
   refine QS.sel [1,1,1] rfl ?_
   exact QS.head ((k,z.2++[e.born])) rfl rfl ⟨Jwa hS hz ho.1 hek hik hwk,Jg4 ho⟩
  have hwk:¬ kwE k=(nth (Jad 32 t0) 1):=J4c.1 hc3
  refine Ck (Qb ?_)
  refine QS.sel [1,1,1] rfl ?_
  exact QS.head ((z.1,z.2++[e.born])) rfl rfl ⟨J07 hS hz ho.1 hek hwk,Jg4 ho⟩
 obtain rfl:o=none:=by simpa using hc2
 have hkd:=Jwf hS hz ho
 have hfv:=Jsa z.1
 refine Cv (Qe (Qe (Qx (Qc (Nz 0 ?_)))))
 refine Wk 1 (Jdk tkU rfl (fun u hu=>Jb9 hu.below (Nat.le_refl _) hS.cell)) ?_
 refine Wk 0 (by first | exact Jah (j:=1) rfl rfl rfl tk3 | exact Ja0 rfl (by assumption) rfl tk3) ?_
 refine Wk 3 (Jhv mapU mapK rfl rfl hS.at_ hS.key (hS.look z.1)) ?_
 refine Wl 0 zv71 (fun _=>rfl) (fun _=>rfl) fun b7 hb7=>?_
 refine Wv 1 0 ?_
 refine Wd (Qc (Cs (Nz 3 ?_)))
 refine Wf 0 rfl rfl (fun hg=>Fm) ?_
 refine Wf 0 rfl rfl (fun hg=>Fn) ?_
 refine Wk 0 Po ?_
 refine Wd (Qc (CS.cond rfl ?_ ?_))<;>intro hc4<;>try simp only [bq] at hc4
 ·
  have hbad:logE t0=none:=Jsp hl2 (by
   rcases hc4 with h | h
   ·
    exact .inl (Option.isSome_eq_false_iff.1 h |> Option.isNone_iff_eq_none.1)
   exact .inr (.inl (by rw [← hkd]; exact h)))
  refine Nz 0 ?_
  refine Wk 0 (by first | exact Jbr (j:=2) rfl rfl tk56 | exact Jbj (j:=2) rfl rfl (by rfl) tk56 | exact Jbs rfl (by assumption) (by rfl) tk56 | exact Jbq (n:=7) (j:=2) rfl rfl rfl rfl tk56) ?_
  refine WS.storeW (j:=2) rfl rfl rfl rfl (cEntry.one w _ trivial) tk56 rfl rfl ?_
  refine Wz 1 ?_
  exact Wd (Qc (Cr (Qr (outR (Jc3 rfl (Jar (j:=2) rfl rfl tk56) rfl) (fun u hu=>Joc ⟨((numB 7 (nth (Jad 32 t0) 0)).getD 0),z.1,mv0,0,0⟩ hbad hu)))))
 have hn0:(numE (nth (Jad 32 t0) 0)).isSome=true:=hc4.1
 have hik:inK z.1=true:=hc4.2
 have hk5:=Jjb hik
 obtain ⟨hnE,hnB⟩:=Jn8 hn0
 rw [show wdV z.1=kwE z.1 from if_pos hik,show fnV z.1 = .func (.func (fnE z.1)) #[] #[] from if_pos hik]
 refine Ck (Qc (Nz 1 ?_))
 refine Wk 0 (Jah (j:=0) rfl rfl rfl tkF) ?_
 refine Wc rfl rfl (entE hik) (fun u hu=>Jym hik b2 u) (fun _=>rfl) ?_; intro v57 hv57
 refine Wz 1 ?_
 refine Wd (Qc (Cs (Nz 1 ?_)))
 refine Wk 1 (Jcp sl76 rfl (j:=0) rfl) ?_
 refine Wk 0 (Nc (s:=⟨v13,Jad 32 t0⟩)) ?_
 refine Wk 1 (Jl7 rfl rfl (by show -9223372036854775808≤((Jad 32 t0).length:Int) - 2∧((Jad 32 t0).length:Int) - 2≤9223372036854775807; omega)) ?_
 refine Wd (Qc (CS.cond rfl ?_ ?_))<;>intro hc5<;>try simp only [bq] at hc5
 ·
  have hbad:logE t0=none:=Jsp hl2 (.inr (.inr (by have h9:¬ ((offE z.1).length:Int)=((Jad 32 t0).length:Int) - 2:=hc5; rw [← hkd]; omega)))
  refine Nz 0 ?_
  refine Wk 0 (by first | exact Jbr (j:=3) rfl rfl tk56 | exact Jbj (j:=3) rfl rfl (by rfl) tk56 | exact Jbs rfl (by assumption) (by rfl) tk56 | exact Jbq (n:=7) (j:=3) rfl rfl rfl rfl tk56) ?_
  refine WS.storeW (j:=3) rfl rfl rfl rfl (cEntry.one w _ trivial) tk56 rfl rfl ?_
  refine Wz 1 ?_
  exact Wd (Qc (Cr (Qr (outR (Jc3 rfl (Jar (j:=3) rfl rfl tk56) rfl) (fun u hu=>Joc ⟨((numB 7 (nth (Jad 32 t0) 0)).getD 0),z.1,mv0,0,0⟩ hbad hu)))))
 have hll:(offE z.1).length+2=(Jad 32 t0).length:=by
  have h9:((offE z.1).length:Int)=((Jad 32 t0).length:Int) - 2:=by simpa using hc5
  omega
 refine Ck (Qc (Cs (Nz 1 ?_)))
 refine Wk 1 (Jcp sl76 rfl (j:=0) rfl) ?_
 refine Wd (Qc (Ce ?_))
 refine CS.sel [3,0,2] rfl ?_
 refine CS.loopM (σ:=Int × List Int) [3,10,11,68,69,70,71,72,73,74,75,76,77,78,79,80,81,82,83,84,85,86] (fun s=>[(67,.int .i64 s.1)]) (fun s=>[blk b2 (cEntry.cells (stoE ((numB 7 (nth (Jad 32 t0) 0)).getD 0) z.1 s.2)) 56,osl 78 1 v57 (offE z.1).length (ptrL b2 (offE z.1)),roT cStr ⟨v13,Jad 32 t0⟩]) (fun s=>0≤s.1∧s.1≤(offE z.1).length∧Jcx (((Jad 32 t0).drop 2).take s.1.toNat)=some s.2∧s.2.length=s.1.toNat) (fun s=>((offE z.1).length - s.1).toNat) (0,[]) (fun _ _=>rfl) rfl (by unfold stoE; rw [List.zip_nil_right]; rfl) ⟨by simp,by simp,rfl,rfl⟩ ?_
 intro q t hs
 obtain ⟨hq1,hq2,hq3,hq4⟩:=hs
 refine Nz 1 ?_
 refine Wd (Qc (Cs (CS.cond rfl ?_ ?_)))<;>intro hc6<;>try simp only [bq] at hc6
 ·
  obtain ⟨o,ho⟩:∃ o,(offE z.1)[q.1.toNat]? = some o:=⟨_,List.getElem?_eq_getElem (by omega)⟩
  have hob:=Jys ho
  have hpa:(ptrL b2 (offE z.1))[q.1.toNat * 1]? = some (.pointer (some ⟨b2,o,none⟩)):=by rw [Nat.mul_one]; exact Jyb ho
  refine Ck (Qc (Cs (Ce (Nz 1 ?_))))
  refine Wk 0 (Je2 (j:=1) sl76 rfl rfl rfl (by omega) (by omega)) ?_
  refine Wk 2 (Jg9 (j:=1) rfl rfl hpa tk78) ?_
  refine Wd (Qc (Nz 3 ?_))
  refine Wk 0 Za ?_
  refine Wk 0 (Xc (s:=⟨v13,Jad 32 t0⟩) (h0:=by first | decide | omega) (h1:=by show q.1+2 < ((Jad 32 t0).length:Int); omega)) ?_
  refine Wk 0 (Vb 2 rfl (s:=⟨v13,Jad 32 t0⟩) (h:=⟨by first | decide | omega,by show q.1+2 < ((Jad 32 t0).length:Int); omega⟩)) ?_
  refine Wk 4 (Cb rfl rfl J1i (fun u hu=>Jjo (nth (Jad 32 t0) (q.1+2)) u (by have:=Jet (Jaj (xs:=Jad 32 t0) (i:=q.1+2) (by omega) (by omega)); omega))) ?_
  refine WS.store (j:=0) rfl rfl (show o < 7 by omega) rfl rfl tk3 (Jbk _ _ _) rfl ?_
  rw [Jjn hob]
  refine Wz 1 ?_
  refine Wd (Qc (Nz 2 ?_))
  refine Wd (Qc (CS.cond rfl ?_ ?_))<;>intro hc7<;>try simp only [bq] at hc7
  ·
   have hbad:=Jxq hl2 hq1 (by omega) (Option.isSome_eq_false_iff.1 hc7 |> Option.isNone_iff_eq_none.1)
   refine Nz 0 ?_
   refine Wk 0 (by first | exact Jbr (j:=0) rfl rfl tk56 | exact Jbj (j:=0) rfl rfl (by rfl) tk56 | exact Jbs rfl (by assumption) (by rfl) tk56 | exact Jbq (n:=7) (j:=0) rfl rfl rfl rfl tk56) ?_
   refine WS.storeW (j:=0) rfl rfl rfl rfl (cEntry.one w _ trivial) tk56 rfl rfl ?_
   refine Wz 1 ?_
   exact Wd (Qc (Cr (Qs (Qr (Qr (Qs (Qr (outR (Jc3 rfl (Jar (j:=0) rfl rfl tk56) rfl) (fun u hu=>Joc (setE (stoE ((numB 7 (nth (Jad 32 t0) 0)).getD 0) z.1 q.2) o ((numB 7 (nth (Jad 32 t0) (q.1+2))).getD 0)) hbad hu)))))))))
  have hc7:(numE (nth (Jad 32 t0) (q.1+2))).isSome=true:=by simpa using hc7
  obtain ⟨hwE,hwB⟩:=Jn8 hc7
  refine Ck (Qb (Qc (Ny 0 ?_)))
  refine Wk 1 Za ?_
  exact Wd (QS.head ((q.1+1,q.2++[(numB 7 (nth (Jad 32 t0) (q.1+2))).getD 0])) rfl (by show [_,_,_]=[_,_,_]; rw [Jzh (by rw [hq4]; exact ho)]) ⟨⟨by simp; omega,by simp; omega,Juj hq1 (by omega) hq3 hwE,by simp; omega⟩,by simp; omega⟩)
 have hqe:q.1.toNat=(offE z.1).length:=by omega
 refine Cv (Qe (Qe (Qx (Qc (Nz 0 ?_)))))
 refine Wk 0 (by first | exact Jbr (j:=0) rfl rfl tk56 | exact Jbj (j:=0) rfl rfl (by rfl) tk56 | exact Jbs rfl (by assumption) (by rfl) tk56 | exact Jbq (n:=7) (j:=0) rfl rfl rfl rfl tk56) ?_
 refine WS.storeW (j:=0) rfl rfl rfl rfl (cEntry.one w _ trivial) tk56 rfl rfl ?_
 refine Wz 1 ?_
 refine Wd (Qc (Cr ?_))
 exact outR (Jc3 rfl (Jar (j:=0) rfl rfl tk56) rfl) (fun u hu=>Jzp (by
    rw [hkd]
    exact J0w hl2 hnE (by have h9:=hq3; rw [List.take_of_length_le (by rw [List.length_drop]; omega)] at h9; exact h9) (by rw [← hkd]; exact hik) (by rw [← hkd]; omega)) hu)
section
variable {P:Program} {ro:Option Nat} {n0:Nat} {w0:World} {ds:List Deferred} {ops:Array Oper} {Q:Exit→Act→World→Prop} {L:List SA} {rest:List Oper} {l:List Value}
theorem CS.roE {p:World→Prop} {c:Code} {j:Nat} (hj:L[j]? = some (roS p)) (k:(∃ u,p u)→CS P ro n0 w0 ds c Q L l):CS P ro n0 w0 ds c Q L l:=fun u hu=>k ⟨u,hu.ro hj⟩ u hu
theorem WS.roE {p:World→Prop} {j:Nat} (hj:L[j]? = some (roS p)) (k:(∃ u,p u)→WS P ro n0 w0 ds ops Q L rest l):WS P ro n0 w0 ds ops Q L rest l:=fun u hu=>k ⟨u,hu.ro hj⟩ u hu
theorem QS.roE {p:World→Prop} {e:Exit} {j:Nat} (hj:L[j]? = some (roS p)) (k:(∃ u,p u)→QS n0 w0 ds Q e L l):QS n0 w0 ds Q e L l:=fun u hu=>k ⟨u,hu.ro hj⟩ u hu
end
theorem J13 {n0:Nat} {w0 u:World} {L:List SA} {e:TypeId} {v:Value} {xs:List ByteArray} (h:St n0 w0 (oT cStr e v xs::L) u):St n0 w0 (roT cStr ⟨v,xs⟩::L) u :=
 St.toRo (A:=oT cStr e v xs) (p:=fun u=>SlT cStr u ⟨v,xs⟩) (fun S u h=>⟨Star.osl (L:=[oT cStr e v xs]) (j:=0) rfl ⟨S,fun _ h=>h,h,trivial⟩,fun _ _=>trivial⟩) h
theorem J45 (t0:ByteArray) (i:Int) (w:World) (h0:0≤i) (h1:i < (linS t0).length) (ht:t0.size≤100000) :
  Calls Tryz.prog 16 #[.string (nth (linS t0) i),.string ⟨#[10]⟩] w (RetB w (.tuple #[.string (nth (Jad 10 t0) i),.bool (decide (i+1 < ((Jad 10 t0).length:Int)))])):=by
 have hl:=Juo t0
 have hin:i < (Jad 10 t0).length:=by
  rw [hl] at h1
  split at h1 <;> omega
 have hm:=Jaj (xs:=Jad 10 t0) h0 hin
 have hz:=Jet hm
 rw [J0r h0 h1]
 by_cases h:i+1 < ((Jad 10 t0).length:Int)
 ·
  rw [Jzq h0 h,decide_eq_true h]
  have q:=Jx9 10 (nth (Jad 10 t0) i++(⟨#[10]⟩:ByteArray)) w (by rw [ByteArray.size_append]; have:(⟨#[10]⟩:ByteArray).size=1:=rfl; omega)
  rw [(Jtv 10 _).1,(Jtv 10 _).2] at q
  exact q
 rw [Jni h0 (by omega),decide_eq_false h]
 have q:=Jx9 10 (nth (Jad 10 t0) i) w (by omega)
 have hs:=J14 (Jmr hm)
 rw [hs,Lib.trimSuffix,if_neg (by rw [hs]; decide)] at q
 exact q
theorem Jri {xs:List ByteArray} (h:0 < xs.length):(Ja5 cStr xs)[((xs.length:Int) - 1).toNat * 1]? = some (.string (nth xs ((xs.length:Int) - 1))):=by
 rw [Jen,Nat.mul_one,List.getElem?_map,Jgr (by omega) (by omega)]
 rfl
theorem Jwb (t0:ByteArray) (w:World) (hM:MaxOk w) {m:Nat} {es:List MapEntry} {c:Nat} (hS:ShpOk w m es c) (ht:t0.size≤65536) :
  Calls Tryz.prog 6 #[.string t0] w (RetT cEntry w (Jdq t0).1 (fun v=>.tuple #[v,.int .i64 (Jdq t0).2.1,.int .i64 (Jdq t0).2.2])):=by
 have hal:=Jiz 10 t0
 have hsl:=Jde 10 t0
 have hsp:=Jif 10 t0
 have hll:=Juo t0
 have hlc:=Jri (xs:=(aftS 10 t0)) (by omega)
 have hla:nth (aftS 10 t0) (((aftS 10 t0).length:Int) - 1)=Jkk t0:=by rw [hal]; exact Jni (by omega) (by omega)
 refine enter Tryz.func6 rfl rfl (Nat.le_of_ble_eq_true rfl) ?_
 refine Nz 3 ?_
 refine Wd (Qc (Cs (Nz 1 ?_)))
 refine Wk 1 (Jbe Tryz.underlying9 rfl) ?_
 refine Wd (Qc (CS.cond rfl ?_ ?_))<;>intro hc1<;>try simp only [bq] at hc1
 ·
  exact absurd hc1 (by omega)
 refine Ck (Qc (Nz 1 ?_))
 refine Wc rfl rfl J55 (fun u hu=>J0p 10 t0 u (hM.st hu) (by omega)) (fun _=>rfl) ?_; intro v16 hv16
 refine Wz 1 ?_
 refine Wd (Qc ?_)
 refine CS.cut (σ:=Value) [17,18,19,20,21,22,23,24,25,26,27,28,29,30] (fun s=>[(5,s)]) (fun s=>[roT cStr ⟨s,linS t0⟩]) (fun s=>True) (fun _ _=>rfl) ?_ ?_
 ·
  refine Nz 2 ?_
  refine Wk 0 (Jcp sl34 rfl (j:=0) rfl) ?_
  refine Wk 0 Zb ?_
  refine Wk 0 (Je2 (j:=0) sl34 rfl rfl rfl (by omega) (by omega)) ?_
  refine Wk 0 (Jg9 (j:=0) rfl rfl hlc tk9) ?_
  refine Wk 0 (Jaw rfl rfl) ?_
  refine Wd (Qc (CS.cond rfl ?_ ?_))<;>intro hc2<;>try simp only [bq] at hc2
  ·
   have hlast:seq (Jkk t0) ⟨#[]⟩=true:=by rw [← hla]; exact hc2
   have hlin:linS t0=(aftS 10 t0).dropLast:=if_pos hlast
   refine Ny 2 ?_
   refine Wk 0 (Jcp sl34 rfl (j:=0) rfl) ?_
   refine Wk 1 Zb ?_
   refine Wk 0 (Jcp sl34 rfl (j:=0) rfl) ?_
   refine WS.callS (p:=fun v':Value=>v'.oneCell'=true) (L':=fun v':Value=>[oT cStr 9 v' (aftS 10 t0).dropLast]) rfl rfl J5w (fun u hu=>Jr9 [] (aftS 10 t0) v16 hu (by omega) (by omega)) (fun _=>rfl) ?_; intro v30 hv30
   refine Wz 1 ?_
   refine Wd ?_
   refine QS.weak (fun u hu=>J13 hu) ?_
   exact QS.head (v30) rfl (by rw [hlin]) trivial
  have hlast:¬ seq (Jkk t0) ⟨#[]⟩=true:=by rw [← hla]; simpa using hc2
  have hlin:linS t0=(aftS 10 t0):=if_neg hlast
  refine Ck ?_
  refine QS.weak (fun u hu=>J13 hu) ?_
  exact QS.head (v16) rfl (by rw [hlin]) trivial
 intro p t hs
 refine CS.roE (j:=0) rfl fun hwx=>?_
 obtain ⟨u5,hv5⟩:=hwx
 refine Cs (Nz 1 ?_)
 refine Wk 1 (Nc (s:=⟨p,linS t0⟩)) ?_
 refine Wd (Qc (Ce ?_))
 refine CS.weak (fun _ hu=>hu.osl0 (e:=56) (size:=7)) ?_
 refine CS.loopM (σ:=Int × Value × List Entr) [3,4,6,7,8,9,10,11,34,35,36,37,38,39,40,41,42,43,44,45,46,47,48,49,50,51,52,53,54,55,56,57,58,59,60] (fun s=>[(33,.int .i64 s.1),(2,s.2.1)]) (fun s=>[oT cEntry 56 s.2.1 s.2.2,roT cStr ⟨p,linS t0⟩]) (fun s=>0≤s.1∧s.1+1≤((Jad 10 t0).length:Int)∧s.1≤(linS t0).length∧Jdq t0=parE s.2.2 s.1 ((Jad 10 t0).drop s.1.toNat)∧s.2.2.length=s.1.toNat) (fun s=>((linS t0).length - s.1).toNat) (0,.slice none 0 0,[]) (fun _ _=>rfl) rfl rfl ⟨by simp,by simp; omega,by simp,rfl,rfl⟩ ?_
 intro a t hs
 obtain ⟨ha0,ha1,ha2,ha4,ha5⟩:=hs
 refine Nz 1 ?_
 refine Wd (Qc (Cs (CS.cond rfl ?_ ?_)))<;>intro hc3<;>try simp only [bq] at hc3
 ·
  have hin:a.1 < ((Jad 10 t0).length:Int):=by rw [hll] at hc3; split at hc3 <;> omega
  have hpz:=Jet (Jaj (xs:=Jad 10 t0) ha0 hin)
  refine Ck (Qc (Cs (Ce (Nz 1 ?_))))
  refine Wk 0 (Xc (s:=⟨p,linS t0⟩) (h1:=by show a.1 < ((linS t0).length:Int); omega)) ?_
  refine Wk 2 (Vb 1 rfl (s:=⟨p,linS t0⟩) (h:=⟨by omega,by show a.1 < ((linS t0).length:Int); omega⟩)) ?_
  refine Wd (Qc (Nz 1 ?_))
  refine Wk 5 (Cb rfl rfl J5o (fun u hu=>J45 t0 a.1 u ha0 (by omega) (by omega))) ?_
  refine Wd (Qc (Nz 1 ?_))
  refine WS.callE (β:=Entr × Bool) (p:=fun y=>y.2=true∧logE (nth (Jad 10 t0) a.1)=some y.1∨y.2=false∧logE (nth (Jad 10 t0) a.1)=none) (v:=fun y=>.tuple #[.agg (cEntry.cells y.1).toArray,.bool y.2]) rfl rfl J6q (fun u hu=>J0q (nth (Jad 10 t0) a.1) u (hM.st hu) (hS.st hu) (by omega)) (fun _=>rfl) ?_; rintro x hx
  refine Wz 3 ?_
  refine Wl 0 zv56 (fun _=>rfl) (fun _=>rfl) fun b10 hb10=>?_
  refine Wv 1 0 ?_
  refine Wd (Qc (Cs (Nz 3 ?_)))
  refine Wf 0 rfl rfl (fun hg=>Fm) ?_
  refine Wf 0 rfl rfl (fun hg=>Fn) ?_
  refine Wk 0 Po ?_
  refine Wd (Qc (CS.cond rfl ?_ ?_))<;>intro hc4<;>try simp only [bq] at hc4
  ·
   have hbad:Jdq t0=([],a.1+1,4):=by
    rw [ha4]
    by_cases h:a.1+1 < ((Jad 10 t0).length:Int)
    ·
     rcases hc4 with h9 | h9
     ·
      exact absurd h (by simpa using h9)
     rcases hx with ⟨h8,_⟩ | ⟨_,h8⟩
     ·
      rw [h8] at h9; cases h9
     rw [Jn6 ha0 h,h8]
    have hno:¬ seq (Jkk t0) ⟨#[]⟩=true:=fun hq=>by rw [if_pos hq] at hll; omega
    rw [Jm1 ha0 (by omega),if_neg (by rw [show a.1=((Jad 10 t0).length:Int) - 1 by omega]; exact hno)]
   refine Nz 1 ?_
   refine Wk 3 Za ?_
   refine Wd (Qc (Cr (Qr (Qs (Qr (Qr (Qs (Qr ?_))))))))
   exact out3 rfl rfl rfl rfl (fun u hu=>by
      rw [hbad]
      exact Jqj hu)
  have h:a.1+1 < ((Jad 10 t0).length:Int):=by simpa using hc4.1
  have hxs:logE (nth (Jad 10 t0) a.1)=some x.1:=by
   rcases hx with ⟨_,h8⟩ | ⟨h8,_⟩
   ·
    exact h8
   rw [h8] at hc4; simp at hc4
  refine Ck (Qc (Ny 1 ?_))
  refine Wk 0 (by first | exact Jbr (j:=0) rfl rfl tk56 | exact Jbj (j:=0) rfl rfl (by rfl) tk56 | exact Jbs rfl (by assumption) (by rfl) tk56 | exact Jbq (n:=7) (j:=0) rfl rfl rfl rfl tk56) ?_
  refine WS.buildT1 cEntry (a:=x.1) sl23 zv56 rfl (by decide) (fun _=>rfl) ?_; intro v58
  refine WS.appendT1 (C:=cEntry) (a:=x.1) (j:=2) (jz:=0) sl23 zv56 rfl (by decide) rfl rfl rfl rfl (w:=w) trivial (by omega) (by omega) (fun _=>rfl) (fun _=>rfl) ?_; intro v59 hv59
  refine Wz 1 ?_
  refine Wd (Qb (Qc (Ny 0 ?_)))
  refine Wk 1 Za ?_
  refine Wd ?_
  refine QS.sel [2,2] rfl ?_
  exact QS.head ((a.1+1,v59,a.2.2++[x.1])) rfl rfl ⟨⟨by simp; omega,by simp; omega,by simp; omega,by rw [ha4,Jn6 ha0 h,hxs],by simp; omega⟩,by simp; omega⟩
 have hyes:seq (Jkk t0) ⟨#[]⟩=true:=by
  cases hq:seq (Jkk t0) ⟨#[]⟩ with
  | true=>rfl
  | false=>rw [hq] at hll; simp at hll; omega
 rw [if_pos hyes] at hll
 have hae:a.1=((Jad 10 t0).length:Int) - 1:=by omega
 have hfin:Jdq t0=if 500 < (a.2.2.length:Int) then ([],0,2) else (a.2.2,0,0):=by
  rw [ha4,Jm1 ha0 (by omega),if_pos (by rw [hae]; exact hyes)]
 refine Cv (Qe (Qe (Qx (Qc (Cs (Nz 1 ?_))))))
 refine Wk 1 (Jcp (j:=0) sl23 rfl rfl) ?_
 refine Wd (Qc (CS.cond rfl ?_ ?_))<;>intro hc5<;>try simp only [bq] at hc5
 ·
  have hmany:Jdq t0=([],0,2):=by rw [hfin,if_pos hc5]
  refine Nz 3 ?_
  refine Wd (Qc (Cr (Qr ?_)))
  exact out3 rfl rfl rfl rfl (fun u hu=>by
     rw [hmany]
     exact Jqj hu)
 have hfew:Jdq t0=(a.2.2,0,0):=by rw [hfin,if_neg hc5]
 refine Ck (Qc (Nz 4 ?_))
 refine Wd (Qc (Cr ?_))
 exact out3 rfl rfl rfl rfl (fun u hu=>by
    rw [hfew]
    exact retT (C:=cEntry) (f:=fun v=>.tuple #[v,.int .i64 0,.int .i64 0]) (fun _ _ _=>trivial) (j:=0) rfl hu)
end Go.Proofs.YtfbfdnoodccgiaaGreatDoor
