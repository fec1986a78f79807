/- Merged texts of this proof (walks and plain laws), printed by a program of the prover. -/
import Derived.Test.YtbboikncaihafaaGreatDoorXj
import Derived.Lib.ItoaLen
import Derived.Lib.AppendIntMem
import Derived.Test.YtbboikncaihafaaGreatDoorXg
import Derived.Test.YtbboikncaihafaaGreatDoorShelf
set_option maxHeartbeats 8000000
namespace Go.Proofs.YtbboikncaihafaaGreatDoor
open Go.RowKit Go.Proofs
set_option maxRecDepth 100000
set_option linter.unusedVariables false
set_option linter.unusedSimpArgs false
theorem Jw4 (r:Room) (w:World) (hr:RoomOk w r) (hR:Ready r) :
  Calls Tryz.prog 50 #[.agg #[r.pls.v,r.ths.v,r.prs.v,r.wys.v,r.acs.v,r.aus.v,.int .i64 r.ply,r.gl.v]] w (fun e w'=>∃ x:Sl Task,(x.l.length≤1000∧∃ u0,SlT cTask u0 x)∧RetF w x.v (roT cTask x) e w'):=by
 have kpl:=hr.pls
 have lpl:=hr.pls.le
 have kth:=hr.ths
 have lth:=hr.ths.le
 have kpr:=hr.prs
 have lpr:=hr.prs.le
 have kwy:=hr.wys
 have lwy:=hr.wys.le
 have kac:=hr.acs
 have lac:=hr.acs.le
 have kau:=hr.aus
 have lau:=hr.aus.le
 have kgl:=hr.gl
 have lgl:=hr.gl.le
 have hlen:=hR.lens
 refine enter Tryz.func50 rfl rfl (Nat.le_of_ble_eq_true rfl) ?_
 refine Nz 0 ?_
 refine Wb 1 rfl rfl (fun _=>rfl) (fun _=>rfl) fun b1 hb1=>?_
 refine Wd (Qc (Cs (Nz 1 ?_)))
 refine Wk 0 (by first | exact Jaa (j:=0) rfl rfl rfl tk25 | exact Jaf rfl (by assumption) rfl tk25) ?_
 refine Wk 1 Nc ?_
 refine Wd (Qc (Ce ?_))
 refine CS.weak (fun _ hu=>hu.osl0 (e:=122) (size:=3)) ?_
 refine CS.loopM (σ:=Int × Value × List Task) [3,12,13,14,15,16,17,18,19] (fun s=>[(11,.int .i64 s.1),(2,s.2.1)]) (fun s=>[oT cTask 122 s.2.1 s.2.2,blk b1 [r.pls.v,r.ths.v,r.prs.v,r.wys.v,r.acs.v,r.aus.v,.int .i64 r.ply,r.gl.v] 31]) (fun s=>0≤s.1∧s.1≤r.wys.l.length∧(s.2.2.length:Int)≤s.1) (fun s=>(r.wys.l.length - s.1).toNat) (0,.slice none 0 0,[]) (fun _ _=>rfl) rfl rfl ⟨by simp,by simp,by simp⟩ ?_
 intro a t hs
 obtain ⟨ha1,ha2,ha3⟩:=hs
 refine Nz 1 ?_
 refine Wd (Qc (Cs (CS.cond rfl ?_ ?_)))<;>intro hc1<;>try simp only [bq] at hc1
 ·
  refine Ck (Qc (Cs (Ce (Nz 2 ?_))))
  refine Wd (Qc (Ny 2 ?_))
  refine Wk 0 (Db Jmc Jfo) ?_
  refine WS.buildT1 cTask (a:=⟨1,a.1,0⟩) sl55 Jfo rfl (by decide) (fun _=>rfl) ?_; intro v17
  refine WS.appendT1 (C:=cTask) (a:=⟨1,a.1,0⟩) (j:=1) (jz:=0) sl55 Jfo rfl (by decide) rfl rfl rfl rfl (w:=w) trivial (by omega) (by omega) (fun _=>rfl) (fun _=>rfl) ?_; intro v18 hv18
  refine Wz 1 ?_
  refine Wd (Qb (Qc (Ny 0 ?_)))
  refine Wk 1 Za ?_
  refine Wd ?_
  refine QS.sel [1,1] rfl ?_
  exact QS.head ((a.1+1,v18,a.2.2++[⟨1,a.1,0⟩])) rfl rfl ⟨⟨by simp; omega,by simp; omega,by simp; omega⟩,by simp; omega⟩
 refine Cv (Qe (Qe (Qx (Qc (Cs (Nz 1 ?_))))))
 refine Wk 0 (by first | exact Jaa (j:=1) rfl rfl rfl tk23 | exact Jaf rfl (by assumption) rfl tk23) ?_
 refine Wk 1 Nc ?_
 refine Wd (Qc (Ce ?_))
 refine CS.loopM (σ:=Int × Value × List Task) [4,5,6,24,25,26,27,28,29,30,31,32,33,34,35,36,37,38,39,40] (fun s=>[(23,.int .i64 s.1),(2,s.2.1)]) (fun s=>[oT cTask 122 s.2.1 s.2.2,blk b1 [r.pls.v,r.ths.v,r.prs.v,r.wys.v,r.acs.v,r.aus.v,.int .i64 r.ply,r.gl.v] 31]) (fun s=>0≤s.1∧s.1≤r.ths.l.length∧(s.2.2.length:Int)≤100+6 * s.1) (fun s=>(r.ths.l.length - s.1).toNat) (0,a.2.1,a.2.2) (fun _ _=>rfl) rfl rfl ⟨by simp,by simp,by simp; omega⟩ ?_
 intro q t hs
 obtain ⟨hq1,hq2,hq3⟩:=hs
 refine Nz 1 ?_
 refine Wd (Qc (Cs (CS.cond rfl ?_ ?_)))<;>intro hc2<;>try simp only [bq] at hc2
 ·
  have hst:=Jnb (hR.ths _ (Jak hq1 (show q.1 < (r.ths.l.length:Int) by omega)))
  refine Ck (Qc (Cs (Ce (Nz 1 ?_))))
  refine Wk 0 Xc ?_
  refine Wk 0 Ua ?_
  refine Wl 1 zv97 (fun _=>rfl) (fun _=>rfl) fun b5 hb5=>?_
  refine Wv 0 0 ?_
  refine Wd (Qc (Nz 1 ?_))
  refine Wk 1 (by first | exact Jaa (j:=0) rfl rfl rfl tk3 | exact Jaf rfl (by assumption) rfl tk3) ?_
  refine Wd (Qc (Ce ?_))
  refine CS.sel [1,1] rfl ?_
  refine CS.loopM (σ:=Int × Value × List Task) [6,31,32,33,34,35,36,37,38,39] (fun s=>[(30,.int .i64 s.1),(2,s.2.1)]) (fun s=>[oT cTask 122 s.2.1 s.2.2,blk b1 [r.pls.v,r.ths.v,r.prs.v,r.wys.v,r.acs.v,r.aus.v,.int .i64 r.ply,r.gl.v] 31]) (fun s=>0≤s.1∧s.1≤(nth r.ths.l q.1).st∧(s.2.2.length:Int)≤100+6 * q.1+s.1) (fun s=>((nth r.ths.l q.1).st - s.1).toNat) (0,q.2.1,q.2.2) (fun _ _=>rfl) rfl rfl ⟨by simp,by simp; omega,by simp; omega⟩ ?_
  intro k t hs
  obtain ⟨hk1,hk2,hk3⟩:=hs
  refine Nz 1 ?_
  refine Wd (Qc (Cs (CS.cond rfl ?_ ?_)))<;>intro hc3<;>try simp only [bq] at hc3
  ·
   refine Ck (Qc (Cs (Ce (Nz 2 ?_))))
   refine Wd (Qc (Ny 3 ?_))
   refine Wk 0 (Db Jmc Jfo) ?_
   refine WS.buildT1 cTask (a:=⟨2,q.1,k.1⟩) sl55 Jfo rfl (by decide) (fun _=>rfl) ?_; intro v37
   refine WS.appendT1 (C:=cTask) (a:=⟨2,q.1,k.1⟩) (j:=1) (jz:=0) sl55 Jfo rfl (by decide) rfl rfl rfl rfl (w:=w) trivial (by omega) (by omega) (fun _=>rfl) (fun _=>rfl) ?_; intro v38 hv38
   refine Wz 1 ?_
   refine Wd (Qb (Qc (Ny 0 ?_)))
   refine Wk 1 Za ?_
   refine Wd ?_
   refine QS.sel [1,1] rfl ?_
   exact QS.head ((k.1+1,v38,k.2.2++[⟨2,q.1,k.1⟩])) rfl rfl ⟨⟨by simp; omega,by simp; omega,by simp; omega⟩,by simp; omega⟩
  refine Cv (Qe (Qe (Qx (Qb (Qc (Ny 0 ?_))))))
  refine Wk 1 Za ?_
  exact Wd (QS.head ((q.1+1,k.2.1,k.2.2)) rfl rfl ⟨⟨by simp; omega,by simp; omega,by simp; omega⟩,by simp; omega⟩)
 refine Cv (Qe (Qe (Qx (Qc (Cs (Nz 1 ?_))))))
 refine Wk 0 (by first | exact Jaa (j:=1) rfl rfl rfl tk24 | exact Jaf rfl (by assumption) rfl tk24) ?_
 refine Wk 1 Nc ?_
 refine Wd (Qc (Ce ?_))
 refine CS.loopM (σ:=Int × Value × List Task) [7,45,46,47,48,49,50,51,52] (fun s=>[(44,.int .i64 s.1),(2,s.2.1)]) (fun s=>[oT cTask 122 s.2.1 s.2.2,blk b1 [r.pls.v,r.ths.v,r.prs.v,r.wys.v,r.acs.v,r.aus.v,.int .i64 r.ply,r.gl.v] 31]) (fun s=>0≤s.1∧s.1≤r.prs.l.length∧(s.2.2.length:Int)≤300+s.1) (fun s=>(r.prs.l.length - s.1).toNat) (0,q.2.1,q.2.2) (fun _ _=>rfl) rfl rfl ⟨by simp,by simp,by simp; omega⟩ ?_
 intro p t hs
 obtain ⟨hp1,hp2,hp3⟩:=hs
 refine Nz 1 ?_
 refine Wd (Qc (Cs (CS.cond rfl ?_ ?_)))<;>intro hc4<;>try simp only [bq] at hc4
 ·
  refine Ck (Qc (Cs (Ce (Nz 2 ?_))))
  refine Wd (Qc (Ny 2 ?_))
  refine Wk 0 (Db Jmc Jfo) ?_
  refine WS.buildT1 cTask (a:=⟨3,p.1,0⟩) sl55 Jfo rfl (by decide) (fun _=>rfl) ?_; intro v50
  refine WS.appendT1 (C:=cTask) (a:=⟨3,p.1,0⟩) (j:=1) (jz:=0) sl55 Jfo rfl (by decide) rfl rfl rfl rfl (w:=w) trivial (by omega) (by omega) (fun _=>rfl) (fun _=>rfl) ?_; intro v51 hv51
  refine Wz 1 ?_
  refine Wd (Qb (Qc (Ny 0 ?_)))
  refine Wk 1 Za ?_
  refine Wd ?_
  refine QS.sel [1,1] rfl ?_
  exact QS.head ((p.1+1,v51,p.2.2++[⟨3,p.1,0⟩])) rfl rfl ⟨⟨by simp; omega,by simp; omega,by simp; omega⟩,by simp; omega⟩
 refine Cv (Qe (Qe (Qx (Qc (Nz 2 ?_)))))
 exact Wd (Qc (Cr (out1 rfl rfl (fun u hu=>⟨⟨p.2.1,p.2.2⟩,⟨by show p.2.2.length≤1000; omega,u,Jff (C:=cTask) hu (j:=0) rfl (fun _ _=>trivial)⟩,retR (fun S u h=>⟨Star.osl (j:=0) rfl h,fun _ _=>trivial⟩) u hu⟩))))
theorem Jvm (n:Int) (h0:0≤n) (h1:n≤1000000) (w:World) :
  Calls Tryz.prog 114 #[.slice none 0 0,.int .i64 n] w (fun e w'=>∃ v':Value,v'.oneCell'=true∧RetF w v' (oT cInt 3 v' []) e w'):=by
 refine enter Tryz.func114 rfl rfl (Nat.le_of_ble_eq_true rfl) ?_
 refine Nz 1 ?_
 refine Wd (Qc (Cs (Nz 2 ?_)))
 refine Wd (Qc (CS.cond rfl ?_ ?_))<;>intro hc1<;>try simp only [bq] at hc1
 ·
  exact absurd hc1 (by omega)
 refine Ck (Qc (Cs (Nz 2 ?_)))
 refine Wk 1 (Jlz sl42 rfl ⟨_,_,rfl⟩) ?_
 refine Wk 0 (Jdc sl42 rfl ⟨_,_,rfl⟩) ?_
 refine Wk 0 Zb ?_
 refine Wk 1 Zb ?_
 refine Wd (Qc (Nz 2 ?_))
 refine Wd (Qc (CS.cond rfl ?_ ?_))<;>intro hc2<;>try simp only [bq] at hc2
 ·
  have hn0:0 < n:=by omega
  refine Ny 2 ?_
  refine Wk 0 (Jlz sl42 rfl ⟨_,_,rfl⟩) ?_
  refine Wk 1 (Jqj (n:=0) (c:=0) (p:=none) sl42 rfl rfl (by decide) (by decide)) ?_
  refine WS.appendMade (n:=n) sl42 Tryz.underlying3 zv3 rfl (by decide) rfl (congrArg (fun z=>some (Value.int .i64 z)) (show n - (0 - 0)=n by omega)) hn0 (by omega) (by decide) (fun _ _=>rfl) ?_; intro b22 c22 z22 hc22
  refine Wz 1 ?_
  refine Wk 0 (Jdc sl42 rfl ⟨_,_,rfl⟩) ?_
  refine Wk 1 (Jqj (n:=n.toNat) (c:=c22) (p:=some ⟨b22,0,none⟩) sl42 rfl rfl (by decide) (by omega)) ?_
  refine Wd (Qc (Nz 2 ?_))
  refine Wd (Qc (Cr ?_))
  first | exact out1 rfl rfl (fun u hu=>⟨_,Jmp rfl,retF (j:=0) rfl u (hu.oslTo (Nat.zero_le _))⟩) | exact out1 rfl rfl (fun u hu=>⟨_,rfl,retF (j:=0) rfl u (hu.osl0 (e:=3) (size:=1))⟩)
 refine Ck (Qc (Nz 2 ?_))
 refine Wd (Qc (Cr ?_))
 first | exact out1 rfl rfl (fun u hu=>⟨_,Jmp rfl,retF (j:=0) rfl u (hu.oslTo (Nat.zero_le _))⟩) | exact out1 rfl rfl (fun u hu=>⟨_,rfl,retF (j:=0) rfl u (hu.osl0 (e:=3) (size:=1))⟩)
theorem Jrh (x:Sl (Sl Int)) (w:World) (hx:SlT (cSl cInt) w x) (hm:((catL x.l).length:Int)≤1000000) :
  Calls Tryz.prog 53 #[x.v] w (fun e w'=>∃ v':Value,v'.oneCell'=true∧RetF w v' (oT cInt 3 v' (catL x.l)) e w'):=by
 have lx:=hx.le
 have hall:=Jpa (l:=x.l) x.l.length
 have hta:x.l.take x.l.length=x.l:=List.take_of_length_le (Nat.le_refl _)
 refine enter Tryz.func53 rfl rfl (Nat.le_of_ble_eq_true rfl) ?_
 refine Nz 1 ?_
 refine Wd (Qc (Nz 1 ?_))
 refine Wd (Qc (Cs (Nz 1 ?_)))
 refine Wk 1 Nc ?_
 refine Wd (Qc (Ce ?_))
 refine CS.loopM (σ:=Int × Int) [5,12,13,14,15,16,17,18,19,20,21,22] (fun s=>[(11,.int .i64 s.1),(3,.int .i64 s.2)]) (fun _=>_) (fun s=>0≤s.1∧s.1≤x.l.length∧s.2=(catL (x.l.take s.1.toNat)).length) (fun s=>(x.l.length - s.1).toNat) (0,0) (fun _ _=>rfl) rfl rfl ⟨by simp,by simp,by simp [catL]⟩ ?_
 intro a t hs
 obtain ⟨ha1,ha2,ha3⟩:=hs
 refine Nz 1 ?_
 refine Wd (Qc (Cs (CS.cond rfl ?_ ?_)))<;>intro hc1<;>try simp only [bq] at hc1
 ·
  have hxs:SlT cInt w (nth x.l a.1):=hx.at ha1 (by omega)
  have hsn:=congrArg List.length (Jin ha1 (show a.1 < (x.l.length:Int) by omega))
  have hle:=Jpa (l:=x.l) (a.1+1).toNat
  rw [List.length_append] at hsn
  refine Ck (Qc (Cs (Ce (Nz 0 ?_))))
  refine Wk 0 Xc ?_
  refine Wk 1 Ub ?_
  refine Wd (Qc (Nz 2 ?_))
  refine Wk 0 (Jds (s:=nth x.l a.1) sl42 rfl hxs) ?_
  refine Wk 1 Za ?_
  refine Wd (Qc (Nz 2 ?_))
  refine Wd (Qc (CS.cond rfl ?_ ?_))<;>intro hc2<;>try simp only [bq] at hc2
  ·
   exact absurd hc2 (by show ¬ a.2+_ < 0; omega)
  refine Ck (Qb (Qc (Ny 0 ?_)))
  refine Wk 1 Za ?_
  exact Wd (QS.head ((a.1+1,a.2+((nth x.l a.1).l.length:Int))) rfl rfl ⟨⟨by simp; omega,by simp; omega,by show a.2+_=((catL (x.l.take (a.1+1).toNat)).length:Int); omega⟩,by simp; omega⟩)
 have hae:a.1.toNat=x.l.length:=by omega
 rw [hae,hta] at ha3
 refine Cv (Qe (Qe (Qx (Qc (Nz 1 ?_)))))
 refine Wc rfl rfl Jyb (fun u hu=>Jvm _ (by omega) (by omega) u) (fun _=>rfl) ?_; intro v24 hv24
 refine Wz 1 ?_
 refine Wd (Qc (Cs (Nz 1 ?_)))
 refine Wk 1 Nc ?_
 refine Wd (Qc (Ce ?_))
 refine CS.loopM (σ:=Int × Value) [8,28,29,30,31,32,33,34] (fun s=>[(27,.int .i64 s.1),(6,s.2)]) (fun s=>[oT cInt 3 s.2 (catL (x.l.take s.1.toNat))]) (fun s=>0≤s.1∧s.1≤x.l.length∧s.2.oneCell'=true) (fun s=>(x.l.length - s.1).toNat) (0,v24) (fun _ _=>rfl) rfl (by simp [catL]) ⟨by simp,by simp,hv24⟩ ?_
 intro q t hs
 obtain ⟨hq1,hq2,hq3⟩:=hs
 refine Nz 1 ?_
 refine Wd (Qc (Cs (CS.cond rfl ?_ ?_)))<;>intro hc3<;>try simp only [bq] at hc3
 ·
  have hxs:SlT cInt w (nth x.l q.1):=hx.at hq1 (by omega)
  have hsn:=congrArg List.length (Jin hq1 (show q.1 < (x.l.length:Int) by omega))
  have hle:=Jpa (l:=x.l) (q.1+1).toNat
  rw [List.length_append] at hsn
  have hone:=hxs.one
  refine Ck (Qc (Cs (Ce (Nz 0 ?_))))
  refine Wk 0 Xc ?_
  refine Wk 1 Ub ?_
  refine Wd (Qc (Ny 2 ?_))
  refine WS.appendTs (C:=cInt) (s:=nth x.l q.1) (j:=0) sl42 zv3 rfl (by decide) rfl rfl rfl (fun u hu=>hxs.st hu) hone (by omega) (by omega) (fun _=>rfl) (fun _=>rfl) ?_; intro v33 hv33
  refine Wz 1 ?_
  refine Wd (Qb (Qc (Ny 0 ?_)))
  refine Wk 1 Za ?_
  exact Wd (QS.head ((q.1+1,v33)) rfl (by show [_]=[_]; rw [Jin hq1 (by omega)]) ⟨⟨by simp; omega,by simp; omega,hv33⟩,by simp; omega⟩)
 have hqe:q.1.toNat=x.l.length:=by omega
 refine Cv (Qe (Qe (Qx (Qc (Nz 2 ?_)))))
 exact Wd (Qc (Cr (out1 rfl rfl (fun u hu=>⟨_,hq3,by rw [hqe,hta] at hu; exact retF (j:=0) rfl u hu⟩))))
theorem Ju0 (n:Int) (h:AtB n) (w:World) (ht:Lib.TabIs Tryz.prog w "internal/strconv.uint64pow10" .u64 Lib.pow10Tab):Calls Tryz.prog 52 #[.int .i64 n] w (fun e w'=>∃ t:ByteArray,t.size≤40∧RetB w (.string t) e w'):=by
 refine (Tryz.strconv_Itoa n h.1 h.2 w ht).mono ?_
 rintro e w' ⟨rfl,k,os,rfl⟩
 refine ⟨_,?_,rfl,Lib.below_grow _ _ (Nat.le_refl _) _ _⟩
 show (Lib.itoa n).toArray.size≤40
 have h9:=Lib.itoa_length_le n h.1 h.2
 rw [List.size_toArray]; omega
theorem Jol {w u:World} {L:List SA} (h:Lib.TabIs Tryz.prog w "internal/strconv.uint64pow10" .u64 Lib.pow10Tab) (hu:St w.heap.size w L u):Lib.TabIs Tryz.prog u "internal/strconv.uint64pow10" .u64 Lib.pow10Tab:=Lib.tabBelow_of_tabIs h u hu.below
theorem Jw0 {P:Int→Prop} {a b:List Int} (ha:∀ i:Int,0≤i→i < a.length→P (nth a i)) (hb:∀ i:Int,0≤i→i < b.length→P (nth b i)):∀ i:Int,0≤i→i < (a++(b++[])).length→P (nth (a++(b++[])) i):=fun i h0 h1=>by
 simp only [List.append_nil,List.length_append] at h1 ⊢
 by_cases h:i < a.length
 ·
  rw [Jj2 h h0]; exact ha i h0 h
 rw [Jkh (by omega)]; exact hb _ (by omega) (by omega)
theorem Jwv (r:Room) (w:World) (hr:RoomOk w r) (f n:Stt) (at_:Int) (hz:SttOk w n) (ht:Lib.TabIs Tryz.prog w "internal/strconv.uint64pow10" .u64 Lib.pow10Tab) (hat:AtB at_) (hl:Len3 r n.x) (hR:Ready r) :
  Calls Tryz.prog 51 #[.agg #[r.pls.v,r.ths.v,r.prs.v,r.wys.v,r.acs.v,r.aus.v,.int .i64 r.ply,r.gl.v,f.ths.v,f.prs.v,f.pls.v,n.ths.v,n.prs.v,n.pls.v,.int .i64 at_]] w (fun e w'=>∃ t:ByteArray,True∧RetB w (.string t) e w'):=by
 obtain ⟨q1,q2,q3⟩:=hz.ones
 obtain ⟨l1,l2,l3,l4⟩:=hl
 have l1:n.ths.l.length=r.ths.l.length:=l1
 have l2:n.prs.l.length=r.prs.l.length:=l2
 have hlen:=hR.lens
 have hcl:((catL [n.ths,n.prs])).length=n.ths.l.length+n.prs.l.length:=by simp [catL]
 have hbd:∀ i:Int,0≤i→i < (catL [n.ths,n.prs]).length → -1000≤nth (catL [n.ths,n.prs]) i∧nth (catL [n.ths,n.prs]) i≤1000:=Jw0 (P:=fun x => -1000≤x∧x≤1000) l3 l4
 have sp1:(⟨#[32]⟩:ByteArray).size=1:=rfl
 refine enter Tryz.func51 rfl rfl (Nat.le_of_ble_eq_true rfl) ?_
 refine Nz 0 ?_
 refine Wb 1 rfl rfl (fun _=>rfl) (fun _=>rfl) fun b1 hb1=>?_
 refine Wd (Qc (Nz 1 ?_))
 refine Wk 0 (by first | exact Jaa (j:=0) rfl rfl rfl tk3 | exact Jaf rfl (by assumption) rfl tk3) ?_
 refine WS.callE (β:=ByteArray) (p:=fun t=>t.size≤40) (v:=fun t=>.string t) rfl rfl Jxr (fun u hu=>Ju0 at_ hat u (Jol ht hu)) (fun _=>rfl) ?_; rintro t8 ht8
 refine Wz 1 ?_
 refine Wd (Qc (Cs (Nz 2 ?_)))
 refine Wk 2 (by first | exact Jaa (j:=0) rfl rfl rfl tk42 | exact Jaf rfl (by assumption) rfl tk42) ?_
 refine Wk 0 (by first | exact Jaa (j:=0) rfl rfl rfl tk42 | exact Jaf rfl (by assumption) rfl tk42) ?_
 refine WS.buildSlice1 sl33 zv42 (vs:=[n.ths.v,n.prs.v]) rfl rfl (by decide) (fun v h=>by rcases List.mem_cons.1 h with rfl | h; exact q1; rw [List.mem_singleton.1 h]; exact q2) (fun _=>rfl) ?_; intro v15
 refine Wc rfl rfl J1i (fun u hu=>Jrh ⟨v15,[n.ths,n.prs]⟩ u (Jff (C:=cSl cInt) (xs:=[n.ths,n.prs]) hu (j:=0) rfl (fun a ha ↦ by rcases List.mem_cons.1 ha with rfl | ha; exact (hz.st hu).ths; rw [List.mem_singleton.1 ha]; exact (hz.st hu).prs)) (by show ((catL [n.ths,n.prs]).length:Int)≤_; omega)) (fun _=>rfl) ?_; intro v16 hv16
 refine Wk 1 (Jb8 (j:=0) sl42 rfl rfl) ?_
 refine Wd (Qc (Ce ?_))
 refine CS.sel [0] rfl ?_
 refine CS.loopM (σ:=Int × ByteArray) [5,19,20,21,22,23,24,25,26,27] (fun s=>[(18,.int .i64 s.1),(3,.string s.2)]) (fun s=>[oT cInt 3 v16 (catL [n.ths,n.prs])]) (fun s=>0≤s.1∧s.1≤(catL [n.ths,n.prs]).length∧(s.2.size:Int)≤40+41 * s.1) (fun s=>((catL [n.ths,n.prs]).length - s.1).toNat) (0,t8) (fun _ _=>rfl) rfl rfl ⟨by simp,by simp,by simp; omega⟩ ?_
 intro s t hs
 obtain ⟨hs1,hs2,hs3⟩:=hs
 refine Nz 1 ?_
 refine Wd (Qc (Cs (CS.cond rfl ?_ ?_)))<;>intro hc1<;>try simp only [bq] at hc1
 ·
  have hbi:=hbd s.1 hs1 (by omega)
  refine Ck (Qc (Cs (Ce (Nz 0 ?_))))
  refine Wk 0 (Jax (j:=0) sl42 rfl rfl rfl rfl (by omega) (by omega)) ?_
  refine Wk 1 (Jqy (j:=0) rfl rfl rfl ⟨by omega,by omega⟩ rfl tk3) ?_
  refine Wd (Qc (Ny 2 ?_))
  refine WS.callE (β:=ByteArray) (p:=fun t=>t.size≤40) (v:=fun t=>.string t) rfl rfl Jxr (fun u hu=>Ju0 (nth (catL [n.ths,n.prs]) s.1) (show AtB _ from by constructor <;> omega) u (Jol ht hu)) (fun _=>rfl) ?_; rintro t24 ht24
  refine Wk 0 (Jia rfl rfl Tryz.underlying9 (by omega)) ?_
  refine Wk 1 (Jia rfl rfl Tryz.underlying9 (by rw [ByteArray.size_append]; omega)) ?_
  refine Wd (Qb (Qc (Ny 0 ?_)))
  refine Wk 1 Za ?_
  exact Wd (QS.head ((s.1+1,s.2++((⟨#[32]⟩:ByteArray)++t24))) rfl rfl ⟨⟨by simp; omega,by simp; omega,by show (((s.2++(_++t24)).size:Nat):Int)≤_; rw [ByteArray.size_append,ByteArray.size_append]; omega⟩,by simp; omega⟩)
 refine Cv (Qe (Qe (Qx (Qc (Nz 2 ?_)))))
 exact Wd (Qc (Cr (out1 rfl rfl (fun u hu=>⟨_,trivial,rfl,hu.below⟩))))
def RevI (xs ys:List Task) (i:Int):Prop:=ys.length=xs.length∧∀ k:Int,0≤k→k < xs.length→nth ys k=if k < i∨(xs.length:Int) - 1 - i < k then nth xs ((xs.length:Int) - 1 - k) else nth xs k
theorem RevI.step {xs ys:List Task} {i:Int} (h:RevI xs ys i) (h0:0≤i) (h1:i < (xs.length:Int) - 1 - i):RevI xs (swp ys i ((xs.length:Int) - 1 - i)) (i+1):=by
 obtain ⟨h2,h3⟩:=h
 refine ⟨by rw [Jv6,h2],fun k k0 k1=>?_⟩
 unfold swp
 by_cases e1:k=(xs.length:Int) - 1 - i
 ·
  rw [e1,Jcd (by omega) (by rw [List.length_set]; omega),h3 i h0 (by omega),if_neg (by omega),if_pos (by omega)]
  congr 1; omega
 rw [Ja9 (by omega) k0 e1]
 by_cases e2:k=i
 ·
  rw [e2,Jcd h0 (by omega),h3 _ (by omega) (by omega),if_neg (by omega),if_pos (by omega)]
 rw [Ja9 h0 k0 e2,h3 k k0 k1]
 by_cases e3:k < i∨(xs.length:Int) - 1 - i < k
 ·
  rw [if_pos e3,if_pos (by omega)]
 rw [if_neg e3,if_neg (by omega)]
theorem RevI.fin {xs ys:List Task} {i:Int} (h:RevI xs ys i) (h1:¬ i < (xs.length:Int) - 1 - i):ys=xs.reverse:=by
 obtain ⟨h2,h3⟩:=h
 refine List.ext_getElem (by rw [List.length_reverse,h2]) fun k k0 k1=>?_
 have h9:=h3 (k:Int) (by omega) (by omega)
 have e:nth ys (k:Int)=ys[k]:=by unfold nth; rw [Int.toNat_natCast,List.getD_eq_getElem?_getD,List.getElem?_eq_getElem k0]; rfl
 have e2:nth xs ((xs.length:Int) - 1 - k)=xs[xs.length - 1 - k]:=by
  unfold nth
  rw [show ((xs.length:Int) - 1 - k).toNat=xs.length - 1 - k by omega,List.getD_eq_getElem?_getD,List.getElem?_eq_getElem (by omega)]; rfl
 rw [List.getElem_reverse, ← e, ← e2,h9]
 split
 ·
  rfl
 congr 1; omega
theorem J0n {w u:World} (R:SA) (v:Value) (xs:List Task) (hm:(xs.length:Int)≤1000000) (hu:St w.heap.size w [oT cTask 122 v (xs),R] u) :
  Calls Tryz.prog 58 #[v] u (fun e u'=>e = .returned (.tuple #[])∧St w.heap.size w [oT cTask 122 v (xs.reverse),R] u'):=by
 refine Jd5 hu Tryz.func58 rfl rfl (Nat.le_of_ble_eq_true rfl) ?_
 refine Nz 1 ?_
 refine Wk 0 (Jb8 (j:=0) sl55 rfl rfl) ?_
 refine Wk 2 Zb ?_
 refine Wd (Qc (Ce ?_))
 refine CS.loopM (σ:=Int × Int × List Task) [7,8,9,10,11,12,13,14,15,16,17,18,19,20,21,22,23,24,25,26,27] (fun s=>[(2,.int .i64 s.1),(3,.int .i64 s.2.1)]) (fun s=>[oT cTask 122 v s.2.2,R]) (fun s=>0≤s.1∧s.1≤xs.length∧s.2.1=(xs.length:Int) - 1 - s.1∧RevI xs s.2.2 s.1) (fun s=>(xs.length - s.1).toNat) (0,(xs.length:Int) - 1,xs) (fun _ _=>rfl) rfl rfl ⟨by simp,by simp,by simp,rfl,fun k k0 k1=>by rw [if_neg (by omega)]⟩ ?_
 intro s t hs
 obtain ⟨hs1,hs2,hs4,hs3⟩:=hs
 have hsl:=hs3.1
 refine Cs (Nz 3 ?_)
 refine Wd (Qc (CS.cond rfl ?_ ?_))<;>intro hc1<;>try simp only [bq] at hc1
 ·
  refine Ck (Qc (Cs (Ce ?_)))
  refine CS.drawnTill 13 (k:=16) mixed rfl rfl ?_
  refine Tr 16 [0,1,4,5] ?_
  refine Tk 16 6 [] rfl (Jax (j:=0) sl55 rfl rfl rfl rfl (by first | omega | (rw [List.length_set]; omega)) (by first | omega | (rw [List.length_set]; omega))) ?_
  refine Tk 16 7 [8,9] rfl (Jhb (j:=0) rfl rfl rfl ⟨by omega,by omega⟩ rfl Jcn) ?_
  refine Tk 16 10 [] rfl (Jax (j:=0) sl55 rfl rfl rfl rfl (by first | omega | (rw [List.length_set]; omega)) (by first | omega | (rw [List.length_set]; omega))) ?_
  refine Tk 16 11 [] rfl (Jhb (j:=0) rfl rfl rfl ⟨by omega,by omega⟩ rfl Jcn) ?_
  refine Tk 16 12 [] rfl (Jax (j:=0) sl55 rfl rfl rfl rfl (by first | omega | (rw [List.length_set]; omega)) (by first | omega | (rw [List.length_set]; omega))) ?_
  refine AT.takeP 2 rfl (by kernel_rfl) rfl (by kernel_rfl) (by kernel_rfl) rfl rfl (Jcj rfl) rfl rfl ?_
  refine AT.takeP 3 rfl (by kernel_rfl) rfl (by kernel_rfl) (by kernel_rfl) rfl rfl (Jcj rfl) rfl rfl ?_
  refine To 13 rfl ?_
  refine WS.storeTw (C:=cTask) (nth s.2.2 s.2.1) (j:=0) rfl rfl rfl ⟨by omega,by first | omega | (rw [List.length_set]; omega)⟩ rfl (cTask.one w _ trivial) (by decide) Jcn rfl ?_
  refine Wd (Qt ?_)
  refine To 14 rfl ?_
  refine Wk 0 (Jax (j:=0) sl55 rfl rfl rfl rfl (by first | omega | (rw [List.length_set]; omega)) (by first | omega | (rw [List.length_set]; omega))) ?_
  refine Wd (Qt ?_)
  refine To 15 rfl ?_
  refine WS.storeTw (C:=cTask) (nth s.2.2 s.1) (j:=0) rfl rfl rfl ⟨by omega,by first | omega | (rw [List.length_set]; omega)⟩ rfl (cTask.one w _ trivial) (by decide) Jcn rfl ?_
  refine Wd (Qt ?_)
  refine Te ?_
  refine Qb (Qc (Ny 1 ?_))
  refine Wk 1 Za ?_
  refine Wk 2 Zb ?_
  exact Wd (QS.head ((s.1+1,s.2.1 - 1,swp s.2.2 s.1 s.2.1)) rfl rfl ⟨⟨by simp; omega,by simp; omega,by show s.2.1 - 1=_; omega,by rw [hs4]; exact hs3.step hs1 (by omega)⟩,by simp; omega⟩)
 exact Cv (Qe (Qe (Qx (out0 (Or.inr rfl) rfl (fun u hu=>⟨rfl,by rw [hs3.fin (by omega)] at hu; exact hu⟩)))))
end Go.Proofs.YtbboikncaihafaaGreatDoor
