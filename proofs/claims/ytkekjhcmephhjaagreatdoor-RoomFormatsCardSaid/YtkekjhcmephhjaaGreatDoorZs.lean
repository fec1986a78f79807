/- Merged texts of this proof (walks and plain laws), printed by a program of the prover. -/
import Derived.Test.YtkekjhcmephhjaaGreatDoorZr
import Derived.Test.YtkekjhcmephhjaaGreatDoorZf
set_option maxHeartbeats 8000000
namespace Go.Proofs.YtkekjhcmephhjaaGreatDoor
open Go.RowKit Go.Proofs
set_option maxRecDepth 100000
set_option linter.unusedVariables false
set_option linter.unusedSimpArgs false
theorem bld0 {n0:Nat} {w0 u:World} {b:Nat} {L:List SA} (h:St n0 w0 (blk b [.pointer none,.slice none 0 0] 81::L) u):St n0 w0 (bldr b ⟨false,.slice none 0 0,⟨#[]⟩⟩::L) u:=by
 have h1:=(h.osl0 (e:=5) (size:=1)).perm (.swap _ _ _)
 exact St.pack (L1:=Jgc b ⟨false,.slice none 0 0,⟨#[]⟩⟩) h1
theorem Jef {w u:World} {Ls:List SA} {bb:Nat} {sx:Bld} (hu:St w.heap.size w (bldr bb sx::Ls) u) (v:Value) (ss:List (Sl ByteArray)) (hx:∀ u,St w.heap.size w (bldr bb sx::Ls) u→SlT (cSl cStr) u ⟨v,ss⟩)
  {n:Nat} {ws:List ByteArray} (hc:catL ss=ws) (hf:Jgh n ws) (hn:n≤100) (hb:sx.bs.size≤100000) :
  Calls Tryz.prog 26 #[v,.pointer (some ⟨bb,0,none⟩)] u (fun e u'=>(∃ y:Bld,y.bs=sx.bs++Jfu ws∧e = .returned (.tuple #[])∧St w.heap.size w (bldr bb y::Ls) u')∨(False∧e = .panicked []∧St w.heap.size w Ls u')):=by
 subst hc
 have hp:0 < (catL ss).length:=List.length_pos_iff.2 hf.1
 exact RetX.ls (Jzy (star Ls) bb sx (St.tailPack hu) ⟨v,ss⟩ (fun u hu=>hx u hu.tailUnpack) hp hf.2.1 (Nat.le_trans hf.2.2 hn) hb)
theorem Jpi {r:Room} (hF:FineR r) {a b:List (List ByteArray)} (h:fmtL r=a++b):(Jbc a).size≤40000:=by
 have h1:=(Jo6 hF).1
 rw [← Jbj,Jkq,h,List.flatMap_append,List.length_append] at h1
 rw [← Jbj,Jkq]
 omega
theorem Jg5 {u:World}:∀ s∈([]:List (Sl ByteArray)),SlT cStr u s:=fun s h=>by cases h
theorem Jbe {u:World} {s:Sl ByteArray} {l:List (Sl ByteArray)} (h:SlT cStr u s) (hl:∀ s∈l,SlT cStr u s):∀ x∈s::l,SlT cStr u x:=fun x hx=>by
 rcases List.mem_cons.1 hx with rfl | hx
 ·
  exact h
 exact hl x hx
def pf1 (r:Room):List (List ByteArray):=[]++r.pls.l.map Jd4
def pf2 (r:Room):List (List ByteArray):=pf1 r++r.ths.l.map (Jc9 r)
def pf3 (r:Room):List (List ByteArray):=pf2 r++r.prs.l.map (Jfm r)
def pf4 (r:Room):List (List ByteArray):=pf3 r++r.wys.l.map (wayF r)
def pf5 (r:Room):List (List ByteArray):=pf4 r++r.acs.l.map (actF r)
def pf6 (r:Room):List (List ByteArray):=pf5 r++r.aus.l.map (Jen r)
theorem Jfq (r:Room):fmtL r=pf6 r++Jiz r:=by simp [fmtL,pf6,pf5,pf4,pf3,pf2,pf1,List.append_assoc]
theorem Jci {r:Room} (hF:FineR r) {α:Type} {p q:List (List ByteArray)} {xs:List α} {f:α→List ByteArray} (h:fmtL r=p++xs.map f++q) (n:Nat):(Jbc (p++(xs.take n).map f)).size≤40000:=by
 refine Jpi hF (b:=(xs.drop n).map f++q) ?_
 rw [h,List.append_assoc,List.append_assoc, ← List.append_assoc ((xs.take n).map f), ← List.map_append,List.take_append_drop]
theorem Jbr {α:Type} [Inhabited α] {p:List (List ByteArray)} {xs:List α} {f:α→List ByteArray} {i:Int} (h0:0≤i) (h1:i < xs.length):Jbc (p++(xs.take (i+1).toNat).map f)=Jbc (p++(xs.take i.toNat).map f)++Jfu (f (nth xs i)):=by
 rw [Jcs xs h0 h1,List.map_append,List.map_singleton, ← List.append_assoc,Jgi]
theorem fmt1 (r:Room):∃ q,fmtL r=[]++r.pls.l.map Jd4++q:=⟨_,by rw [Jfq]; simp only [pf6,pf5,pf4,pf3,pf2,pf1,List.append_assoc]; rfl⟩
theorem fmt2 (r:Room):∃ q,fmtL r=pf1 r++r.ths.l.map (Jc9 r)++q:=⟨_,by rw [Jfq]; simp only [pf6,pf5,pf4,pf3,pf2,List.append_assoc]; rfl⟩
theorem fmt3 (r:Room):∃ q,fmtL r=pf2 r++r.prs.l.map (Jfm r)++q:=⟨_,by rw [Jfq]; simp only [pf6,pf5,pf4,pf3,List.append_assoc]; rfl⟩
theorem fmt4 (r:Room):∃ q,fmtL r=pf3 r++r.wys.l.map (wayF r)++q:=⟨_,by rw [Jfq]; simp only [pf6,pf5,pf4,List.append_assoc]; rfl⟩
theorem fmt5 (r:Room):∃ q,fmtL r=pf4 r++r.acs.l.map (actF r)++q:=⟨_,by rw [Jfq]; simp only [pf6,pf5,List.append_assoc]; rfl⟩
theorem fmt6 (r:Room):∃ q,fmtL r=pf5 r++r.aus.l.map (Jen r)++q:=⟨_,by rw [Jfq]; simp only [pf6,List.append_assoc]; rfl⟩
theorem Jpp (r:Room):Jbc (fmtL r)=Jbc (pf6 r)++Jfu [Jcg,digB r.ply]++Jfu ([Jem]++Jaq r r.gl.l):=by
 rw [Jfq, ← Jgi, ← Jgi,List.append_assoc]
 rfl
theorem Jxg (r:Room) (w:World) (hr:RoomOk w r) (hn:Near r) (g:Sl ByteArray) (hG:GOk w g) :
  Calls Tryz.prog 10 #[.agg #[r.pls.v,r.ths.v,r.prs.v,r.wys.v,r.acs.v,r.aus.v,.int .i64 r.ply,r.gl.v]] w (RetB w (.tuple #[.string (Jbi r).1,.int .i64 (Jbi r).2])):=by
 have kpl:=hr.pls
 have lpl:=hr.pls.le
 have kth:=hr.ths
 have lth:=hr.ths.le
 have kpr:=hr.prs
 have lpr:=hr.prs.le
 have kwy:=hr.wys
 have lwy:=hr.wys.le
 have kac:=hr.acs
 have lac:=hr.acs.le
 have kau:=hr.aus
 have lau:=hr.aus.le
 have kgl:=hr.gl
 have lgl:=hr.gl.le
 refine enter Tryz.func10 rfl rfl (Nat.le_of_ble_eq_true rfl) ?_
 refine Nz 0 ?_
 refine Wb 2 rfl rfl (fun _=>rfl) (fun _=>rfl) fun b1 hb1=>?_
 refine Wd (Qc (Cs (Nz 0 ?_)))
 refine Wk 0 (by first | exact Jad (j:=0) rfl rfl tk32 | exact Jae (j:=0) rfl rfl (by rfl) tk32 | exact Jai rfl (by assumption) (by rfl) tk32 | exact Jaf (n:=8) (j:=0) rfl rfl rfl rfl tk32) ?_
 refine Wk 1 (Cb rfl rfl Jww (fun u hu=>Jik r u (hr.st hu) g (hG.st hu) hn.nm)) ?_
 refine Wd (Qc (Nz 2 ?_))
 refine Wd (Qc (CS.cond rfl ?_ ?_))<;>intro hc1<;>try simp only [bq] at hc1
 ·
  have hE:¬ checkE r=0:=hc1
  refine Nz 3 ?_
  exact Wd (Qc (Cr (Qr (out2 rfl rfl rfl (Jah (by unfold Jbi; rw [if_neg hE]))))))
 have hE:checkE r=0:=by simpa using hc1
 have hF:=Jd0 hE
 have hlens:=hF.rd.lens
 have hplay:=hF.rd.ply
 refine Ck (Qc (Nz 0 ?_))
 refine Wl 0 zv81 (fun _=>rfl) (fun _=>rfl) fun b5 hb5=>?_
 refine Wd (Qc (Nz 0 ?_))
 refine Wk 1 (Jat rfl) ?_
 refine Wd (Qc (Nz 1 ?_))
 refine Wd (Qc (Nz 0 ?_))
 refine Wk 1 (Jat rfl) ?_
 refine Wd (Qc (Cs (Nz 1 ?_)))
 refine Wk 0 (by first | exact Jaa (j:=1) rfl rfl rfl tk23 | exact Jab rfl (by assumption) rfl tk23) ?_
 refine Wk 1 Nc ?_
 refine Wd (Qc (Ce ?_))
 refine CS.weak (fun u hu=>bld0 hu) ?_
 refine CS.loopM (σ:=Int × Bld) [10,37,38,39,40,41,42,43,44,45,46,47] (fun s=>[(36,.int .i64 s.1)]) (fun s=>[bldr b5 s.2,blk b1 (Room.cells r) 32]) (fun s=>0≤s.1∧s.1≤r.pls.l.length∧s.2.bs=Jbc ([]++(r.pls.l.take s.1.toNat).map Jd4)) (fun s=>(r.pls.l.length - s.1).toNat) (0,⟨false,.slice none 0 0,⟨#[]⟩⟩) (fun _ _=>rfl) rfl rfl ⟨by simp,by simp,rfl⟩ ?_
 intro a t hs
 obtain ⟨ha1,ha2,ha3⟩:=hs
 refine Nz 1 ?_
 refine Wd (Qc (Cs (CS.cond rfl ?_ ?_)))<;>intro hc2<;>try simp only [bq] at hc2
 ·
  obtain ⟨q_a,hq_a⟩:=fmt1 r
  have hza:=Jci hF hq_a a.1.toNat
  rw [← ha3] at hza
  refine Ck (Qc (Cs (Ce (Nz 0 ?_))))
  refine Wk 0 Xc ?_
  refine Wk 1 Ub ?_
  refine Wd (Qc (Ny 3 ?_))
  refine WS.buildSs (bs:=Jd4 (nth r.pls.l a.1)) sl23 zv9 rfl rfl (by decide) (fun _=>rfl) ?_; intro v43 hv43
  refine Wk 0 (Cb rfl rfl Jhx (fun u hu=>of_c v43 hv43 u)) ?_
  refine WS.buildSss (bs:=[⟨v43,Jd4 (nth r.pls.l a.1)⟩]) sl82 zv23 rfl rfl (by decide) (fun s hs_=>by
   simp only [List.mem_cons,List.not_mem_nil,or_false] at hs_
   rcases hs_ with rfl <;> assumption) (fun _=>rfl) ?_; intro v45
  refine WS.callP rfl rfl Jkd (fun u hu=>Jef (hu.sel [2,0,0,0] rfl) v45 [⟨v43,Jd4 (nth r.pls.l a.1)⟩] (fun u hu=>Jaw (C:=cSl cStr) hu (j:=1) rfl (Jbe (Jaw hu (j:=2) rfl (fun _ _=>trivial)) (Jg5))) rfl (Jff hF (Jme hF (Jak ha1 (by omega)))) (by decide) (by have hbz:=hza; omega)) (fun _=>rfl) (fun hq u hu=>hq.elim) ?_; rintro y hy
  refine Wd (Qb (Qc (Ny 0 ?_)))
  refine Wk 1 Za ?_
  refine Wd ?_
  refine QS.sel [0,2] rfl ?_
  exact QS.head ((a.1+1,y)) rfl rfl ⟨⟨by simp; omega,by simp; omega,by show y.bs=_; rw [hy,ha3]; exact (Jbr ha1 (by omega)).symm⟩,by simp; omega⟩
 have an:a.1.toNat=r.pls.l.length:=by omega
 rw [an,List.take_length] at ha3
 replace ha3:a.2.bs=Jbc (pf1 r):=ha3
 refine Cv (Qe (Qe (Qx (Qc (Cs (Nz 1 ?_))))))
 refine Wk 0 (by first | exact Jaa (j:=1) rfl rfl rfl tk24 | exact Jab rfl (by assumption) rfl tk24) ?_
 refine Wk 1 Nc ?_
 refine Wd (Qc (Ce ?_))
 refine CS.loopM (σ:=Int × Bld) [12,52,53,54,55,56,57,58,59,60,61,62,63,64,65,66,67,68,69,70,71,72,73,74,75] (fun s=>[(51,.int .i64 s.1)]) (fun s=>[bldr b5 s.2,blk b1 (Room.cells r) 32]) (fun s=>0≤s.1∧s.1≤r.ths.l.length∧s.2.bs=Jbc (pf1 r++(r.ths.l.take s.1.toNat).map (Jc9 r))) (fun s=>(r.ths.l.length - s.1).toNat) (0,a.2) (fun _ _=>rfl) rfl rfl ⟨by simp,by simp,by show a.2.bs=Jbc (_++[]); rw [List.append_nil]; exact ha3⟩ ?_
 intro b t hs
 obtain ⟨hb1,hb2,hb3⟩:=hs
 refine Nz 1 ?_
 refine Wd (Qc (Cs (CS.cond rfl ?_ ?_)))<;>intro hc3<;>try simp only [bq] at hc3
 ·
  obtain ⟨q_b,hq_b⟩:=fmt2 r
  have hzb:=Jci hF hq_b b.1.toNat
  rw [← hb3] at hzb
  have htb:=Jd2 hF (Jak hb1 (show b.1 < (r.ths.l.length:Int) by omega))
  have hts:=Jjm htb.1
  have htc:=htb.1
  simp only [thB,Bool.and_eq_true,decide_eq_true_eq] at htc
  have htp:=Jb9 htc.1
  refine Ck (Qc (Cs (Ce (Nz 0 ?_))))
  refine Wk 0 Xc ?_
  refine Wk 0 Ua ?_
  refine Wl 0 zv65 (fun _=>rfl) (fun _=>rfl) fun b12 hb12=>?_
  refine Wv 0 0 ?_
  refine Wd (Qc ?_)
  refine CS.drawnBut 1 (k:=20) mixed rfl rfl rfl ?_
  refine Ar [0,1,2] ?_
  refine Ak 3 [4] rfl (by first | exact Jaa (j:=0) rfl rfl rfl tk9 | exact Jab rfl (by assumption) rfl tk9) ?_
  refine Ak 5 [6] rfl (by first | exact Jaa (j:=1) rfl rfl rfl tk23 | exact Jab rfl (by assumption) rfl tk23) ?_
  refine Ak 7 [] rfl (by first | exact Jaa (j:=0) rfl rfl rfl tk3 | exact Jab rfl (by assumption) rfl tk3) ?_
  refine Ak 8 [] rfl Xc ?_
  refine Ak 9 [10] rfl Ub ?_
  refine Ak 11 [] rfl (by first | exact Jaa (j:=0) rfl rfl rfl tk3 | exact Jab rfl (by assumption) rfl tk3) ?_
  refine Ak 12 [13] rfl (Cb rfl rfl Ju5 (fun u hu=>Jll _ u ⟨by omega,by omega⟩)) ?_
  refine Ak 14 [] rfl (by first | exact Jaa (j:=0) rfl rfl rfl tk3 | exact Jab rfl (by assumption) rfl tk3) ?_
  refine Ak 15 [] rfl (Cb rfl rfl Ju5 (fun u hu=>Jll _ u ⟨by omega,by omega⟩)) ?_
  refine Ao 16 rfl ?_
  refine WS.buildSs (bs:=Jc9 r (nth r.ths.l b.1)) sl23 zv9 rfl rfl (by decide) (fun _=>rfl) ?_; intro v71 hv71
  refine Wd (Qa ?_)
  refine Ak 17 [] rfl (Cb rfl rfl Jhx (fun u hu=>of_c v71 hv71 u)) ?_
  refine Ao 18 rfl ?_
  refine WS.buildSss (bs:=[⟨v71,Jc9 r (nth r.ths.l b.1)⟩]) sl82 zv23 rfl rfl (by decide) (fun s hs_=>by
   simp only [List.mem_cons,List.not_mem_nil,or_false] at hs_
   rcases hs_ with rfl <;> assumption) (fun _=>rfl) ?_; intro v73
  refine Wd (Qa ?_)
  refine Ao 19 rfl ?_
  refine WS.callP rfl rfl Jkd (fun u hu=>Jef (hu.sel [3,0,0,0,0] rfl) v73 [⟨v71,Jc9 r (nth r.ths.l b.1)⟩] (fun u hu=>Jaw (C:=cSl cStr) hu (j:=1) rfl (Jbe (Jaw hu (j:=2) rfl (fun _ _=>trivial)) (Jg5))) rfl (Jfg hF htb.1 htb.2) (by decide) (by have hbz:=hzb; omega)) (fun _=>rfl) (fun hq u hu=>hq.elim) ?_; rintro y hy
  refine Wd (Qa ?_)
  refine Ae ?_
  refine Qb (Qc (Ny 0 ?_))
  refine Wk 1 Za ?_
  refine Wd ?_
  refine QS.sel [0,3] rfl ?_
  exact QS.head ((b.1+1,y)) rfl rfl ⟨⟨by simp; omega,by simp; omega,by show y.bs=_; rw [hy,hb3]; exact (Jbr hb1 (by omega)).symm⟩,by simp; omega⟩
 have bn:b.1.toNat=r.ths.l.length:=by omega
 rw [bn,List.take_length] at hb3
 replace hb3:b.2.bs=Jbc (pf2 r):=hb3
 refine Cv (Qe (Qe (Qx (Qc (Cs (Nz 1 ?_))))))
 refine Wk 0 (by first | exact Jaa (j:=1) rfl rfl rfl tk25 | exact Jab rfl (by assumption) rfl tk25) ?_
 refine Wk 1 Nc ?_
 refine Wd (Qc (Ce ?_))
 refine CS.loopM (σ:=Int × Bld) [14,15,80,81,82,83,84,85,86,87,88,89,90,91,92,93,94,95,96,97,98,99,100,101,102,103,104,105,106,107,108,109,110,111,112] (fun s=>[(79,.int .i64 s.1)]) (fun s=>[bldr b5 s.2,blk b1 (Room.cells r) 32]) (fun s=>0≤s.1∧s.1≤r.prs.l.length∧s.2.bs=Jbc (pf2 r++(r.prs.l.take s.1.toNat).map (Jfm r))) (fun s=>(r.prs.l.length - s.1).toNat) (0,b.2) (fun _ _=>rfl) rfl rfl ⟨by simp,by simp,by show b.2.bs=Jbc (_++[]); rw [List.append_nil]; exact hb3⟩ ?_
 intro c t hs
 obtain ⟨hc1,hc2,hc3⟩:=hs
 refine Nz 1 ?_
 refine Wd (Qc (Cs (CS.cond rfl ?_ ?_)))<;>intro hc4<;>try simp only [bq] at hc4
 ·
  obtain ⟨q_c,hq_c⟩:=fmt3 r
  have hzc:=Jci hF hq_c c.1.toNat
  rw [← hc3] at hzc
  have hpm:=Jak hc1 (show c.1 < (r.prs.l.length:Int) by omega)
  have hpr:=hF.rd.prs _ hpm
  have hcd:=Ja9 (hF.cpr _ hpm)
  have hpo:=(hr.prs.at hc1 (show c.1 < (r.prs.l.length:Int) by omega)).ext (Below.refl _ w)
  refine Ck (Qc (Cs (Ce (Nz 0 ?_))))
  refine Wk 0 Xc ?_
  refine Wk 0 Ua ?_
  refine Wl 0 zv67 (fun _=>rfl) (fun _=>rfl) fun b14 hb14=>?_
  refine Wv 0 0 ?_
  refine Wd (Qc (Nz 1 ?_))
  refine WS.buildSs (bs:=[Jhc]) sl23 zv9 rfl rfl (by decide) (fun _=>rfl) ?_; intro v84 hv84
  refine Wk 1 (Cb rfl rfl Jhx (fun u hu=>of_c v84 hv84 u)) ?_
  refine Wd (Qc ?_)
  refine CS.cut (σ:=Value) [86,87,88,89,90,91,92,93,94,95,96,97] (fun s=>[(15,s)]) (fun s=>[oT cStr 9 s (Jde r (nth r.prs.l c.1).pl),blk b14 (cPro.cells (nth r.prs.l c.1)) 67,bldr b5 c.2,blk b1 (Room.cells r) 32]) (fun s=>s.oneCell'=true) (fun _ _=>rfl) ?_ ?_
  ·
   refine Nz 1 ?_
   refine Wk 1 (by first | exact Jaa (j:=1) rfl rfl rfl tk3 | exact Jab rfl (by assumption) rfl tk3) ?_
   refine Wd (Qc (CS.cond rfl ?_ ?_))<;>intro hc5<;>try simp only [bq] at hc5
   ·
    have hpb:=Jb9 (hpr.2.resolve_left (by omega))
    refine Ny 2 ?_
    refine Wk 1 (by first | exact Jaa (j:=3) rfl rfl rfl tk23 | exact Jab rfl (by assumption) rfl tk23) ?_
    refine Wk 0 (by first | exact Jaa (j:=1) rfl rfl rfl tk3 | exact Jab rfl (by assumption) rfl tk3) ?_
    refine Wk 0 Xc ?_
    refine Wk 0 Ub ?_
    refine WS.buildSs (bs:=[atW,nth r.pls.l (nth r.prs.l c.1).pl]) sl23 zv9 rfl rfl (by decide) (fun _=>rfl) ?_; intro v96 hv96
    refine Wk 1 (Cb rfl rfl Jhx (fun u hu=>of_c v96 hv96 u)) ?_
    refine Wd ?_
    refine QS.sel [0,1,1,1] rfl ?_
    skip
    exact QS.head (v96) rfl (by show [_,_,_,_]=[_,_,_,_]; rw [Jde,if_neg (by omega)]) hv96
   refine Ck ?_
   skip
   exact QS.head (v84) rfl (by show [_,_,_,_]=[_,_,_,_]; rw [Jde,if_pos (by omega)]) hv84
  intro p t hs
  refine CS.drawnBut 2 (k:=14) mixed rfl rfl rfl ?_
  refine Ar [0,1,2] ?_
  refine Ak 3 [6] rfl (by first | exact Jaa (j:=1) rfl rfl rfl tk9 | exact Jab rfl (by assumption) rfl tk9) ?_
  refine Ak 7 [8] rfl (by first | exact Jad (j:=2) rfl rfl tk32 | exact Jae (j:=2) rfl rfl (by rfl) tk32 | exact Jai rfl (by assumption) (by rfl) tk32 | exact Jaf (n:=8) (j:=2) rfl rfl rfl rfl tk32) ?_
  refine Ak 9 [] rfl (by first | exact Jaa (j:=1) rfl rfl rfl tk30 | exact Jab rfl (by assumption) rfl tk30) ?_
  refine Ao 4 rfl ?_
  refine WS.buildSs (bs:=[Jiv,(nth r.prs.l c.1).nm]) sl23 zv9 rfl rfl (by decide) (fun _=>rfl) ?_; intro v102 hv102
  refine Wd (Qa ?_)
  refine Ak 5 [] rfl (Cb rfl rfl Jhx (fun u hu=>of_c v102 hv102 u)) ?_
  refine Ao 10 rfl ?_
  refine Wc rfl rfl Jkn (fun u hu=>Jg9 r u (hr.st hu) hF (nth r.prs.l c.1).wh ((hr.prs.at hc1 (show c.1 < (r.prs.l.length:Int) by omega)).ext hu.below) hcd.1 (by omega)) (fun _=>rfl) ?_; intro v108 hv108
  refine Wd (Qa ?_)
  refine Ao 11 rfl ?_
  refine Wc rfl rfl Jkk (fun u hu=>Jgv ifW ⟨v108,Jaq r (nth r.prs.l c.1).wh.l⟩ u (Jaw hu (j:=0) rfl (fun _ _ ↦ trivial)) (by simp only [Jbf]; omega)) (fun _=>rfl) ?_; intro v109 hv109
  refine Wd (Qa ?_)
  refine Ao 12 rfl ?_
  refine WS.buildSss (bs:=[⟨v102,[Jiv,(nth r.prs.l c.1).nm]⟩,⟨p,Jde r (nth r.prs.l c.1).pl⟩,⟨v109,Jav ifW (Jaq r (nth r.prs.l c.1).wh.l)⟩]) sl82 zv23 rfl rfl (by decide) (fun s hs_=>by
   simp only [List.mem_cons,List.not_mem_nil,or_false] at hs_
   rcases hs_ with rfl | rfl | rfl <;> assumption) (fun _=>rfl) ?_; intro v110
  refine Wd (Qa ?_)
  refine Ao 13 rfl ?_
  refine WS.callP rfl rfl Jkd (fun u hu=>Jef (hu.sel [6,0,0,0,0,0,0,0] rfl) v110 [⟨v102,[Jiv,(nth r.prs.l c.1).nm]⟩,⟨p,Jde r (nth r.prs.l c.1).pl⟩,⟨v109,Jav ifW (Jaq r (nth r.prs.l c.1).wh.l)⟩] (fun u hu=>Jaw (C:=cSl cStr) hu (j:=1) rfl (Jbe (Jaw hu (j:=4) rfl (fun _ _=>trivial)) (Jbe (Jaw hu (j:=5) rfl (fun _ _=>trivial)) (Jbe (Jaw hu (j:=2) rfl (fun _ _=>trivial)) (Jg5))))) (ws:=Jfm r (nth r.prs.l c.1)) (by simp [catL,Jfm,List.append_assoc]) (Jg2 hF hpm (Jji hF hpm)) (by decide) (by have hbz:=hzc; omega)) (fun _=>rfl) (fun hq u hu=>hq.elim) ?_; rintro y hy
  refine Wd (Qa ?_)
  refine Ae ?_
  refine Qb (Qc (Ny 0 ?_))
  refine Wk 1 Za ?_
  refine Wd ?_
  refine QS.sel [0,6] rfl ?_
  exact QS.head ((c.1+1,y)) rfl rfl ⟨⟨by simp; omega,by simp; omega,by show y.bs=_; rw [hy,hc3]; exact (Jbr hc1 (by omega)).symm⟩,by simp; omega⟩
 have cn:c.1.toNat=r.prs.l.length:=by omega
 rw [cn,List.take_length] at hc3
 replace hc3:c.2.bs=Jbc (pf3 r):=hc3
 refine Cv (Qe (Qe (Qx (Qc (Cs (Nz 1 ?_))))))
 refine Wk 0 (by first | exact Jaa (j:=1) rfl rfl rfl tk26 | exact Jab rfl (by assumption) rfl tk26) ?_
 refine Wk 1 Nc ?_
 refine Wd (Qc (Ce ?_))
 refine CS.loopM (σ:=Int × Bld) [17,117,118,119,120,121,122,123,124,125,126,127,128,129,130,131,132,133,134,135,136,137,138,139,140,141,142,143] (fun s=>[(116,.int .i64 s.1)]) (fun s=>[bldr b5 s.2,blk b1 (Room.cells r) 32]) (fun s=>0≤s.1∧s.1≤r.wys.l.length∧s.2.bs=Jbc (pf3 r++(r.wys.l.take s.1.toNat).map (wayF r))) (fun s=>(r.wys.l.length - s.1).toNat) (0,c.2) (fun _ _=>rfl) rfl rfl ⟨by simp,by simp,by show c.2.bs=Jbc (_++[]); rw [List.append_nil]; exact hc3⟩ ?_
 intro d t hs
 obtain ⟨hd1,hd2,hd3⟩:=hs
 refine Nz 1 ?_
 refine Wd (Qc (Cs (CS.cond rfl ?_ ?_)))<;>intro hc6<;>try simp only [bq] at hc6
 ·
  obtain ⟨q_d,hq_d⟩:=fmt4 r
  have hzd:=Jci hF hq_d d.1.toNat
  rw [← hd3] at hzd
  have hwm:=Jak hd1 (show d.1 < (r.wys.l.length:Int) by omega)
  have hwr:=hF.rd.wys _ hwm
  have hwa:=hwr.2.1
  have hwb:=hwr.2.2
  have hcd:=Ja9 (hF.cwy _ hwm)
  have hpo:=(hr.wys.at hd1 (show d.1 < (r.wys.l.length:Int) by omega)).ext (Below.refl _ w)
  refine Ck (Qc (Cs (Ce (Nz 0 ?_))))
  refine Wk 0 Xc ?_
  refine Wk 0 Ua ?_
  refine Wl 0 zv69 (fun _=>rfl) (fun _=>rfl) fun b17 hb17=>?_
  refine Wv 0 0 ?_
  refine Wd (Qc ?_)
  refine CS.drawnBut 1 (k:=23) mixed rfl rfl rfl ?_
  refine Ar [0,1,2] ?_
  refine Ak 3 [4] rfl (by first | exact Jaa (j:=1) rfl rfl rfl tk23 | exact Jab rfl (by assumption) rfl tk23) ?_
  refine Ak 5 [] rfl (by first | exact Jaa (j:=0) rfl rfl rfl tk3 | exact Jab rfl (by assumption) rfl tk3) ?_
  refine Ak 6 [] rfl Xc ?_
  refine Ak 7 [8] rfl Ub ?_
  refine Ak 9 [10] rfl (by first | exact Jaa (j:=1) rfl rfl rfl tk23 | exact Jab rfl (by assumption) rfl tk23) ?_
  refine Ak 11 [] rfl (by first | exact Jaa (j:=0) rfl rfl rfl tk3 | exact Jab rfl (by assumption) rfl tk3) ?_
  refine Ak 12 [] rfl Xc ?_
  refine Ak 13 [] rfl Ub ?_
  refine Ak 16 [17] rfl (by first | exact Jad (j:=1) rfl rfl tk32 | exact Jae (j:=1) rfl rfl (by rfl) tk32 | exact Jai rfl (by assumption) (by rfl) tk32 | exact Jaf (n:=8) (j:=1) rfl rfl rfl rfl tk32) ?_
  refine Ak 18 [] rfl (by first | exact Jaa (j:=0) rfl rfl rfl tk30 | exact Jab rfl (by assumption) rfl tk30) ?_
  refine Ao 14 rfl ?_
  refine WS.buildSs (bs:=[Jnp,nth r.pls.l (nth r.wys.l d.1).a,nth r.pls.l (nth r.wys.l d.1).b]) sl23 zv9 rfl rfl (by decide) (fun _=>rfl) ?_; intro v134 hv134
  refine Wd (Qa ?_)
  refine Ak 15 [] rfl (Cb rfl rfl Jhx (fun u hu=>of_c v134 hv134 u)) ?_
  refine Ao 19 rfl ?_
  refine Wc rfl rfl Jkn (fun u hu=>Jg9 r u (hr.st hu) hF (nth r.wys.l d.1).wh ((hr.wys.at hd1 (show d.1 < (r.wys.l.length:Int) by omega)).ext hu.below) hcd.1 (by omega)) (fun _=>rfl) ?_; intro v139 hv139
  refine Wd (Qa ?_)
  refine Ao 20 rfl ?_
  refine Wc rfl rfl Jkk (fun u hu=>Jgv ifW ⟨v139,Jaq r (nth r.wys.l d.1).wh.l⟩ u (Jaw hu (j:=0) rfl (fun _ _ ↦ trivial)) (by simp only [Jbf]; omega)) (fun _=>rfl) ?_; intro v140 hv140
  refine Wd (Qa ?_)
  refine Ao 21 rfl ?_
  refine WS.buildSss (bs:=[⟨v134,[Jnp,nth r.pls.l (nth r.wys.l d.1).a,nth r.pls.l (nth r.wys.l d.1).b]⟩,⟨v140,Jav ifW (Jaq r (nth r.wys.l d.1).wh.l)⟩]) sl82 zv23 rfl rfl (by decide) (fun s hs_=>by
   simp only [List.mem_cons,List.not_mem_nil,or_false] at hs_
   rcases hs_ with rfl | rfl <;> assumption) (fun _=>rfl) ?_; intro v141
  refine Wd (Qa ?_)
  refine Ao 22 rfl ?_
  refine WS.callP rfl rfl Jkd (fun u hu=>Jef (hu.sel [5,0,0,0,0,0,0] rfl) v141 [⟨v134,[Jnp,nth r.pls.l (nth r.wys.l d.1).a,nth r.pls.l (nth r.wys.l d.1).b]⟩,⟨v140,Jav ifW (Jaq r (nth r.wys.l d.1).wh.l)⟩] (fun u hu=>Jaw (C:=cSl cStr) hu (j:=1) rfl (Jbe (Jaw hu (j:=4) rfl (fun _ _=>trivial)) (Jbe (Jaw hu (j:=2) rfl (fun _ _=>trivial)) (Jg5)))) (ws:=wayF r (nth r.wys.l d.1)) (by simp [catL,wayF,List.append_assoc]) (Jh3 hF hwm) (by decide) (by have hbz:=hzd; omega)) (fun _=>rfl) (fun hq u hu=>hq.elim) ?_; rintro y hy
  refine Wd (Qa ?_)
  refine Ae ?_
  refine Qb (Qc (Ny 0 ?_))
  refine Wk 1 Za ?_
  refine Wd ?_
  refine QS.sel [0,5] rfl ?_
  exact QS.head ((d.1+1,y)) rfl rfl ⟨⟨by simp; omega,by simp; omega,by show y.bs=_; rw [hy,hd3]; exact (Jbr hd1 (by omega)).symm⟩,by simp; omega⟩
 have dn:d.1.toNat=r.wys.l.length:=by omega
 rw [dn,List.take_length] at hd3
 replace hd3:d.2.bs=Jbc (pf4 r):=hd3
 refine Cv (Qe (Qe (Qx (Qc (Cs (Nz 1 ?_))))))
 refine Wk 0 (by first | exact Jaa (j:=1) rfl rfl rfl tk27 | exact Jab rfl (by assumption) rfl tk27) ?_
 refine Wk 1 Nc ?_
 refine Wd (Qc (Ce ?_))
 refine CS.loopM (σ:=Int × Bld) [19,20,21,23,148,149,150,151,152,153,154,155,156,157,158,159,160,161,162,163,164,165,166,167,168,169,170,171,172,173,174,175,176,177,178,179,180,181,182,183,184,185,186,187,188,189,190,191,192,193,194,195,196,197,198,199,200,201,202,203,204,205,206,207,208,209,210,211,212,213,214,215] (fun s=>[(147,.int .i64 s.1)]) (fun s=>[bldr b5 s.2,blk b1 (Room.cells r) 32]) (fun s=>0≤s.1∧s.1≤r.acs.l.length∧s.2.bs=Jbc (pf4 r++(r.acs.l.take s.1.toNat).map (actF r))) (fun s=>(r.acs.l.length - s.1).toNat) (0,d.2) (fun _ _=>rfl) rfl rfl ⟨by simp,by simp,by show d.2.bs=Jbc (_++[]); rw [List.append_nil]; exact hd3⟩ ?_
 intro e t hs
 obtain ⟨he1,he2,he3⟩:=hs
 refine Nz 1 ?_
 refine Wd (Qc (Cs (CS.cond rfl ?_ ?_)))<;>intro hc7<;>try simp only [bq] at hc7
 ·
  obtain ⟨q_e,hq_e⟩:=fmt5 r
  have hze:=Jci hF hq_e e.1.toNat
  rw [← he3] at hze
  have ham:=Jak he1 (show e.1 < (r.acs.l.length:Int) by omega)
  have hA:=hF.rd.acs _ ham
  have hapl:=hA.pl
  obtain ⟨hnmA,hlk0,hlk1⟩:=hF.ac _ ham
  have hcd:=Ja9 (hF.cac _ ham)
  have hao:ActOk w (nth r.acs.l e.1):=hr.acs.at he1 (show e.1 < (r.acs.l.length:Int) by omega)
  have hlse:=hA.lse
  have hlus:=hA.lus
  have hlsp:=hA.lsp
  have hlbr:=hA.lbr
  have hse1:=hao.se
  refine Ck (Qc (Cs (Ce (Nz 0 ?_))))
  refine Wk 0 Xc ?_
  refine Wk 0 Ua ?_
  refine Wl 0 zv73 (fun _=>rfl) (fun _=>rfl) fun b19 hb19=>?_
  refine Wv 0 0 ?_
  refine Wd (Qc (Nz 1 ?_))
  refine Wd (Qc ?_)
  refine CS.cut (σ:=Value) [151,152,153,154,155,156,157,158,159] (fun s=>[(20,s)]) (fun s=>[oT cStr 9 s (Jfl (nth r.acs.l e.1).lk),blk b19 (cAct.cells (nth r.acs.l e.1)) 73,bldr b5 e.2,blk b1 (Room.cells r) 32]) (fun s=>s.oneCell'=true) (fun _ _=>rfl) ?_ ?_
  ·
   refine Nz 1 ?_
   refine Wk 1 (by first | exact Jaa (j:=0) rfl rfl rfl tk3 | exact Jab rfl (by assumption) rfl tk3) ?_
   refine Wd (Qc (CS.cond rfl ?_ ?_))<;>intro hc8<;>try simp only [bq] at hc8
   ·
    refine Ny 2 ?_
    refine Wk 0 (by first | exact Jaa (j:=0) rfl rfl rfl tk3 | exact Jab rfl (by assumption) rfl tk3) ?_
    refine Wk 0 (Cb rfl rfl Ju5 (fun u hu=>Jll _ u ⟨by omega,by omega⟩)) ?_
    refine WS.buildSs (bs:=[Ji8,digB (nth r.acs.l e.1).lk]) sl23 zv9 rfl rfl (by decide) (fun _=>rfl) ?_; intro v158 hv158
    refine Wk 1 (Cb rfl rfl Jhx (fun u hu=>of_c v158 hv158 u)) ?_
    refine Wd ?_
    skip
    exact QS.head (v158) rfl (by show [_,_,_,_]=[_,_,_,_]; rw [Jfl,if_pos (by omega)]) hv158
   refine Ck ?_
   refine QS.weak (fun u hu=>hu.osl0 (e:=9) (size:=1)) ?_
   exact QS.head ((.slice none 0 0)) rfl (by show [_,_,_,_]=[_,_,_,_]; rw [Jfl,if_neg (by omega)]; rfl) rfl
  intro lk t hs
  have hlko:=hs
  refine Nz 1 ?_
  refine Wd (Qc (Cs (Nz 1 ?_)))
  refine Wk 0 (by first | exact Jaa (j:=1) rfl rfl rfl tk71 | exact Jab rfl (by assumption) rfl tk71) ?_
  refine Wk 1 Nc ?_
  refine Wd (Qc (Ce ?_))
  refine CS.weak (fun _ hu=>hu.osl0 (e:=96) (size:=3)) ?_
  refine CS.loopM (σ:=Int × Value) [23,164,165,166,167,168,169,170,171,172,173,174,175] (fun s=>[(163,.int .i64 s.1),(21,s.2)]) (fun s=>[oT cLit 96 s.2 (Jb1 ((nth r.acs.l e.1).se.l.take s.1.toNat)),oT cStr 9 lk (Jfl (nth r.acs.l e.1).lk),blk b19 (cAct.cells (nth r.acs.l e.1)) 73,bldr b5 e.2,blk b1 (Room.cells r) 32]) (fun s=>0≤s.1∧s.1≤(nth r.acs.l e.1).se.l.length∧s.2.oneCell'=true) (fun s=>((nth r.acs.l e.1).se.l.length - s.1).toNat) (0,.slice none 0 0) (fun _ _=>rfl) rfl rfl ⟨by simp,by simp,rfl⟩ ?_
  intro f t hs
  obtain ⟨hf1,hf2,hf3⟩:=hs
  refine Nz 1 ?_
  refine Wd (Qc (Cs (CS.cond rfl ?_ ?_)))<;>intro hc9<;>try simp only [bq] at hc9
  ·
   have hsx:=hao.se.at hf1 (show f.1 < ((nth r.acs.l e.1).se.l.length:Int) by omega)
   refine Ck (Qc (Cs (Ce (Nz 0 ?_))))
   refine Wk 0 Xc ?_
   refine Wk 0 Ua ?_
   refine Wl 0 zv75 (fun _=>rfl) (fun _=>rfl) fun b23 hb23=>?_
   refine Wv 0 0 ?_
   refine Wd (Qc (Ny 2 ?_))
   refine Wk 1 (by first | exact Jaa (j:=0) rfl rfl rfl tk3 | exact Jab rfl (by assumption) rfl tk3) ?_
   refine Wk 0 (by first | exact Jaa (j:=0) rfl rfl rfl tk3 | exact Jab rfl (by assumption) rfl tk3) ?_
   refine Wk 0 (Db Jsx zv96) ?_
   refine WS.buildT1 cLit (a:=⟨(nth (nth r.acs.l e.1).se.l f.1).t,(nth (nth r.acs.l e.1).se.l f.1).s,false⟩) sl29 zv96 rfl (by decide) (fun _=>rfl) ?_; intro v173
   refine WS.appendT1 (C:=cLit) (a:=⟨(nth (nth r.acs.l e.1).se.l f.1).t,(nth (nth r.acs.l e.1).se.l f.1).s,false⟩) (j:=2) (jz:=0) sl29 zv96 rfl (by decide) rfl rfl rfl rfl (w:=w) trivial (by simp [Jb1]; omega) (by simp [Jb1]; omega) (fun _=>rfl) (fun _=>rfl) ?_; intro v174 hv174
   refine Wz 1 ?_
   refine Wd (Qb (Qc (Ny 0 ?_)))
   refine Wk 1 Za ?_
   refine Wd ?_
   refine QS.sel [2,2,2,2,2] rfl ?_
   exact QS.head ((f.1+1,v174)) rfl (by show [_,_,_,_,_]=[_,_,_,_,_]; unfold Jb1; rw [Jcs (nth r.acs.l e.1).se.l hf1 (by omega),List.map_append,List.map_singleton]) ⟨⟨by simp; omega,by simp; omega,hv174⟩,by simp; omega⟩
  have hfn:f.1.toNat=(nth r.acs.l e.1).se.l.length:=by omega
  rw [hfn,List.take_length]
  refine Cv (Qe (Qe (Qx (Qc ?_))))
  refine CS.drawnBut 3 (k:=39) mixed rfl rfl rfl ?_
  refine Ar [0,1,2] ?_
  refine Ak 3 [4] rfl (by first | exact Jaa (j:=2) rfl rfl rfl tk9 | exact Jab rfl (by assumption) rfl tk9) ?_
  refine Ak 5 [6] rfl (by first | exact Jaa (j:=3) rfl rfl rfl tk23 | exact Jab rfl (by assumption) rfl tk23) ?_
  refine Ak 7 [] rfl (by first | exact Jaa (j:=2) rfl rfl rfl tk3 | exact Jab rfl (by assumption) rfl tk3) ?_
  refine Ak 8 [] rfl Xc ?_
  refine Ak 9 [12,13,14] rfl Ub ?_
  refine Ak 15 [] rfl (by first | exact Jaa (j:=2) rfl rfl rfl tk43 | exact Jab rfl (by assumption) rfl tk43) ?_
  refine Ak 18 [19] rfl (by first | exact Jad (j:=3) rfl rfl tk32 | exact Jae (j:=3) rfl rfl (by rfl) tk32 | exact Jai rfl (by assumption) (by rfl) tk32 | exact Jaf (n:=8) (j:=3) rfl rfl rfl rfl tk32) ?_
  refine Ak 20 [] rfl (by first | exact Jaa (j:=2) rfl rfl rfl tk30 | exact Jab rfl (by assumption) rfl tk30) ?_
  refine Ak 23 [24,27,28] rfl (by first | exact Jad (j:=3) rfl rfl tk32 | exact Jae (j:=3) rfl rfl (by rfl) tk32 | exact Jai rfl (by assumption) (by rfl) tk32 | exact Jaf (n:=8) (j:=3) rfl rfl rfl rfl tk32) ?_
  refine Ak 29 [32,33] rfl (by first | exact Jaa (j:=2) rfl rfl rfl tk43 | exact Jab rfl (by assumption) rfl tk43) ?_
  refine Ak 34 [] rfl (by first | exact Jaa (j:=2) rfl rfl rfl tk43 | exact Jab rfl (by assumption) rfl tk43) ?_
  refine Ao 10 rfl ?_
  refine WS.buildSs (bs:=[Jk1,(nth r.acs.l e.1).nm,atW,nth r.pls.l (nth r.acs.l e.1).pl]) sl23 zv9 rfl rfl (by decide) (fun _=>rfl) ?_; intro v186 hv186
  refine Wd (Qa ?_)
  refine Ak 11 [] rfl (Cb rfl rfl Jhx (fun u hu=>of_c v186 hv186 u)) ?_
  refine Ao 16 rfl ?_
  refine Wc rfl rfl Jzc (fun u hu=>Jj9 r u (hr.st hu) hF b1 _ (Ja6 hu (j:=5) rfl) (nth r.acs.l e.1).us (hao.us.ext hu.below) hA.us (by omega)) (fun _=>rfl) ?_; intro v192 hv192
  refine Wd (Qa ?_)
  refine Ao 17 rfl ?_
  refine Wc rfl rfl Jkk (fun u hu=>Jgv Jfa ⟨v192,Ja0 r (nth r.acs.l e.1).us.l⟩ u (Jaw hu (j:=0) rfl (fun _ _ ↦ trivial)) (by simp only [Jdp]; omega)) (fun _=>rfl) ?_; intro v193 hv193
  refine Wd (Qa ?_)
  refine Ao 21 rfl ?_
  refine Wc rfl rfl Jkn (fun u hu=>Jg9 r u (hr.st hu) hF (nth r.acs.l e.1).wh (hao.wh.ext hu.below) hcd.1 (by omega)) (fun _=>rfl) ?_; intro v197 hv197
  refine Wd (Qa ?_)
  refine Ao 22 rfl ?_
  refine Wc rfl rfl Jkk (fun u hu=>Jgv ifW ⟨v197,Jaq r (nth r.acs.l e.1).wh.l⟩ u (Jaw hu (j:=0) rfl (fun _ _ ↦ trivial)) (by simp only [Jbf]; omega)) (fun _=>rfl) ?_; intro v198 hv198
  refine Wd (Qa ?_)
  refine Ao 25 rfl ?_
  refine Wc rfl rfl Jkn (fun u hu=>Jg9 r u (hr.st hu) hF ⟨f.2,Jb1 (nth r.acs.l e.1).se.l⟩ (Jaw hu (j:=5) rfl (fun _ _ ↦ trivial)) (Joe hA.se) (by simp only [Jb1,List.length_map]; omega)) (fun _=>rfl) ?_; intro v201 hv201
  refine Wd (Qa ?_)
  refine Ao 26 rfl ?_
  refine Wc rfl rfl Jkk (fun u hu=>Jgv Jc6 ⟨v201,Jaq r (Jb1 (nth r.acs.l e.1).se.l)⟩ u (Jaw hu (j:=0) rfl (fun _ _ ↦ trivial)) (by simp only [Jbf,Jb1,List.length_map]; omega)) (fun _=>rfl) ?_; intro v202 hv202
  refine Wd (Qa ?_)
  refine Ao 30 rfl ?_
  refine Wc rfl rfl Jzc (fun u hu=>Jj9 r u (hr.st hu) hF b1 _ (Ja6 hu (j:=11) rfl) (nth r.acs.l e.1).sp (hao.sp.ext hu.below) hA.sp (by omega)) (fun _=>rfl) ?_; intro v206 hv206
  refine Wd (Qa ?_)
  refine Ao 31 rfl ?_
  refine Wc rfl rfl Jkk (fun u hu=>Jgv Jb0 ⟨v206,Ja0 r (nth r.acs.l e.1).sp.l⟩ u (Jaw hu (j:=0) rfl (fun _ _ ↦ trivial)) (by simp only [Jdp]; omega)) (fun _=>rfl) ?_; intro v207 hv207
  refine Wd (Qa ?_)
  refine Ao 35 rfl ?_
  refine Wc rfl rfl Jzc (fun u hu=>Jj9 r u (hr.st hu) hF b1 _ (Ja6 hu (j:=13) rfl) (nth r.acs.l e.1).br (hao.br.ext hu.below) hA.br (by omega)) (fun _=>rfl) ?_; intro v211 hv211
  refine Wd (Qa ?_)
  refine Ao 36 rfl ?_
  refine Wc rfl rfl Jkk (fun u hu=>Jgv Jbu ⟨v211,Ja0 r (nth r.acs.l e.1).br.l⟩ u (Jaw hu (j:=0) rfl (fun _ _ ↦ trivial)) (by simp only [Jdp]; omega)) (fun _=>rfl) ?_; intro v212 hv212
  refine Wd (Qa ?_)
  refine Ao 37 rfl ?_
  refine WS.buildSss (bs:=[⟨v186,[Jk1,(nth r.acs.l e.1).nm,atW,nth r.pls.l (nth r.acs.l e.1).pl]⟩,⟨lk,Jfl (nth r.acs.l e.1).lk⟩,⟨v193,Jav Jfa (Ja0 r (nth r.acs.l e.1).us.l)⟩,⟨v198,Jav ifW (Jaq r (nth r.acs.l e.1).wh.l)⟩,⟨v202,Jav Jc6 (Jaq r (Jb1 (nth r.acs.l e.1).se.l))⟩,⟨v207,Jav Jb0 (Ja0 r (nth r.acs.l e.1).sp.l)⟩,⟨v212,Jav Jbu (Ja0 r (nth r.acs.l e.1).br.l)⟩]) sl82 zv23 rfl rfl (by decide) (fun s hs_=>by
   simp only [List.mem_cons,List.not_mem_nil,or_false] at hs_
   rcases hs_ with rfl | rfl | rfl | rfl | rfl | rfl | rfl <;> assumption) (fun _=>rfl) ?_; intro v213
  refine Wd (Qa ?_)
  refine Ao 38 rfl ?_
  refine WS.callP rfl rfl Jkd (fun u hu=>Jef (hu.sel [15,0,0,0,0,0,0,0,0,0,0,0,0,0,0,0,0] rfl) v213 [⟨v186,[Jk1,(nth r.acs.l e.1).nm,atW,nth r.pls.l (nth r.acs.l e.1).pl]⟩,⟨lk,Jfl (nth r.acs.l e.1).lk⟩,⟨v193,Jav Jfa (Ja0 r (nth r.acs.l e.1).us.l)⟩,⟨v198,Jav ifW (Jaq r (nth r.acs.l e.1).wh.l)⟩,⟨v202,Jav Jc6 (Jaq r (Jb1 (nth r.acs.l e.1).se.l))⟩,⟨v207,Jav Jb0 (Ja0 r (nth r.acs.l e.1).sp.l)⟩,⟨v212,Jav Jbu (Ja0 r (nth r.acs.l e.1).br.l)⟩] (fun u hu=>Jaw (C:=cSl cStr) hu (j:=1) rfl (Jbe (Jaw hu (j:=12) rfl (fun _ _=>trivial)) (Jbe (Jaw hu (j:=14) rfl (fun _ _=>trivial)) (Jbe (Jaw hu (j:=10) rfl (fun _ _=>trivial)) (Jbe (Jaw hu (j:=8) rfl (fun _ _=>trivial)) (Jbe (Jaw hu (j:=6) rfl (fun _ _=>trivial)) (Jbe (Jaw hu (j:=4) rfl (fun _ _=>trivial)) (Jbe (Jaw hu (j:=2) rfl (fun _ _=>trivial)) (Jg5))))))))) (ws:=actF r (nth r.acs.l e.1)) (by simp [catL,actF,List.append_assoc]) (Jh4 hF ham) (by decide) (by have hbz:=hze; omega)) (fun _=>rfl) (fun hq u hu=>hq.elim) ?_; rintro y hy
  refine Wd (Qa ?_)
  refine Ae ?_
  refine Qb (Qc (Ny 0 ?_))
  refine Wk 1 Za ?_
  refine Wd ?_
  refine QS.sel [0,15] rfl ?_
  exact QS.head ((e.1+1,y)) rfl rfl ⟨⟨by simp; omega,by simp; omega,by show y.bs=_; rw [hy,he3]; exact (Jbr he1 (by omega)).symm⟩,by simp; omega⟩
 have en:e.1.toNat=r.acs.l.length:=by omega
 rw [en,List.take_length] at he3
 replace he3:e.2.bs=Jbc (pf5 r):=he3
 refine Cv (Qe (Qe (Qx (Qc (Cs (Nz 1 ?_))))))
 refine Wk 0 (by first | exact Jaa (j:=1) rfl rfl rfl tk28 | exact Jab rfl (by assumption) rfl tk28) ?_
 refine Wk 1 Nc ?_
 refine Wd (Qc (Ce ?_))
 refine CS.loopM (σ:=Int × Bld) [25,220,221,222,223,224,225,226,227,228,229,230,231,232,233,234,235,236,237,238,239,240,241,242,243,244] (fun s=>[(219,.int .i64 s.1)]) (fun s=>[bldr b5 s.2,blk b1 (Room.cells r) 32]) (fun s=>0≤s.1∧s.1≤r.aus.l.length∧s.2.bs=Jbc (pf5 r++(r.aus.l.take s.1.toNat).map (Jen r))) (fun s=>(r.aus.l.length - s.1).toNat) (0,e.2) (fun _ _=>rfl) rfl rfl ⟨by simp,by simp,by show e.2.bs=Jbc (_++[]); rw [List.append_nil]; exact he3⟩ ?_
 intro k t hs
 obtain ⟨hk1,hk2,hk3⟩:=hs
 refine Nz 1 ?_
 refine Wd (Qc (Cs (CS.cond rfl ?_ ?_)))<;>intro hc10<;>try simp only [bq] at hc10
 ·
  obtain ⟨q_k,hq_k⟩:=fmt6 r
  have hzk:=Jci hF hq_k k.1.toNat
  rw [← hk3] at hzk
  have hum:=Jak hk1 (show k.1 < (r.aus.l.length:Int) by omega)
  have hcd:=Ja9 (hF.cau _ hum)
  have hpo:=(hr.aus.at hk1 (show k.1 < (r.aus.l.length:Int) by omega)).ext (Below.refl _ w)
  refine Ck (Qc (Cs (Ce (Nz 0 ?_))))
  refine Wk 0 Xc ?_
  refine Wk 0 Ua ?_
  refine Wl 0 zv77 (fun _=>rfl) (fun _=>rfl) fun b25 hb25=>?_
  refine Wv 0 0 ?_
  refine Wd (Qc ?_)
  refine CS.drawnBut 1 (k:=21) mixed rfl rfl rfl ?_
  refine Ar [0,1] ?_
  refine Ak 4 [5,6] rfl (by first | exact Jad (j:=1) rfl rfl tk32 | exact Jae (j:=1) rfl rfl (by rfl) tk32 | exact Jai rfl (by assumption) (by rfl) tk32 | exact Jaf (n:=8) (j:=1) rfl rfl rfl rfl tk32) ?_
  refine Ak 7 [8,9] rfl (by first | exact Jaa (j:=0) rfl rfl rfl tk3 | exact Jab rfl (by assumption) rfl tk3) ?_
  refine Ak 10 [] rfl (by first | exact Jaa (j:=0) rfl rfl rfl tk3 | exact Jab rfl (by assumption) rfl tk3) ?_
  refine Ak 11 [] rfl (Db Jsx zv96) ?_
  refine Ak 14 [15] rfl (by first | exact Jad (j:=1) rfl rfl tk32 | exact Jae (j:=1) rfl rfl (by rfl) tk32 | exact Jai rfl (by assumption) (by rfl) tk32 | exact Jaf (n:=8) (j:=1) rfl rfl rfl rfl tk32) ?_
  refine Ak 16 [] rfl (by first | exact Jaa (j:=0) rfl rfl rfl tk30 | exact Jab rfl (by assumption) rfl tk30) ?_
  refine AS.two (i:=2) (j:=12) (by kernel_rfl) rfl rfl (by first | exact fun _ h=>h | exact fun _ h=>h.sub (by repeat first | exact List.Sublist.refl _ | apply List.Sublist.cons_cons | apply List.Sublist.cons)) rfl rfl ?_ ?_
  ·
   refine WS.buildSs (bs:=[Jfr]) sl23 zv9 rfl rfl (by decide) (fun _=>rfl) ?_; intro v225 hv225
   refine Wd (Qa ?_)
   refine Ak 3 [] rfl (Cb rfl rfl Jhx (fun u hu=>of_c v225 hv225 u)) ?_
   refine Ao 12 rfl ?_
   refine WS.buildT1 cLit (a:=⟨(nth r.aus.l k.1).t,(nth r.aus.l k.1).s,false⟩) sl30 zv96 rfl (by decide) (fun _=>rfl) ?_; intro v235
   refine Wd (Qa ?_)
   refine Ao 13 rfl ?_
   refine Wc rfl rfl Jkn (fun u hu=>Jg9 r u (hr.st hu) hF ⟨v235,[⟨(nth r.aus.l k.1).t,(nth r.aus.l k.1).s,false⟩]⟩ (Jaw hu (j:=0) rfl (fun _ _ ↦ trivial)) (fun y hy ↦ by rw [List.mem_singleton] at hy; subst hy; exact hF.rd.aut _ hum) (by simp)) (fun _=>rfl) ?_; intro v236 hv236
   refine Wd (Qa ?_)
   refine Ao 17 rfl ?_
   refine Wc rfl rfl Jkn (fun u hu=>Jg9 r u (hr.st hu) hF (nth r.aus.l k.1).wh ((hr.aus.at hk1 (show k.1 < (r.aus.l.length:Int) by omega)).ext hu.below) hcd.1 (by omega)) (fun _=>rfl) ?_; intro v240 hv240
   refine Wd (Qa ?_)
   refine Ao 18 rfl ?_
   refine Wc rfl rfl Jkk (fun u hu=>Jgv ifW ⟨v240,Jaq r (nth r.aus.l k.1).wh.l⟩ u (Jaw hu (j:=0) rfl (fun _ _ ↦ trivial)) (by simp only [Jbf]; omega)) (fun _=>rfl) ?_; intro v241 hv241
   refine Wd (Qa ?_)
   refine Ao 19 rfl ?_
   refine WS.buildSss (bs:=[⟨v225,[Jfr]⟩,⟨v236,Jaq r [⟨(nth r.aus.l k.1).t,(nth r.aus.l k.1).s,false⟩]⟩,⟨v241,Jav ifW (Jaq r (nth r.aus.l k.1).wh.l)⟩]) sl82 zv23 rfl rfl (by decide) (fun s hs_=>by
    simp only [List.mem_cons,List.not_mem_nil,or_false] at hs_
    rcases hs_ with rfl | rfl | rfl <;> assumption) (fun _=>rfl) ?_; intro v242
   refine Wd (Qa ?_)
   refine Ao 20 rfl ?_
   refine WS.callP rfl rfl Jkd (fun u hu=>Jef (hu.sel [7,0,0,0,0,1,0,0,0] rfl) v242 [⟨v225,[Jfr]⟩,⟨v236,Jaq r [⟨(nth r.aus.l k.1).t,(nth r.aus.l k.1).s,false⟩]⟩,⟨v241,Jav ifW (Jaq r (nth r.aus.l k.1).wh.l)⟩] (fun u hu=>Jaw (C:=cSl cStr) hu (j:=1) rfl (Jbe (Jaw hu (j:=5) rfl (fun _ _=>trivial)) (Jbe (Jaw hu (j:=4) rfl (fun _ _=>trivial)) (Jbe (Jaw hu (j:=2) rfl (fun _ _=>trivial)) (Jg5))))) (ws:=Jen r (nth r.aus.l k.1)) (by simp [catL,Jen,List.append_assoc]) (Je2 hF hum) (by decide) (by have hbz:=hzk; omega)) (fun _=>rfl) (fun hq u hu=>hq.elim) ?_; rintro y hy
   refine Wd (Qa ?_)
   refine Ae ?_
   refine Qb (Qc (Ny 0 ?_))
   refine Wk 1 Za ?_
   refine Wd ?_
   refine QS.sel [0,7] rfl ?_
   exact QS.head ((k.1+1,y)) rfl rfl ⟨⟨by simp; omega,by simp; omega,by show y.bs=_; rw [hy,hk3]; exact (Jbr hk1 (by omega)).symm⟩,by simp; omega⟩
  refine WS.buildT1 cLit (a:=⟨(nth r.aus.l k.1).t,(nth r.aus.l k.1).s,false⟩) sl30 zv96 rfl (by decide) (fun _=>rfl) ?_; intro v235
  refine Wd (Qa ?_)
  refine Ao 2 rfl ?_
  refine WS.buildSs (bs:=[Jfr]) sl23 zv9 rfl rfl (by decide) (fun _=>rfl) ?_; intro v225 hv225
  refine Wd (Qa ?_)
  refine Ak 3 [] rfl (Cb rfl rfl Jhx (fun u hu=>of_c v225 hv225 u)) ?_
  refine Ao 13 rfl ?_
  refine Wc rfl rfl Jkn (fun u hu=>Jg9 r u (hr.st hu) hF ⟨v235,[⟨(nth r.aus.l k.1).t,(nth r.aus.l k.1).s,false⟩]⟩ (Jaw hu (j:=1) rfl (fun _ _ ↦ trivial)) (fun y hy ↦ by rw [List.mem_singleton] at hy; subst hy; exact hF.rd.aut _ hum) (by simp)) (fun _=>rfl) ?_; intro v236 hv236
  refine Wd (Qa ?_)
  refine Ao 17 rfl ?_
  refine Wc rfl rfl Jkn (fun u hu=>Jg9 r u (hr.st hu) hF (nth r.aus.l k.1).wh ((hr.aus.at hk1 (show k.1 < (r.aus.l.length:Int) by omega)).ext hu.below) hcd.1 (by omega)) (fun _=>rfl) ?_; intro v240 hv240
  refine Wd (Qa ?_)
  refine Ao 18 rfl ?_
  refine Wc rfl rfl Jkk (fun u hu=>Jgv ifW ⟨v240,Jaq r (nth r.aus.l k.1).wh.l⟩ u (Jaw hu (j:=0) rfl (fun _ _ ↦ trivial)) (by simp only [Jbf]; omega)) (fun _=>rfl) ?_; intro v241 hv241
  refine Wd (Qa ?_)
  refine Ao 19 rfl ?_
  refine WS.buildSss (bs:=[⟨v225,[Jfr]⟩,⟨v236,Jaq r [⟨(nth r.aus.l k.1).t,(nth r.aus.l k.1).s,false⟩]⟩,⟨v241,Jav ifW (Jaq r (nth r.aus.l k.1).wh.l)⟩]) sl82 zv23 rfl rfl (by decide) (fun s hs_=>by
   simp only [List.mem_cons,List.not_mem_nil,or_false] at hs_
   rcases hs_ with rfl | rfl | rfl <;> assumption) (fun _=>rfl) ?_; intro v242
  refine Wd (Qa ?_)
  refine Ao 20 rfl ?_
  refine WS.callP rfl rfl Jkd (fun u hu=>Jef (hu.sel [7,0,0,0,0,0,0,0,0] rfl) v242 [⟨v225,[Jfr]⟩,⟨v236,Jaq r [⟨(nth r.aus.l k.1).t,(nth r.aus.l k.1).s,false⟩]⟩,⟨v241,Jav ifW (Jaq r (nth r.aus.l k.1).wh.l)⟩] (fun u hu=>Jaw (C:=cSl cStr) hu (j:=1) rfl (Jbe (Jaw hu (j:=5) rfl (fun _ _=>trivial)) (Jbe (Jaw hu (j:=4) rfl (fun _ _=>trivial)) (Jbe (Jaw hu (j:=2) rfl (fun _ _=>trivial)) (Jg5))))) (ws:=Jen r (nth r.aus.l k.1)) (by simp [catL,Jen,List.append_assoc]) (Je2 hF hum) (by decide) (by have hbz:=hzk; omega)) (fun _=>rfl) (fun hq u hu=>hq.elim) ?_; rintro y hy
  refine Wd (Qa ?_)
  refine Ae ?_
  refine Qb (Qc (Ny 0 ?_))
  refine Wk 1 Za ?_
  refine Wd ?_
  refine QS.sel [0,7] rfl ?_
  exact QS.head ((k.1+1,y)) rfl rfl ⟨⟨by simp; omega,by simp; omega,by show y.bs=_; rw [hy,hk3]; exact (Jbr hk1 (by omega)).symm⟩,by simp; omega⟩
 have kn:k.1.toNat=r.aus.l.length:=by omega
 rw [kn,List.take_length] at hk3
 replace hk3:k.2.bs=Jbc (pf6 r):=hk3
 have hzk:=Jpi hF (Jfq r)
 rw [← hk3] at hzk
 have hcg:=Ja9 hF.cgl
 refine Cv (Qe (Qe (Qx (Qc (Nz 3 ?_)))))
 refine Wk 0 (by first | exact Jaa (j:=1) rfl rfl rfl tk3 | exact Jab rfl (by assumption) rfl tk3) ?_
 refine Wk 0 (Cb rfl rfl Ju5 (fun u hu=>Jll _ u ⟨by omega,by omega⟩)) ?_
 refine WS.buildSs (bs:=[Jcg,digB r.ply]) sl23 zv9 rfl rfl (by decide) (fun _=>rfl) ?_; intro v250 hv250
 refine Wk 0 (Cb rfl rfl Jhx (fun u hu=>of_c v250 hv250 u)) ?_
 refine WS.buildSss (bs:=[⟨v250,[Jcg,digB r.ply]⟩]) sl82 zv23 rfl rfl (by decide) (fun s hs_=>by
  simp only [List.mem_cons,List.not_mem_nil,or_false] at hs_
  rcases hs_ with rfl <;> assumption) (fun _=>rfl) ?_; intro v252
 refine WS.callP rfl rfl Jkd (fun u hu=>Jef (hu.sel [2,0,0,0] rfl) v252 [⟨v250,[Jcg,digB r.ply]⟩] (fun u hu=>Jaw (C:=cSl cStr) hu (j:=1) rfl (Jbe (Jaw hu (j:=2) rfl (fun _ _=>trivial)) (Jg5))) (ws:=[Jcg,digB r.ply]) (by simp [catL,List.append_nil,List.append_assoc]) (Jet hF _ (by simp [Jiz])) (by decide) (by have hbz:=hzk; omega)) (fun _=>rfl) (fun hq u hu=>hq.elim) ?_; rintro y hy
 have hzy:y.bs.size≤40000:=by
  rw [hy,hk3, ← Jgi]
  exact Jpi hF (b:=[[Jem]++Jaq r r.gl.l]) (by rw [Jfq,List.append_assoc]; rfl)
 refine Wd (Qc (Cs ?_))
 refine CS.drawnBut 0 (k:=10) mixed rfl rfl rfl ?_
 refine Ar [0,1] ?_
 refine Ak 4 [5] rfl (by first | exact Jad (j:=2) rfl rfl tk32 | exact Jae (j:=2) rfl rfl (by rfl) tk32 | exact Jai rfl (by assumption) (by rfl) tk32 | exact Jaf (n:=8) (j:=2) rfl rfl rfl rfl tk32) ?_
 refine Ak 6 [] rfl (by first | exact Jaa (j:=2) rfl rfl rfl tk30 | exact Jab rfl (by assumption) rfl tk30) ?_
 refine Ao 2 rfl ?_
 refine WS.buildSs (bs:=[Jem]) sl23 zv9 rfl rfl (by decide) (fun _=>rfl) ?_; intro v256 hv256
 refine Wd (Qa ?_)
 refine Ak 3 [] rfl (Cb rfl rfl Jhx (fun u hu=>of_c v256 hv256 u)) ?_
 refine Ao 7 rfl ?_
 refine Wc rfl rfl Jkn (fun u hu=>Jg9 r u (hr.st hu) hF r.gl (hr.gl.ext hu.below) hcg.1 (by omega)) (fun _=>rfl) ?_; intro v261 hv261
 refine Wd (Qa ?_)
 refine Ao 8 rfl ?_
 refine WS.buildSss (bs:=[⟨v256,[Jem]⟩,⟨v261,Jaq r r.gl.l⟩]) sl82 zv23 rfl rfl (by decide) (fun s hs_=>by
  simp only [List.mem_cons,List.not_mem_nil,or_false] at hs_
  rcases hs_ with rfl | rfl <;> assumption) (fun _=>rfl) ?_; intro v262
 refine Wd (Qa ?_)
 refine Ao 9 rfl ?_
 refine WS.callP rfl rfl Jkd (fun u hu=>Jef (hu.sel [3,0,0,0,0,0,0] rfl) v262 [⟨v256,[Jem]⟩,⟨v261,Jaq r r.gl.l⟩] (fun u hu=>Jaw (C:=cSl cStr) hu (j:=1) rfl (Jbe (Jaw hu (j:=3) rfl (fun _ _=>trivial)) (Jbe (Jaw hu (j:=2) rfl (fun _ _=>trivial)) (Jg5)))) (ws:=[Jem]++Jaq r r.gl.l) (by simp [catL,List.append_nil,List.append_assoc]) (Jet hF _ (by simp [Jiz])) (by decide) (by have hbz:=hzy; omega)) (fun _=>rfl) (fun hq u hu=>hq.elim) ?_; rintro y2 hy2
 refine Wd (Qa ?_)
 refine Ae ?_
 refine Qc (Cs ?_)
 refine CS.sel [0] rfl ?_
 refine Ny 0 ?_
 refine WS.callP rfl rfl J34 (fun u hu=>Ju7 b5 y2 hu) (fun _=>rfl) (fun hq u hu=>hq.elim) ?_; rintro ⟨⟩ _
 refine Wz 2 ?_
 exact Wd (Qc (Cr (out2 rfl rfl rfl (Jah (by unfold Jbi; rw [if_pos hE,Jpp, ← hk3, ← hy, ← hy2])))))
end Go.Proofs.YtkekjhcmephhjaaGreatDoor
