/- Merged texts of this proof (walks and plain laws), printed by a program of the prover. -/
import Derived.Test.YtkekjhcmephhjaaGreatDoorZl
set_option maxHeartbeats 8000000
namespace Go.Proofs.YtkekjhcmephhjaaGreatDoor
open Go.RowKit Go.Proofs
set_option maxRecDepth 100000
set_option linter.unusedVariables false
set_option linter.unusedSimpArgs false
theorem Jih {α:Type} [Inhabited α] {l:List α} {i:Int} (h0:0≤i) (h1:i < l.length):l.drop i.toNat=nth l i::l.drop (i+1).toNat:=by
 have hl:i.toNat < l.length:=by omega
 rw [List.drop_eq_getElem_cons hl,show (i+1).toNat=i.toNat+1 by omega]
 simp [nth,List.getD,hl]
theorem rm0 {n0:Nat} {w0 u:World} {rb:Nat} {A B:SA} (h:St n0 w0 [blk rb (Room.cells room0) 32,A,B] u):St n0 w0 [rm rb room0,A,B] u:=by
 have h0:=(h.osl0 (e:=96) (size:=3)).roTrue (p:=el4 room0) (fun u=>⟨fun _ h=>(by cases h),fun _ h=>(by cases h),fun _ h=>(by cases h),fun _ h=>(by cases h)⟩)
 have h1:=(((((h0.osl0 (e:=77) (size:=3)).osl0 (e:=73) (size:=8)).osl0 (e:=69) (size:=3)).osl0 (e:=67) (size:=3)).osl0 (e:=65) (size:=4)).osl0 (e:=9) (size:=1)
 exact St.pack (L1:=Jbo rb room0) (h1.sel [8,0,0,0,0,0,0,0,0,0,0] rfl)
theorem Jqu {L:List SA} {S:Nat→Prop} {u:World} {rb:Nat} {r:Room} (h:Star (Jbo rb r++L) S u):RoomOk u r:=by
 have he:el4 r u:=Star.ro (L:=Jbo rb r++L) (j:=7) rfl h
 exact ⟨⟨Star.osl (L:=Jbo rb r++L) (j:=1) rfl h,fun _ _=>trivial⟩,⟨Star.osl (L:=Jbo rb r++L) (j:=2) rfl h,fun _ _=>trivial⟩,⟨Star.osl (L:=Jbo rb r++L) (j:=3) rfl h,he.1⟩,⟨Star.osl (L:=Jbo rb r++L) (j:=4) rfl h,he.2.1⟩,
  ⟨Star.osl (L:=Jbo rb r++L) (j:=5) rfl h,he.2.2.1⟩,⟨Star.osl (L:=Jbo rb r++L) (j:=6) rfl h,he.2.2.2⟩,⟨Star.osl (L:=Jbo rb r++L) (j:=8) rfl h,fun _ _=>trivial⟩⟩
theorem St.rmOk {n0:Nat} {w0 u:World} {L:List SA} {rb:Nat} {r:Room} (h:St n0 w0 (Jbo rb r++L) u):RoomOk u r:=Jqu h.star
theorem Jrp {w0 u:World} {L:List SA} {x:Room × Int × Int} {rb:Nat} {r rp:Room} (hx:x=(rp,0,0)) (he:r.e=rp.e) (hu:St w0.heap.size w0 (Jbo rb r++L) u):Jer w0 x (.returned (.tuple #[.agg (Room.cells r).toArray,.int .i64 0,.int .i64 0])) u:=by
 subst hx
 exact ⟨r,⟨he,u,hu.rmOk⟩,retR (p:=fun u=>RoomOk u r) (fun _ u h=>Jqu h) u hu⟩
structure PrJ (t0:ByteArray) (r:Room) (kd i:Int) (rp:Room):Prop where
 e:r.e=rp.e
 v:Jgg t0=Jc7 rp kd i ((Jaf 10 t0).drop i.toNat)
 i0:0≤i
 i1:i≤(Jaf 10 t0).length - 1
 j:RdJ i.toNat rp
 k:0≤kd∧kd≤7
 gl:kd≤6→r.gl.l=[]
theorem PrJ.start (t0:ByteArray):PrJ t0 room0 0 0 room0:=⟨rfl,rfl,by omega,by have:=Jcw 10 t0; omega,RdJ.zero,by decide,fun _=>rfl⟩
theorem Jrb {r:Room} {kd k:Int} {t:ByteArray} {x:Ln} (h0:0≤kd) (h:Jbl r kd t=some (k,x)) (hk:k≤6):∀ c,x ≠ .goal c:=by
 intro c hx
 subst hx
 unfold Jbl at h
 obtain ⟨⟨a,ws⟩,h1,h2⟩:=Option.bind_eq_some_iff.1 h
 simp only at h2
 split at h2
 ·
  rename_i hm
  obtain ⟨⟨y,z⟩,h3,h4⟩:=Option.bind_eq_some_iff.1 h2
  split at h4
  ·
   cases h4
   unfold Ja0 at h3
   split at h3
   ·
    obtain ⟨_,_,h5⟩:=Option.map_eq_some_iff.1 h3; cases h5
   split at h3
   ·
    simp only [Jcl,Option.bind_eq_some_iff,Option.map_eq_some_iff] at h3
    obtain ⟨_,_,_,_,_,_,_,_,_,_,_,_,_,_,h5⟩:=h3; cases h5
   split at h3
   ·
    simp only [Jhs,Option.bind_eq_some_iff,Option.map_eq_some_iff] at h3
    obtain ⟨_,_,_,_,_,_,h5⟩:=h3; cases h5
   split at h3
   ·
    simp only [wayW,Option.bind_eq_some_iff,Option.map_eq_some_iff] at h3
    obtain ⟨_,_,_,_,_,_,h5⟩:=h3; cases h5
   split at h3
   ·
    simp only [actW,Option.bind_eq_some_iff,Option.map_eq_some_iff] at h3
    obtain ⟨_,_,_,_,_,_,_,_,_,_,_,_,_,_,_,_,_,_,h5⟩:=h3; cases h5
   split at h3
   ·
    simp only [Jgo,Option.bind_eq_some_iff] at h3
    obtain ⟨_,_,_,_,h5⟩:=h3
    split at h5
    ·
     cases h5
    obtain ⟨_,_,h6⟩:=Option.map_eq_some_iff.1 h5; cases h6
   split at h3
   ·
    obtain ⟨_,_,h5⟩:=Option.map_eq_some_iff.1 h3; cases h5
   have h8:=Jkr a
   simp only [mayK,Bool.and_eq_true,decide_eq_true_eq] at hm
   omega
  cases h4
 cases h2
theorem Jvg {r:Room} {x:Ln} (h:∀ c,x ≠ .goal c):(addL r x).gl=r.gl:=by
 cases x with
 | goal c=>exact absurd rfl (h c)
 | _=>rfl
theorem PrJ.next {t0:ByteArray} {r r1:Room} {kd i k:Int} {rp:Room} {x:Ln} (h:PrJ t0 r kd i rp) (ht:t0.size≤5000) (hi:i < (Jaf 10 t0).length - 1) (hl:Jbl r kd (nth (Jaf 10 t0) i)=some (k,x)) (he:r1.e=(addL r x).e):PrJ t0 r1 k (i+1) (addL rp x):=by
 have hi0:=h.i0
 have hl2:Jbl rp kd (nth (Jaf 10 t0) i)=some (k,x):=by rw [← Jfw h.e]; exact hl
 have hkk:=Jhw hl
 have hk0:=h.k
 have hm:=Jap (xs:=Jaf 10 t0) hi0 (by omega)
 have hsz:=Jdc hm
 refine ⟨he.trans (Jpo h.e x),?_,by omega,by omega,?_,by omega,fun h6=>?_⟩
 ·
  rw [h.v,Jih hi0 (by omega),Ji4 (by rw [List.length_drop]; omega) hl2]
 ·
  rw [show (i+1).toNat=i.toNat+1 by omega]
  exact h.j.add x fun nm hn=>Nat.le_trans (Jmi hl nm hn) (by omega)
 have e1:r1.gl.l.map id=(addL r x).gl.l.map id:=congrArg (fun z:Room=>z.gl.l) he
 rw [Jvg (Jrb hk0.1 hl h6),h.gl (by omega)] at e1
 simpa using e1
theorem PrJ.bad {t0:ByteArray} {r:Room} {kd i:Int} {rp:Room} (h:PrJ t0 r kd i rp) (hi:i < (Jaf 10 t0).length - 1) (hl:Jbl r kd (nth (Jaf 10 t0) i)=none):Jgg t0=(room0,i+1,4):=by
 have hi0:=h.i0
 rw [h.v,Jih hi0 (by omega),Jjh (by rw [List.length_drop]; omega) (by rw [← Jfw h.e]; exact hl)]
theorem PrJ.last {t0:ByteArray} {r:Room} {kd i:Int} {rp:Room} (h:PrJ t0 r kd i rp) (hi:i=(Jaf 10 t0).length - 1):Jgg t0=if seq (nth (Jaf 10 t0) i) ⟨#[]⟩ then finP rp kd i else (room0,i+1,4):=by
 have hi0:=h.i0
 rw [h.v,Jih hi0 (by omega),List.drop_of_length_le (by omega),Jd5]
theorem PrJ.rdb {t0:ByteArray} {r:Room} {kd i:Int} {rp:Room} (h:PrJ t0 r kd i rp) (ht:t0.size≤5000):RdB 65536 r:=by
 have:=h.j.en h.e
 have hi1:=h.i1
 have hl:=Jca 10 t0
 exact ⟨Nat.le_trans this.pls (by omega),Nat.le_trans this.ths (by omega),Nat.le_trans this.prs (by omega),Nat.le_trans this.wys (by omega),Nat.le_trans this.acs (by omega),Nat.le_trans this.aus (by omega)⟩
theorem Jr9 (t0:ByteArray) (w:World) (ht:t0.size≤5000) :
  Calls Tryz.prog 7 #[.string t0] w (Jer w (Jgg t0)):=by
 refine enter Tryz.func7 rfl rfl (Nat.le_of_ble_eq_true rfl) ?_
 refine Nz 0 ?_
 refine Wl 2 zv32 (fun _=>rfl) (fun _=>rfl) fun b2 hb2=>?_
 refine Wd (Qc (Cs (Nz 1 ?_)))
 refine Wk 1 (Jau Tryz.underlying9 rfl) ?_
 refine Wd (Qc (CS.cond rfl ?_ ?_))<;>intro hc1<;>try simp only [bq] at hc1
 ·
  exact absurd hc1 (by omega)
 refine Ck (Qc (Nz 1 ?_))
 refine Wc rfl rfl Jyp (fun u hu=>Jlb t0 10 u (by omega)) (fun _=>rfl) ?_; rintro v16 ⟨u16,hv16⟩
 have hv16o:v16.oneCell'=true:=Sl.one hv16
 have hsl:=Jca 10 t0
 have hsp:=Jcw 10 t0
 refine Wz 1 ?_
 refine Wd (Qc (Nz 1 ?_))
 refine Wk 0 (Nc (s:=⟨v16,Jaf 10 t0⟩)) ?_
 refine Wk 1 (Jj3 rfl rfl (by show -9223372036854775808≤((Jaf 10 t0).length:Int) - 1∧((Jaf 10 t0).length:Int) - 1≤9223372036854775807; omega)) ?_
 refine Wd (Qc (Nz 0 ?_))
 refine Wk 0 (Db Jif zv32) ?_
 refine Wb 1 rfl rfl (fun _=>rfl) (fun _=>rfl) fun b21 hb21=>?_
 refine Wd (Qc (Nz 1 ?_))
 refine Wd (Qc (Cs (Nz 1 ?_)))
 refine Wd (Qc (Ce ?_))
 refine CS.weak (fun u hu=>rm0 hu) ?_
 refine CS.loopM (σ:=Room × Int × Int) [3,4,22,23,24,25,26,27,28,29,30,31,32,33,34,35,36,37,38] (fun s=>[(8,.int .i64 s.2.1),(9,.int .i64 s.2.2)]) (fun s=>[rm b21 s.1,roT cStr ⟨v16,Jaf 10 t0⟩,blk b2 (Room.cells room0) 32]) (fun s=>∃ rp,PrJ t0 s.1 s.2.1 s.2.2 rp) (fun s=>((Jaf 10 t0).length - 1 - s.2.2).toNat) (room0,0,0) (fun _ _=>rfl) rfl rfl ⟨_,PrJ.start t0⟩ ?_
 intro q t hs
 obtain ⟨rp,hqi⟩:=hs
 have hi0:=hqi.i0
 have hi1:=hqi.i1
 refine Cs (Nz 3 ?_)
 refine Wd (Qc (CS.cond rfl ?_ ?_))<;>intro hc2<;>try simp only [bq] at hc2
 ·
  refine Ck (Qc (Cs (Ce (Nz 3 ?_))))
  refine Wk 0 (Xc (s:=⟨v16,Jaf 10 t0⟩) (h1:=by show q.2.2 < ((Jaf 10 t0).length:Int); omega)) ?_
  refine Wk 1 (Vb 1 rfl (s:=⟨v16,Jaf 10 t0⟩) (h:=⟨by omega,by show q.2.2 < ((Jaf 10 t0).length:Int); omega⟩)) ?_
  refine WS.callP rfl rfl Jzl (fun u hu=>RetX.ls (Jxl (star _) b21 q.1 (St.tailPack hu) (nth (Jaf 10 t0) q.2.2) (by have:=Jdc (Jap (xs:=Jaf 10 t0) hi0 (by omega)); omega) q.2.1 hqi.k (hqi.rdb ht) hqi.gl)) (fun _=>rfl) (fun hq u hu=>hq.elim) ?_; rintro ⟨r1,k⟩ hk
  replace hk:(k = -1∧Jbl q.1 q.2.1 (nth (Jaf 10 t0) q.2.2)=none)∨∃ ln,Jbl q.1 q.2.1 (nth (Jaf 10 t0) q.2.2)=some (k,ln)∧r1.e=(addL q.1 ln).e:=hk
  refine Wz 1 ?_
  refine Wd (Qc (Nz 2 ?_))
  refine Wd (Qc (CS.cond rfl ?_ ?_))<;>intro hc3<;>try simp only [bq] at hc3
  ·
   have hbad:=hqi.bad (by omega) (by rcases hk with ⟨_,h⟩ | ⟨ln,h,_⟩; exact h; exact absurd (Jhw h).1 (by have:=hqi.k; omega))
   refine Nz 0 ?_
   refine Wk 1 (Db Jif zv32) ?_
   refine Wk 0 Za ?_
   refine Wv 2 2 ?_
   exact Wd (Qc (Cr (Qs (Qr (Qr (Qs (Qr (outR (Jee rfl (Jaz (j:=2) rfl rfl tk32) rfl rfl) (fun u hu=>Jch hbad hu)))))))))
  obtain ⟨ln,hln,hle⟩:∃ ln,Jbl q.1 q.2.1 (nth (Jaf 10 t0) q.2.2)=some (k,ln)∧r1.e=(addL q.1 ln).e:=by
   rcases hk with ⟨h,_⟩ | h
   ·
    omega
   exact h
  refine Ck (Qb (Qc (Ny 1 ?_)))
  refine Wk 1 Za ?_
  exact Wd (QS.head ((r1,k,q.2.2+1)) rfl rfl ⟨⟨_,hqi.next ht (by omega) hln hle⟩,by simp only; omega⟩)
 have hlast:=hqi.last (by omega)
 have hqe:q.2.2=(Jaf 10 t0).length - 1:=by omega
 rw [hqe] at hlast
 refine Cv (Qe (Qe (Qx (Qc (Cs (Nz 2 ?_))))))
 refine Wk 0 (Xc (s:=⟨v16,Jaf 10 t0⟩) (h1:=by show (((Jaf 10 t0).length:Int) - 1) < ((Jaf 10 t0).length:Int); omega) (h0:=by show (0:Int)≤((Jaf 10 t0).length:Int) - 1; omega)) ?_
 refine Wk 0 (Vb 1 rfl (s:=⟨v16,Jaf 10 t0⟩) (h:=⟨by show (0:Int)≤((Jaf 10 t0).length:Int) - 1; omega,by show (((Jaf 10 t0).length:Int) - 1) < ((Jaf 10 t0).length:Int); omega⟩)) ?_
 refine Wk 1 (Jbr rfl rfl) ?_
 refine Wf 0 rfl rfl (fun hg=>Fm) ?_
 refine Wf 0 rfl rfl (fun hg=>Fl) ?_
 refine Wk 0 Po ?_
 refine Wd (Qc (CS.cond rfl ?_ ?_))<;>intro hc4<;>try simp only [bq] at hc4
 ·
  have hbad:Jgg t0=((room0,((Jaf 10 t0).length:Int) - 1+1,4):Room × Int × Int):=by
   rw [hlast]
   split
   ·
    rename_i h9
    rw [finP,if_pos (by rcases hc4 with h | h; rw [h9] at h; cases h; exact h)]
   rfl
  refine Nz 0 ?_
  refine Wk 1 (Db Jif zv32) ?_
  refine Wk 0 (Jhv rfl rfl (by show -9223372036854775808≤((Jaf 10 t0).length:Int) - 1+1∧((Jaf 10 t0).length:Int) - 1+1≤9223372036854775807; omega)) ?_
  refine Wv 2 2 ?_
  exact Wd (Qc (Cr (Qr (outR (Jee rfl (Jaz (j:=2) rfl rfl tk32) rfl rfl) (fun u hu=>Jch hbad hu)))))
 have hfin:Jgg t0=finP rp q.2.1 ((Jaf 10 t0).length - 1):=by rw [hlast,if_pos hc4.1]
 have hce:=(Jdr hqi.e).checkE
 refine Ck (Qc (Cs ?_))
 refine CS.weak (fun u hu=>St.unpack (L1:=Jbo b21 q.1) hu) ?_
 refine Ny 2 ?_
 refine Wk 0 (by first | exact Jad (j:=0) rfl rfl tk32 | exact Jad (j:=1) rfl rfl tk32 | exact Jad (j:=2) rfl rfl tk32 | exact Jad (j:=3) rfl rfl tk32 | exact Jad (j:=4) rfl rfl tk32 | exact Jad (j:=5) rfl rfl tk32 | exact Jad (j:=6) rfl rfl tk32 | exact Jad (j:=7) rfl rfl tk32 | exact Jad (j:=8) rfl rfl tk32 | exact Jad (j:=9) rfl rfl tk32 | exact Jad (j:=10) rfl rfl tk32 | exact Jad (j:=11) rfl rfl tk32 | exact Jad (j:=12) rfl rfl tk32 | exact Jad (j:=13) rfl rfl tk32 | exact Jac (j:=0) rfl rfl (by rfl) tk32 | exact Jac (j:=1) rfl rfl (by rfl) tk32 | exact Jac (j:=2) rfl rfl (by rfl) tk32 | exact Jac (j:=3) rfl rfl (by rfl) tk32 | exact Jac (j:=4) rfl rfl (by rfl) tk32 | exact Jac (j:=5) rfl rfl (by rfl) tk32 | exact Jac (j:=6) rfl rfl (by rfl) tk32 | exact Jac (j:=7) rfl rfl (by rfl) tk32 | exact Jac (j:=8) rfl rfl (by rfl) tk32 | exact Jac (j:=9) rfl rfl (by rfl) tk32 | exact Jac (j:=10) rfl rfl (by rfl) tk32 | exact Jac (j:=11) rfl rfl (by rfl) tk32 | exact Jac (j:=12) rfl rfl (by rfl) tk32 | exact Jac (j:=13) rfl rfl (by rfl) tk32 | exact Ja2 rfl (by assumption) (by rfl) tk32 | exact Jae (n:=8) (j:=0) rfl rfl rfl rfl tk32 | exact Jae (n:=8) (j:=1) rfl rfl rfl rfl tk32 | exact Jae (n:=8) (j:=2) rfl rfl rfl rfl tk32 | exact Jae (n:=8) (j:=3) rfl rfl rfl rfl tk32 | exact Jae (n:=8) (j:=4) rfl rfl rfl rfl tk32 | exact Jae (n:=8) (j:=5) rfl rfl rfl rfl tk32 | exact Jae (n:=8) (j:=6) rfl rfl rfl rfl tk32 | exact Jae (n:=8) (j:=7) rfl rfl rfl rfl tk32 | exact Jae (n:=8) (j:=8) rfl rfl rfl rfl tk32 | exact Jae (n:=8) (j:=9) rfl rfl rfl rfl tk32 | exact Jae (n:=8) (j:=10) rfl rfl rfl rfl tk32 | exact Jae (n:=8) (j:=11) rfl rfl rfl rfl tk32 | exact Jae (n:=8) (j:=12) rfl rfl rfl rfl tk32 | exact Jae (n:=8) (j:=13) rfl rfl rfl rfl tk32) ?_
 refine Wk 1 (Cb rfl rfl Jzw (fun u hu=>Jpr q.1 u (St.rmOk (rb:=b21) (r:=q.1) hu) (hqi.j.en hqi.e).nm)) ?_
 refine Wd (Qc (Cs (Nz 2 ?_)))
 refine Wd (Qc (CS.cond rfl ?_ ?_))<;>intro hc5<;>try simp only [bq] at hc5
 ·
  refine Nz 0 ?_
  refine Wk 1 (Db Jif zv32) ?_
  refine Wv 2 10 ?_
  exact Wd (Qc (Cr (Qr (outR (Jee rfl (Jaz (j:=10) rfl rfl tk32) rfl rfl) (fun u hu=>Jch (by rw [hfin,finP,if_neg (by omega),if_pos (hce ▸ hc5),hce]) hu)))))
 refine Ck (Qc (Cs ?_))
 refine CS.stE fun hst=>?_
 obtain ⟨uu,huu⟩:=hst
 have hro:=St.rmOk (rb:=b21) (r:=q.1) huu
 have o1:=Sl.one hro.pls
 have o2:=Sl.one hro.ths
 have o3:=Sl.one hro.prs
 have o4:=Sl.one hro.wys
 have o5:=Sl.one hro.acs
 have o6:=Sl.one hro.aus
 have o7:=Sl.one hro.gl
 refine Ny 2 ?_
 refine Wk 0 (by first | exact Jad (j:=0) rfl rfl tk32 | exact Jad (j:=1) rfl rfl tk32 | exact Jad (j:=2) rfl rfl tk32 | exact Jad (j:=3) rfl rfl tk32 | exact Jad (j:=4) rfl rfl tk32 | exact Jad (j:=5) rfl rfl tk32 | exact Jad (j:=6) rfl rfl tk32 | exact Jad (j:=7) rfl rfl tk32 | exact Jad (j:=8) rfl rfl tk32 | exact Jad (j:=9) rfl rfl tk32 | exact Jad (j:=10) rfl rfl tk32 | exact Jad (j:=11) rfl rfl tk32 | exact Jad (j:=12) rfl rfl tk32 | exact Jad (j:=13) rfl rfl tk32 | exact Jac (j:=0) rfl rfl (by rfl) tk32 | exact Jac (j:=1) rfl rfl (by rfl) tk32 | exact Jac (j:=2) rfl rfl (by rfl) tk32 | exact Jac (j:=3) rfl rfl (by rfl) tk32 | exact Jac (j:=4) rfl rfl (by rfl) tk32 | exact Jac (j:=5) rfl rfl (by rfl) tk32 | exact Jac (j:=6) rfl rfl (by rfl) tk32 | exact Jac (j:=7) rfl rfl (by rfl) tk32 | exact Jac (j:=8) rfl rfl (by rfl) tk32 | exact Jac (j:=9) rfl rfl (by rfl) tk32 | exact Jac (j:=10) rfl rfl (by rfl) tk32 | exact Jac (j:=11) rfl rfl (by rfl) tk32 | exact Jac (j:=12) rfl rfl (by rfl) tk32 | exact Jac (j:=13) rfl rfl (by rfl) tk32 | exact Ja2 rfl (by assumption) (by rfl) tk32 | exact Jae (n:=8) (j:=0) rfl rfl rfl rfl tk32 | exact Jae (n:=8) (j:=1) rfl rfl rfl rfl tk32 | exact Jae (n:=8) (j:=2) rfl rfl rfl rfl tk32 | exact Jae (n:=8) (j:=3) rfl rfl rfl rfl tk32 | exact Jae (n:=8) (j:=4) rfl rfl rfl rfl tk32 | exact Jae (n:=8) (j:=5) rfl rfl rfl rfl tk32 | exact Jae (n:=8) (j:=6) rfl rfl rfl rfl tk32 | exact Jae (n:=8) (j:=7) rfl rfl rfl rfl tk32 | exact Jae (n:=8) (j:=8) rfl rfl rfl rfl tk32 | exact Jae (n:=8) (j:=9) rfl rfl rfl rfl tk32 | exact Jae (n:=8) (j:=10) rfl rfl rfl rfl tk32 | exact Jae (n:=8) (j:=11) rfl rfl rfl rfl tk32 | exact Jae (n:=8) (j:=12) rfl rfl rfl rfl tk32 | exact Jae (n:=8) (j:=13) rfl rfl rfl rfl tk32) ?_
 refine Wv 2 10 ?_
 exact Wd (Qc (Cr (outR (Jee rfl (Jaz (j:=10) rfl rfl tk32) rfl rfl) (fun u hu=>Jrp (rb:=b21) (r:=q.1) (by rw [hfin,finP,if_neg (by omega),if_neg (by rw [← hce]; omega)]) hqi.e hu))))
end Go.Proofs.YtkekjhcmephhjaaGreatDoor
