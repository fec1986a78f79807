/- Merged texts of this proof (walks and plain laws), printed by a program of the prover. -/
import Derived.Test.YtkekjhcmephhjaaGreatDoorZh
import Derived.Lib.SmallJoins
import Derived.Test.YtkekjhcmephhjaaGreatDoorZb
import Derived.Test.YtkekjhcmephhjaaGreatDoorZf
set_option maxHeartbeats 8000000
namespace Go.Proofs.YtkekjhcmephhjaaGreatDoor
open Go.RowKit Go.Proofs
set_option maxRecDepth 100000
set_option linter.unusedVariables false
set_option linter.unusedSimpArgs false
def rds0:RdS:=⟨room0,0,⟨.slice none 0 0,[]⟩⟩
theorem rdr0 {n0:Nat} {w0 u:World} {xb:Nat} {A:SA} (h:St n0 w0 [blk xb (Jku rds0) 56,A] u):St n0 w0 [rdr xb rds0,A] u:=by
 have h1:=(((((h.osl0 (e:=77) (size:=3)).osl0 (e:=73) (size:=8)).osl0 (e:=69) (size:=3)).osl0 (e:=67) (size:=3)).osl0 (e:=65) (size:=4)).osl0 (e:=9) (size:=1)
 have h2:=(h1.roTrue (p:=elOk room0) (fun u=>⟨fun _ h=>(by cases h),fun _ h=>(by cases h),fun _ h=>(by cases h),fun _ h=>(by cases h),SlT.nil cLit u⟩)).roTrue (p:=fun u=>SlT cStr u ⟨.slice none 0 0,[]⟩) (SlT.nil cStr)
 exact St.pack (L1:=Jak xb rds0) (h2.sel [8,2,2,2,2,2,2,1,0,0] rfl)
theorem Jjl {L:List SA} {S:Nat→Prop} {u:World} {xb:Nat} {s:RdS} (h:Star (Jak xb s++L) S u):RoomOk u s.r:=by
 have he:elOk s.r u:=Star.ro (L:=Jak xb s++L) (j:=7) rfl h
 exact ⟨⟨Star.osl (L:=Jak xb s++L) (j:=1) rfl h,fun _ _=>trivial⟩,⟨Star.osl (L:=Jak xb s++L) (j:=2) rfl h,fun _ _=>trivial⟩,⟨Star.osl (L:=Jak xb s++L) (j:=3) rfl h,he.1⟩,⟨Star.osl (L:=Jak xb s++L) (j:=4) rfl h,he.2.1⟩,
  ⟨Star.osl (L:=Jak xb s++L) (j:=5) rfl h,he.2.2.1⟩,⟨Star.osl (L:=Jak xb s++L) (j:=6) rfl h,he.2.2.2.1⟩,he.2.2.2.2⟩
theorem St.room {n0:Nat} {w0 u:World} {L:List SA} {xb:Nat} {s:RdS} (h:St n0 w0 (Jak xb s++L) u):RoomOk u s.r:=Jjl h.star
def Jer (w:World) (x:Room × Int × Int):Ending→World→Prop:=fun e w'=>∃ y:Room,(y.e=x.1.e∧∃ u0,RoomOk u0 y)∧RetF w (.tuple #[.agg (Room.cells y).toArray,.int .i64 x.2.1,.int .i64 x.2.2]) (roS fun u=>RoomOk u y) e w'
theorem Jle (u:World):RoomOk u room0:=⟨SlT.nil _ _,SlT.nil _ _,SlT.nil _ _,SlT.nil _ _,SlT.nil _ _,SlT.nil _ _,SlT.nil _ _⟩
theorem Jch {w0 u:World} {L:List SA} {x:Room × Int × Int} {n e:Int} (hx:x=(room0,n,e)) (hu:St w0.heap.size w0 L u):Jer w0 x (.returned (.tuple #[.agg (Room.cells room0).toArray,.int .i64 n,.int .i64 e])) u:=by
 subst hx
 exact ⟨room0,⟨rfl,u,Jle u⟩,retR (p:=fun u=>RoomOk u room0) (fun _ u _=>Jle u) u hu⟩
theorem Jrj {w0 u:World} {L:List SA} {x:Room × Int × Int} {xb:Nat} {s:RdS} {rp:Room} (hx:x=(rp,0,0)) (he:s.r.e=rp.e) (hu:St w0.heap.size w0 (Jak xb s++L) u):Jer w0 x (.returned (.tuple #[.agg (Room.cells s.r).toArray,.int .i64 0,.int .i64 0])) u:=by
 subst hx
 exact ⟨s.r,⟨he,u,hu.room⟩,retR (p:=fun u=>RoomOk u s.r) (fun _ u h=>Jjl h) u hu⟩
theorem Jzj (tx:ByteArray) (w:World) (hM:MaxOk w) (hs:tx.size≤100000) :
  Calls Tryz.prog 18 #[.string tx,.string ⟨#[10]⟩] w (RetB w (.tuple #[.string (ba (Lib.cut (bl tx) [10]).1),.string (ba (Lib.cut (bl tx) [10]).2.1),.bool (Lib.cut (bl tx) [10]).2.2])):=by
 obtain ⟨m,hm⟩:=hM
 refine (Tryz.strings_Cut tx ⟨#[10]⟩ m w (by omega) hm).mono ?_
 rintro e w' ⟨rfl,n,rfl⟩
 exact ⟨rfl,below_drewN (Below.refl _ _) n⟩
def Jwx (xb:Nat):Option (RdS × Int × Ln)→SA
 | some y=>rdr xb y.1
 | none=>star []
theorem Jx1 {w u:World} {Ls:List SA} (xb:Nat) (sx:RdS) (hu:St w.heap.size w (rdr xb sx::Ls) u) (g:Sl ByteArray) (hG:GOk w g) (gk:Sl ByteArray) (hK:KOk w gk) (hM:MaxOk w) (t0:ByteArray) (ht:t0.size≤65536) (hkd:0≤sx.kd∧sx.kd≤7) (hb:RdB 65536 sx.r) :
  Calls Tryz.prog 19 #[.pointer (some ⟨xb,0,none⟩),.string t0] u (fun e u'=>(∃ x:Option (RdS × Int × Ln),(match x with
   | some y=>Jbl sx.r sx.kd t0=some (y.2.1,y.2.2)∧y.1.r.e=(addL sx.r y.2.2).e∧y.1.kd=y.2.1
   | none=>Jbl sx.r sx.kd t0=none)∧e = .returned (.bool x.isSome)∧St w.heap.size w (Jwx xb x::Ls) u')∨(False∧e = .panicked []∧St w.heap.size w Ls u')):=by
 refine (Jv9 (star Ls) xb sx hu.tailPack g hG gk hK hM t0 ht hkd hb).mono ?_
 rintro e u' (⟨s',k,x,h1,h2,h3⟩ | ⟨h1,h2,h3⟩)
 ·
  exact .inl ⟨some (s',k,x),h1,h2,h3.tailUnpack⟩
 exact .inl ⟨none,h1,h2,(St.pack (L1:=[]) h3.oneUnpack)⟩
theorem Jnn {n0:Nat} {w0 u:World} {L:List SA} {xb:Nat} {y:RdS × Int × Ln} (h:St n0 w0 (Jwx xb (some y)::L) u):St n0 w0 (rdr xb y.1::L) u:=h
structure PrI (t0:ByteArray) (s:RdS) (rest:ByteArray) (i:Int) (rp:Room):Prop where
 e:s.r.e=rp.e
 v:Jgg t0=Jc7 rp s.kd i (Jaf 10 rest)
 i0:0≤i
 sz:i+rest.size≤t0.size
 j:RdJ i.toNat rp
 k:0≤s.kd∧s.kd≤7
theorem PrI.start (t0:ByteArray):PrI t0 rds0 t0 0 room0:=⟨rfl,rfl,by omega,by omega,RdJ.zero,by decide⟩
theorem PrI.next {t0:ByteArray} {s s':RdS} {rest:ByteArray} {i k:Int} {rp:Room} {x:Ln} (h:PrI t0 s rest i rp) (ht:t0.size≤5000) (hc:(Lib.cut (bl rest) [10]).2.2=true) (hl:Jbl s.r s.kd (ba (Lib.cut (bl rest) [10]).1)=some (k,x)) (he:s'.r.e=(addL s.r x).e) (hk:s'.kd=k) :
  PrI t0 s' (ba (Lib.cut (bl rest) [10]).2.1) (i+1) (addL rp x):=by
 obtain ⟨h1,h2,h3⟩:=Jdl hc
 have hsz:=h.sz
 have hi:=h.i0
 have hl2:Jbl rp s.kd (ba (Lib.cut (bl rest) [10]).1)=some (k,x):=by rw [← Jfw h.e]; exact hl
 have hkk:=Jhw hl
 have hk0:=h.k
 refine ⟨he.trans (Jpo h.e x),?_,by omega,by omega,?_,?_⟩
 ·
  rw [h.v,h1,Ji4 (Jcw _ _) hl2,hk]
 ·
  rw [show (i+1).toNat=i.toNat+1 by omega]
  exact h.j.add x fun nm hn=>Nat.le_trans (Jmi hl nm hn) (by omega)
 rw [hk]; omega
theorem PrI.bad {t0:ByteArray} {s:RdS} {rest:ByteArray} {i:Int} {rp:Room} (h:PrI t0 s rest i rp) (hc:(Lib.cut (bl rest) [10]).2.2=true) (hl:Jbl s.r s.kd (ba (Lib.cut (bl rest) [10]).1)=none):Jgg t0=(room0,i+1,4):=by
 rw [h.v,(Jdl hc).1,Jjh (Jcw _ _) (by rw [← Jfw h.e]; exact hl)]
theorem PrI.open_ {t0:ByteArray} {s:RdS} {rest:ByteArray} {i:Int} {rp:Room} (h:PrI t0 s rest i rp) (hc:(Lib.cut (bl rest) [10]).2.2=false) (hn:seq rest ⟨#[]⟩=false):Jgg t0=(room0,i+1,4):=by
 rw [h.v,Jij hc,Jd5,if_neg (by rw [hn]; decide)]
theorem PrI.fin {t0:ByteArray} {s:RdS} {rest:ByteArray} {i:Int} {rp:Room} (h:PrI t0 s rest i rp) (hn:seq rest ⟨#[]⟩=true):Jgg t0=finP rp s.kd i:=by
 rw [h.v,Jli.1 hn,Jm1,Jd5,if_pos (Jfx _)]
theorem PrI.rdb {t0:ByteArray} {s:RdS} {rest:ByteArray} {i:Int} {rp:Room} (h:PrI t0 s rest i rp) (ht:t0.size≤5000):RdB 65536 s.r:=by
 have:=h.j.en h.e
 have hsz:=h.sz
 exact ⟨Nat.le_trans this.pls (by omega),Nat.le_trans this.ths (by omega),Nat.le_trans this.prs (by omega),Nat.le_trans this.wys (by omega),Nat.le_trans this.acs (by omega),Nat.le_trans this.aus (by omega)⟩
theorem Jus (t0:ByteArray) (w:World) (g:Sl ByteArray) (hG:GOk w g) (gk:Sl ByteArray) (hK:KOk w gk) (hM:MaxOk w) (ht:t0.size≤5000) :
  Calls Tryz.prog 6 #[.string t0] w (Jer w (Jgg t0)):=by
 refine enter Tryz.func6 rfl rfl (Nat.le_of_ble_eq_true rfl) ?_
 refine Nz 0 ?_
 refine Wl 2 zv32 (fun _=>rfl) (fun _=>rfl) fun b2 hb2=>?_
 refine Wd (Qc (Cs (Nz 1 ?_)))
 refine Wk 1 (Jau Tryz.underlying9 rfl) ?_
 refine Wd (Qc (CS.cond rfl ?_ ?_))<;>intro hc1<;>try simp only [bq] at hc1
 ·
  exact absurd hc1 (by omega)
 refine Ck (Qc (Nz 0 ?_))
 refine Wk 0 (Db Jz6 zv56) ?_
 refine Wb 1 rfl rfl (fun _=>rfl) (fun _=>rfl) fun b15 hb15=>?_
 refine Wd (Qc (Cs (Ce ?_)))
 refine CS.weak (fun u hu=>rdr0 hu) ?_
 refine CS.loopM (σ:=RdS × ByteArray × Int) [4,6,7,8,16,17,18,19,20,21,22,23,24,25,26,27,28,29,30,31,32,33,34,35,36] (fun s=>[(0,.string s.2.1),(3,.int .i64 s.2.2)]) (fun s=>[rdr b15 s.1,blk b2 (Room.cells room0) 32]) (fun s=>∃ rp,PrI t0 s.1 s.2.1 s.2.2 rp) (fun s=>s.2.1.size) (rds0,t0,0) (fun _ _=>rfl) rfl rfl ⟨_,PrI.start t0⟩ ?_
 intro q t hs
 obtain ⟨rp,hqi⟩:=hs
 have hsz:=hqi.sz
 have hi0:=hqi.i0
 refine Cs (Nz 1 ?_)
 refine Wk 0 (Jbr rfl rfl) ?_
 refine Wd (Qc (CS.cond rfl ?_ ?_))<;>intro hc2<;>try simp only [bq] at hc2
 ·
  refine Ck (Qc (Ce (Nz 1 ?_)))
  refine Wk 1 Za ?_
  refine Wd (Qc (Nz 1 ?_))
  refine Wk 7 (Cb rfl rfl Jze (fun u hu=>Jzj q.2.1 u (hM.st hu) (by omega))) ?_
  refine Wd (Qc (Cs (Cs ?_)))
  rcases Bool.eq_false_or_eq_true (!(Lib.cut (bl q.2.1) [10]).2.2) with hb | hb
  ·
   have hcf:(Lib.cut (bl q.2.1) [10]).2.2=false:=by simpa using hb
   refine Ny 2 ?_
   refine Wk 0 (Jay (v:=.bool true) (congrArg (fun b=>some (Value.bool b)) hb)) ?_
   refine Wf 0 rfl rfl (fun hg=>Fy_ (by cases hg)) ?_
   refine Wf 0 rfl rfl (fun hg=>Fy_ (by cases hg)) ?_
   refine Wf 0 rfl rfl (fun hg=>Fy_ (by cases hg)) ?_
   refine Wf 0 rfl rfl (fun hg=>Fz_ (by cases hg)) ?_
   refine Wk 0 Po ?_
   refine Wd (Qc (CS.cond rfl ?_ ?_))<;>intro hc3<;>try simp only [bq] at hc3
   ·
    have hbad:=hqi.open_ hcf hc2
    refine Nz 0 ?_
    refine Wk 1 (Db Jif zv32) ?_
    refine Wv 2 1 ?_
    exact Wd (Qc (Cr (Qr (Qs (Qr (Qs (Qr (outR (Jee rfl (Jaz (j:=1) rfl rfl tk32) rfl rfl) (fun u hu=>Jch hbad hu)))))))))
   exact absurd hc3 (by simp)
  have hct:(Lib.cut (bl q.2.1) [10]).2.2=true:=by simpa using hb
  have hsc:=(Jdl hct).2.1
  refine Ny 2 ?_
  refine Wk 0 (Jay (v:=.bool false) (congrArg (fun b=>some (Value.bool b)) hb)) ?_
  refine Wf 0 rfl rfl (fun hg=>Fm) ?_
  refine Wf 0 rfl rfl (fun hg=>Fm) ?_
  refine WS.callPg rfl rfl rfl Jy9 (fun u hu=>Jx1 b15 q.1 hu g hG gk hK hM (ba (Lib.cut (bl q.2.1) [10]).1) (by omega) hqi.k (hqi.rdb ht)) (fun _=>rfl) (fun hq u hu=>hq.elim) ?_; rintro x hx
  refine Wf 0 rfl rfl (fun hg=>Fn) ?_
  refine Wk 0 Po ?_
  refine Wd (Qc (CS.cond rfl ?_ ?_))<;>intro hc3<;>try simp only [bq] at hc3
  ·
   obtain rfl:x=none:=by
    cases x with
    | some y=>exact absurd hc3 (by simp)
    | none=>rfl
   have hbad:=hqi.bad hct hx
   refine Nz 0 ?_
   refine Wk 1 (Db Jif zv32) ?_
   refine Wv 2 1 ?_
   exact Wd (Qc (Cr (Qr (Qs (Qr (Qs (Qr (outR (Jee rfl (Jaz (j:=1) rfl rfl tk32) rfl rfl) (fun u hu=>Jch hbad hu)))))))))
  obtain ⟨y,rfl⟩:∃ y,x=some y:=by
   cases x with
   | some y=>exact ⟨y,rfl⟩
   | none=>exact absurd hc3 (by simp)
  obtain ⟨hx1,hx2,hx3⟩:=hx
  refine CS.weak (fun u hu=>Jnn hu) ?_
  refine Ck (Qc (Ny 2 ?_))
  exact Wd (Qb (QS.head ((y.1,ba (Lib.cut (bl q.2.1) [10]).2.1,q.2.2+1)) rfl rfl ⟨⟨_,hqi.next ht hct hx1 hx2 hx3⟩,(Jdl hct).2.2⟩))
 have hfin:=hqi.fin hc2
 refine Cv (Qe (Qe (Qx (Qc (Cs (Cs ?_))))))
 refine CS.weak (fun u hu=>St.unpack (L1:=Jak b15 q.1) hu) ?_
 refine Ny 3 ?_
 refine Wk 1 (by first | exact Je4 rfl (by assumption) (by omega) tk3 | exact Jaa (j:=0) rfl rfl rfl tk3 | exact Jaa (j:=1) rfl rfl rfl tk3 | exact Jaa (j:=2) rfl rfl rfl tk3 | exact Jaa (j:=3) rfl rfl rfl tk3 | exact Jaa (j:=4) rfl rfl rfl tk3 | exact Jaa (j:=5) rfl rfl rfl tk3 | exact Jaa (j:=6) rfl rfl rfl tk3 | exact Jaa (j:=7) rfl rfl rfl tk3 | exact Jaa (j:=8) rfl rfl rfl tk3 | exact Jaa (j:=9) rfl rfl rfl tk3 | exact Jaa (j:=10) rfl rfl rfl tk3 | exact Jaa (j:=11) rfl rfl rfl tk3 | exact Jah rfl (by assumption) rfl tk3) ?_
 refine Wd (Qc (CS.cond rfl ?_ ?_))<;>intro hc4<;>try simp only [bq] at hc4
 ·
  refine Nz 0 ?_
  refine Wk 1 (Db Jif zv32) ?_
  refine Wk 0 Za ?_
  refine Wv 2 9 ?_
  exact Wd (Qc (Cr (Qr (outR (Jee rfl (Jaz (j:=9) rfl rfl tk32) rfl rfl) (fun u hu=>Jch (by rw [hfin,finP,if_pos hc4]) hu)))))
 have hce:=(Jdr hqi.e).checkE
 refine Ck (Qc (Cs (Nz 3 ?_)))
 refine Wk 0 (by first | exact Jad (j:=0) rfl rfl tk32 | exact Jad (j:=1) rfl rfl tk32 | exact Jad (j:=2) rfl rfl tk32 | exact Jad (j:=3) rfl rfl tk32 | exact Jad (j:=4) rfl rfl tk32 | exact Jad (j:=5) rfl rfl tk32 | exact Jad (j:=6) rfl rfl tk32 | exact Jad (j:=7) rfl rfl tk32 | exact Jad (j:=8) rfl rfl tk32 | exact Jad (j:=9) rfl rfl tk32 | exact Jad (j:=10) rfl rfl tk32 | exact Jad (j:=11) rfl rfl tk32 | exact Jac (j:=0) rfl rfl (by rfl) tk32 | exact Jac (j:=1) rfl rfl (by rfl) tk32 | exact Jac (j:=2) rfl rfl (by rfl) tk32 | exact Jac (j:=3) rfl rfl (by rfl) tk32 | exact Jac (j:=4) rfl rfl (by rfl) tk32 | exact Jac (j:=5) rfl rfl (by rfl) tk32 | exact Jac (j:=6) rfl rfl (by rfl) tk32 | exact Jac (j:=7) rfl rfl (by rfl) tk32 | exact Jac (j:=8) rfl rfl (by rfl) tk32 | exact Jac (j:=9) rfl rfl (by rfl) tk32 | exact Jac (j:=10) rfl rfl (by rfl) tk32 | exact Jac (j:=11) rfl rfl (by rfl) tk32 | exact Ja2 rfl (by assumption) (by rfl) tk32 | exact Jae (n:=8) (j:=0) rfl rfl rfl rfl tk32 | exact Jae (n:=8) (j:=1) rfl rfl rfl rfl tk32 | exact Jae (n:=8) (j:=2) rfl rfl rfl rfl tk32 | exact Jae (n:=8) (j:=3) rfl rfl rfl rfl tk32 | exact Jae (n:=8) (j:=4) rfl rfl rfl rfl tk32 | exact Jae (n:=8) (j:=5) rfl rfl rfl rfl tk32 | exact Jae (n:=8) (j:=6) rfl rfl rfl rfl tk32 | exact Jae (n:=8) (j:=7) rfl rfl rfl rfl tk32 | exact Jae (n:=8) (j:=8) rfl rfl rfl rfl tk32 | exact Jae (n:=8) (j:=9) rfl rfl rfl rfl tk32 | exact Jae (n:=8) (j:=10) rfl rfl rfl rfl tk32 | exact Jae (n:=8) (j:=11) rfl rfl rfl rfl tk32) ?_
 refine Wk 1 (Cb rfl rfl Jvb (fun u hu=>Jjf q.1.r u (St.room (xb:=b15) (s:=q.1) hu) g (hG.st hu) (hqi.j.en hqi.e).nm)) ?_
 refine Wd (Qc (Nz 2 ?_))
 refine Wd (Qc (CS.cond rfl ?_ ?_))<;>intro hc5<;>try simp only [bq] at hc5
 ·
  refine Nz 0 ?_
  refine Wk 1 (Db Jif zv32) ?_
  refine Wv 2 9 ?_
  exact Wd (Qc (Cr (Qr (outR (Jee rfl (Jaz (j:=9) rfl rfl tk32) rfl rfl) (fun u hu=>Jch (by rw [hfin,finP,if_neg (by omega),if_pos (hce ▸ hc5),hce]) hu)))))
 refine Ck (Qc (Cs ?_))
 refine CS.stE fun hst=>?_
 obtain ⟨uu,huu⟩:=hst
 have hro:=St.room (xb:=b15) (s:=q.1) huu
 have o1:=Sl.one hro.pls
 have o2:=Sl.one hro.ths
 have o3:=Sl.one hro.prs
 have o4:=Sl.one hro.wys
 have o5:=Sl.one hro.acs
 have o6:=Sl.one hro.aus
 have o7:=Sl.one hro.gl
 refine Ny 3 ?_
 refine Wk 0 (by first | exact Jad (j:=0) rfl rfl tk32 | exact Jad (j:=1) rfl rfl tk32 | exact Jad (j:=2) rfl rfl tk32 | exact Jad (j:=3) rfl rfl tk32 | exact Jad (j:=4) rfl rfl tk32 | exact Jad (j:=5) rfl rfl tk32 | exact Jad (j:=6) rfl rfl tk32 | exact Jad (j:=7) rfl rfl tk32 | exact Jad (j:=8) rfl rfl tk32 | exact Jad (j:=9) rfl rfl tk32 | exact Jad (j:=10) rfl rfl tk32 | exact Jad (j:=11) rfl rfl tk32 | exact Jac (j:=0) rfl rfl (by rfl) tk32 | exact Jac (j:=1) rfl rfl (by rfl) tk32 | exact Jac (j:=2) rfl rfl (by rfl) tk32 | exact Jac (j:=3) rfl rfl (by rfl) tk32 | exact Jac (j:=4) rfl rfl (by rfl) tk32 | exact Jac (j:=5) rfl rfl (by rfl) tk32 | exact Jac (j:=6) rfl rfl (by rfl) tk32 | exact Jac (j:=7) rfl rfl (by rfl) tk32 | exact Jac (j:=8) rfl rfl (by rfl) tk32 | exact Jac (j:=9) rfl rfl (by rfl) tk32 | exact Jac (j:=10) rfl rfl (by rfl) tk32 | exact Jac (j:=11) rfl rfl (by rfl) tk32 | exact Ja2 rfl (by assumption) (by rfl) tk32 | exact Jae (n:=8) (j:=0) rfl rfl rfl rfl tk32 | exact Jae (n:=8) (j:=1) rfl rfl rfl rfl tk32 | exact Jae (n:=8) (j:=2) rfl rfl rfl rfl tk32 | exact Jae (n:=8) (j:=3) rfl rfl rfl rfl tk32 | exact Jae (n:=8) (j:=4) rfl rfl rfl rfl tk32 | exact Jae (n:=8) (j:=5) rfl rfl rfl rfl tk32 | exact Jae (n:=8) (j:=6) rfl rfl rfl rfl tk32 | exact Jae (n:=8) (j:=7) rfl rfl rfl rfl tk32 | exact Jae (n:=8) (j:=8) rfl rfl rfl rfl tk32 | exact Jae (n:=8) (j:=9) rfl rfl rfl rfl tk32 | exact Jae (n:=8) (j:=10) rfl rfl rfl rfl tk32 | exact Jae (n:=8) (j:=11) rfl rfl rfl rfl tk32) ?_
 refine Wv 2 9 ?_
 exact Wd (Qc (Cr (outR (Jee rfl (Jaz (j:=9) rfl rfl tk32) rfl rfl) (fun u hu=>Jrj (xb:=b15) (s:=q.1) (by rw [hfin,finP,if_neg (by omega),if_neg (by rw [← hce]; omega)]) hqi.e hu))))
theorem Jlb (t0:ByteArray) (c:UInt8) (w:World) (ht:(t0.size:Int)≤1000000) :
  Calls Tryz.prog 21 #[.string t0,.int .u8 c.toNat] w (RetL w (Jaf c t0)):=by
 refine enter Tryz.func21 rfl rfl (Nat.le_of_ble_eq_true rfl) ?_
 refine Nz 1 ?_
 refine Wd (Qc (Nz 1 ?_))
 refine Wd (Qc (Nz 1 ?_))
 refine Wd (Qc (Cs (Nz 1 ?_)))
 refine Wd (Qc (Ce ?_))
 refine CS.weak (fun _ hu=>hu.osl0 (e:=9) (size:=1)) ?_
 refine CS.loopM (σ:=Int × Int × Value × List ByteArray) [8,9,10,11,12,13,14,15,16,17,18,19,20,21,22,23,24,25,26,27,28,29,30,31,32,33] (fun s=>[(7,.int .i64 s.1),(6,.int .i64 s.2.1),(5,s.2.2.1)]) (fun s=>[oT cStr 9 s.2.2.1 s.2.2.2]) (fun s=>0≤s.1∧SplitI c t0 s.1 s.2.1 s.2.2.2) (fun s=>(t0.size+1 - s.1).toNat) (0,0,.slice none 0 0,[]) (fun _ _=>rfl) rfl rfl ⟨by simp,SplitI.start c t0⟩ ?_
 intro a t hs
 obtain ⟨ha1,ha2⟩:=hs
 refine Cs (Nz 2 ?_)
 refine Wk 1 (Jau Tryz.underlying9 rfl) ?_
 refine Wd (Qc (CS.cond rfl ?_ ?_))<;>intro hc1<;>try simp only [bq] at hc1
 ·
  have hxl:=ha2.len
  refine Ck (Qc (Cs (Ce (Nz 2 ?_))))
  refine Wk 2 (Jau Tryz.underlying9 rfl) ?_
  refine Wf 0 rfl rfl (fun hg=>Fm) ?_
  refine Wf 0 rfl rfl (fun hg=>Fm) ?_
  refine Wf 0 rfl rfl (fun hg=>Jar Tryz.underlying9 (eg_ hg rfl) (eg_ hg rfl) (by (try simp only [bq] at hg); omega) (by (try simp only [bq] at hg); omega)) ?_
  refine Wf 0 rfl rfl (fun hg=>Fm) ?_
  refine Wf 0 rfl rfl (fun hg=>Fq) ?_
  refine Wk 0 Po ?_
  refine Wd (Qc (CS.cond rfl ?_ ?_))<;>intro hc2<;>try simp only [bq] at hc2
  ·
   have hfb:=ha2.bd (show a.1≤t0.size by omega)
   refine Nz 4 ?_
   refine Wk 0 (Jpe Tryz.underlying9 rfl rfl rfl ⟨hfb.1,hfb.2,by omega⟩) ?_
   refine WS.buildS1 (b:=t0.extract a.2.1.toNat a.1.toNat) sl23 zv9 rfl (fun _=>rfl) ?_; intro v30
   refine WS.appendT1 (j:=1) (jz:=0) sl23 zv9 rfl (by decide) rfl rfl rfl rfl (w:=w) trivial (by omega) (by omega) (fun _=>rfl) (fun _=>rfl) ?_; intro v31 hv31
   refine Wz 1 ?_
   refine Wd (Qc (Ny 1 ?_))
   refine Wk 1 Za ?_
   refine Wd (Qb (Qc (Ny 1 ?_)))
   refine Wk 1 Za ?_
   refine Wd ?_
   refine QS.sel [1] rfl ?_
   exact QS.head ((a.1+1,a.1+1,v31,a.2.2.2++[t0.extract a.2.1.toNat a.1.toNat])) rfl rfl ⟨⟨by simp; omega,(if h:a.1=t0.size then ha2.last h else ha2.hit (by omega) (by omega))⟩,by simp; omega⟩
  refine Ck (Qb (Qc (Ny 1 ?_)))
  refine Wk 1 Za ?_
  exact Wd (QS.head ((a.1+1,a.2.1,a.2.2.1,a.2.2.2)) rfl rfl ⟨⟨by simp; omega,ha2.other (by omega) (by omega)⟩,by simp; omega⟩)
 have hfin:=ha2.fin (by omega)
 refine Cv (Qe (Qe (Qx (Qc (Nz 2 ?_)))))
 refine Wd (Qc (Cr ?_))
 exact out1 rfl rfl (by
   rw [← hfin]
   exact fun u hu=>Jz9 (j:=0) rfl hu)
theorem Jsb {t:ByteArray} (h:resB t=true):lowB t=true∧seq t ⟨#[]⟩=false:=by
 unfold resB at h
 obtain ⟨x,hx,e⟩:=List.any_eq_true.1 h
 have:t=x:=(Jli.1 e).symm
 subst this
 simp only [wordL,List.mem_cons,List.not_mem_nil,or_false] at hx
 rcases hx with rfl | rfl | rfl | rfl | rfl | rfl | rfl | rfl | rfl | rfl <;> exact ⟨by decide,by decide +kernel⟩
theorem Jyn (t:ByteArray):((!seq t ⟨#[]⟩ && !Jas t) && lowB t)=resB t:=by
 cases hr:resB t with
 | true =>
  obtain ⟨h1,h2⟩:=Jsb hr
  have h3:(wordL.any fun x=>seq x t)=true:=hr
  simp [Jas,h1,h2,h3]
 | false =>
  have h3:(wordL.any fun x=>seq x t)=false:=hr
  simp only [Jas,h3]
  cases lowB t <;> cases seq t ⟨#[]⟩ <;> rfl
theorem Jio (tx:ByteArray) (w:World) (hm:(tx.size:Int)≤1000000) :
  Calls Tryz.prog 185 #[.string tx] w (RetB w (.bool (lowB tx))):=by
 refine enter Tryz.func185 rfl rfl (Nat.le_of_ble_eq_true rfl) ?_
 refine Nz 1 ?_
 refine Wd (Qc (Cs (Nz 1 ?_)))
 refine Wd (Qc (Ce ?_))
 refine CS.loopM (σ:=Int) [2,4,5,6,7,8,9,10,11,12,13,14,15,16,17,18,19] (fun s=>[(3,.int .i64 s)]) (fun _=>_) (fun s=>0≤s∧s≤tx.size∧∀ j:Int,0≤j→j < s→97≤byt tx j∧byt tx j≤122) (fun s=>(tx.size - s).toNat) 0 (fun _ _=>rfl) rfl rfl ⟨by omega,by omega,fun j _ _=>by omega⟩ ?_
 intro s t hs
 obtain ⟨hs1,hs2,hs3⟩:=hs
 refine Cs (Nz 2 ?_)
 refine Wk 1 (Jau Tryz.underlying9 rfl) ?_
 refine Wd (Qc (CS.cond rfl ?_ ?_))<;>intro hc1<;>try simp only [bq] at hc1
 ·
  refine Ck (Qc (Cs (Ce (Nz 2 ?_))))
  refine Wk 2 (Jar Tryz.underlying9 rfl rfl (by omega) (by omega)) ?_
  refine Wf 0 rfl rfl (fun hg=>Fm) ?_
  refine Wf 0 rfl rfl (fun hg=>Fm) ?_
  refine Wf 0 rfl rfl (fun hg=>Jar Tryz.underlying9 (eg_ hg rfl) (eg_ hg rfl) (by (try simp only [bq] at hg); omega) (by (try simp only [bq] at hg); omega)) ?_
  refine Wf 0 rfl rfl (fun hg=>Fg) ?_
  refine Wk 0 Po ?_
  refine Wd (Qc (CS.cond rfl ?_ ?_))<;>intro hc2<;>try simp only [bq] at hc2
  ·
   refine Nz 1 ?_
   exact Wd (Qc (Cr (Qs (Qr (Qr (Qs (Qr (out1 rfl rfl (Jai (by rw [Jk1 hs1 (by omega) (by omega)]))))))))))
  refine Ck (Qb (Qc (Ny 1 ?_)))
  refine Wk 1 Za ?_
  refine Wd ?_
  exact QS.head (s+1) rfl rfl ⟨⟨by omega,by omega,fun j h0 h1=>by
     rcases (show j < s∨j=s by omega) with h | h
     ·
      exact hs3 j h0 h
     rw [h]; omega⟩,by omega⟩
 refine Cv (Qe (Qe (Qx (Qc (Nz 1 ?_)))))
 exact Wd (Qc (Cr (out1 rfl rfl (Jai (by rw [Jib fun j h0 h1=>hs3 j h0 (by omega)])))))
theorem Jud (tx:ByteArray) (w:World) (hm:(tx.size:Int)≤1000000) :
  Calls Tryz.prog 144 #[.string tx] w (RetB w (.bool (resB tx))):=by
 refine enter Tryz.func144 rfl rfl (Nat.le_of_ble_eq_true rfl) ?_
 refine Nz 1 ?_
 refine Wd (Qc (Nz 1 ?_))
 refine Wk 1 (Jbr rfl rfl) ?_
 refine Wt 0 rfl rfl (fun hg=>Fm) ?_
 refine Wt 0 rfl rfl (fun hg=>Cb rfl (ec_ (eg_ hg rfl) en_) Jmb (fun u hu=>Jeu tx u (by omega))) ?_
 refine Wt 0 rfl rfl (fun hg=>Fn) ?_
 refine Wk 1 Pa ?_
 refine Wt 0 rfl rfl (fun hg=>Fm) ?_
 refine Wt 0 rfl rfl (fun hg=>Cb rfl (ec_ (eg_ hg rfl) en_) Jxo (fun u hu=>Jio tx u hm)) ?_
 refine Wk 1 Pa ?_
 exact Wd (Qc (Cr (out1 rfl rfl (Jai (by rw [← Jyn])))))
theorem Jxk (tx:ByteArray) (w:World) :
  Calls Tryz.prog 87 #[.string tx] w (RetB w (.int .i64 (Jdp tx))):=by
 refine enter Tryz.func87 rfl rfl (Nat.le_of_ble_eq_true rfl) ?_
 refine Nz 1 ?_
 refine Wd (Qc (Nz 0 ?_))
 refine WS.buildSlice1 (vs:=kindsL.map Value.string) sl23 zv9 rfl rfl (by decide) (by simp [kindsL,Value.oneCell']) (fun _=>rfl) ?_; intro v5
 refine WS.weak (fun u hu=>St.toRo (p:=fun u=>SlT cStr u ⟨v5,kindsL⟩) (fun S u h=>⟨Star.osl (L:=[osl 9 1 v5 8 (kindsL.map Value.string)]) (j:=0) rfl ⟨S,fun _ h=>h,h,trivial⟩,fun _ _=>trivial⟩) hu) ?_
 refine WS.roE (j:=0) rfl fun hwx=>?_
 obtain ⟨u5,hv5⟩:=hwx
 refine Wz 1 ?_
 refine Wd (Qc (Cs (Nz 1 ?_)))
 refine Wd (Qc (Ce ?_))
 refine CS.loopM (σ:=Int) [2,6,7,8,9,10,11,12,13,14,15,16,17,18] (fun s=>[(4,.int .i64 s)]) (fun s=>[roT cStr ⟨v5,kindsL⟩]) (fun s=>0≤s∧s≤8∧∀ j:Int,0≤j→j < s→seq (nth kindsL j) tx=false) (fun s=>(8 - s).toNat) 0 (fun _ _=>rfl) rfl rfl ⟨by omega,by omega,fun j _ _=>by omega⟩ ?_
 intro s t hs
 obtain ⟨hs1,hs2,hs3⟩:=hs
 have h8:((kindsL.length:Nat):Int)=8:=rfl
 refine Cs (Nz 2 ?_)
 refine Wk 1 (Nc (s:=⟨v5,kindsL⟩)) ?_
 refine Wd (Qc (CS.cond rfl ?_ ?_))<;>intro hc1<;>try simp only [bq] at hc1
 ·
  refine Ck (Qc (Cs (Ce (Nz 2 ?_))))
  refine Wk 0 (Xc (s:=⟨v5,kindsL⟩) (h1:=by show s < 8; omega)) ?_
  refine Wk 1 (Vb 0 rfl (s:=⟨v5,kindsL⟩) (h:=⟨by omega,by show s < 8; omega⟩)) ?_
  refine Wk 0 (Jav rfl rfl) ?_
  refine Wd (Qc (CS.cond rfl ?_ ?_))<;>intro hc2<;>try simp only [bq] at hc2
  ·
   refine Nz 2 ?_
   exact Wd (Qc (Cr (Qs (Qr (Qr (Qs (Qr (out1 rfl rfl (Jai (by unfold Jdp idxN; rw [Ja4 (p:=fun x=>seq (id x) tx) hs1 (by (try simp only at hc1); omega) hs3 hc2]))))))))))
  refine Ck (Qb (Qc (Ny 1 ?_)))
  refine Wk 1 Za ?_
  refine Wd ?_
  exact QS.head (s+1) rfl rfl ⟨⟨by omega,by (try simp only at hc1); omega,fun j h0 h1=>by
     rcases (show j < s∨j=s by omega) with h | h
     ·
      exact hs3 j h0 h
     rw [h]; exact hc2⟩,by (try simp only at hc1); omega⟩
 refine Cv (Qe (Qe (Qx (Qc (Nz 1 ?_)))))
 exact Wd (Qc (Cr (out1 rfl rfl (Jai (by unfold Jdp idxN; rw [Jba (p:=fun x=>seq (id x) tx) fun j h0 h1=>hs3 j h0 (by (try simp only at hc1); omega)])))))
theorem Jtl (t0:ByteArray) (most:Int) (w:World) (ht:(t0.size:Int)≤1000000) (hm:most≤3) :
  Calls Tryz.prog 143 #[.string t0,.int .i64 most] w (RetB w (.tuple #[.int .i64 ((numB most t0).getD 0),.bool (numB most t0).isSome])):=by
 refine enter Tryz.func143 rfl rfl (Nat.le_of_ble_eq_true rfl) ?_
 refine Nz 2 ?_
 refine Wd (Qc (Cs (Nz 1 ?_)))
 refine Wk 2 (Jau Tryz.underlying9 rfl) ?_
 refine Wf 0 rfl rfl (fun hg=>Fm) ?_
 refine Wf 0 rfl rfl (fun hg=>Jau Tryz.underlying9 (eg_ hg rfl)) ?_
 refine Wf 0 rfl rfl (fun hg=>Fm) ?_
 refine Wf 0 rfl rfl (fun hg=>Fg) ?_
 refine Wk 1 Po ?_
 refine Wf 0 rfl rfl (fun hg=>Fm) ?_
 refine Wf 0 rfl rfl (fun hg=>Jar Tryz.underlying9 (eg_ hg rfl) rfl (by decide) (by have h9:=hg; (try simp at h9); omega)) ?_
 refine Wf 0 rfl rfl (fun hg=>Fq) ?_
 refine Wf 0 rfl rfl (fun hg=>Fm (eg_ hg rfl)) ?_
 refine Wn 0 rfl rfl rfl (fun hg=>Fm) ?_
 refine Wn 0 rfl rfl rfl (fun hg=>Jau Tryz.underlying9 (eg_ hg rfl)) ?_
 refine Wn 0 rfl rfl rfl (fun hg=>Fg) ?_
 refine Wf 0 rfl rfl (fun hg=>Jbb (eg_ hg rfl) (Jco hg rfl) rfl) ?_
 refine Wk 0 Po ?_
 refine Wd (Qc (CS.cond rfl ?_ ?_))<;>intro hc1<;>try simp only [bq] at hc1
 ·
  have hno:numB most t0=none:=by
   by_cases hz:(1:Int)≤t0.size∧(t0.size:Int)≤most
   ·
    exact Jit (.inr (by have h9:=hc1; (try simp at h9); omega))
   exact Jit (.inl (by unfold Jbg; rw [show (decide ((1:Int)≤t0.size) && decide ((t0.size:Int)≤most))=false by simp; omega]; rfl))
  refine Nz 2 ?_
  exact Wd (Qc (Cr (Qr (out2 rfl rfl rfl (Jai (by rw [hno]; rfl))))))
 have hsz:(1:Int)≤t0.size∧(t0.size:Int)≤most:=by have h9:=hc1; (try simp at h9); omega
 have hz0:byt t0 0=48→¬ (1:Int) < t0.size:=by have h9:=hc1; (try simp at h9); omega
 refine Ck (Qc (Nz 1 ?_))
 refine Wd (Qc (Cs (Nz 1 ?_)))
 refine Wd (Qc (Ce ?_))
 refine CS.loopM (σ:=Int × Int) [4,5,27,28,29,30,31,32,33,34,35,36,37,38,39,40,41,42,43,44,45,46,47,48,49,50] (fun s=>[(7,.int .i64 s.1),(6,.int .i64 s.2)]) (fun _=>_) (fun s=>0≤s.1∧s.1≤t0.size∧(∀ j:Int,0≤j→j < s.1→48≤byt t0 j∧byt t0 j≤57)∧s.2=numL ((bl t0).take s.1.toNat)∧(0≤s.2∧s.2≤999∧(s.1=0→s.2=0)∧(s.1=1→s.2≤9)∧(s.1=2→s.2≤99))) (fun s=>(t0.size - s.1).toNat) (0,0) (fun _ _=>rfl) rfl rfl ⟨by simp,by simp,fun j _ _=>by omega,rfl,by simp⟩ ?_
 intro q t hs
 obtain ⟨hs1,hs2,hs3,hs4,hs5⟩:=hs
 refine Cs (Nz 2 ?_)
 refine Wk 1 (Jau Tryz.underlying9 rfl) ?_
 refine Wd (Qc (CS.cond rfl ?_ ?_))<;>intro hc2<;>try simp only [bq] at hc2
 ·
  refine Ck (Qc (Cs (Ce (Cs (Nz 2 ?_)))))
  refine Wk 2 (Jar Tryz.underlying9 rfl rfl (by omega) (by omega)) ?_
  refine Wf 0 rfl rfl (fun hg=>Fm) ?_
  refine Wf 0 rfl rfl (fun hg=>Fm) ?_
  refine Wf 0 rfl rfl (fun hg=>Jar Tryz.underlying9 (eg_ hg rfl) (eg_ hg rfl) (by (try simp only [bq] at hg); omega) (by (try simp only [bq] at hg); omega)) ?_
  refine Wf 0 rfl rfl (fun hg=>Fg) ?_
  refine Wk 0 Po ?_
  refine Wd (Qc (CS.cond rfl ?_ ?_))<;>intro hc3<;>try simp only [bq] at hc3
  ·
   have hno:numB most t0=none:=Jit (.inl (by unfold Jbg; rw [Jw9 hs1 (show q.1 < t0.size by omega) (by have h9:=hc3; (try simp at h9); omega)]; simp))
   refine Nz 2 ?_
   exact Wd (Qc (Cr (Qr (Qs (Qr (Qr (Qs (Qr (out2 rfl rfl rfl (Jai (by rw [hno]; rfl)))))))))))
  refine Ck (Qc (Ny 1 ?_))
  refine Wk 2 Zc ?_
  refine Wk 0 (Jar Tryz.underlying9 rfl rfl (by omega) (by omega)) ?_
  refine Wk 0 (Jqv rfl rfl (by have h9:=hc3; (try simp at h9); have:=Jl8 (t:=t0) (i:=q.1); omega)) ?_
  refine Wk 0 (Jmy Tryz.underlying5 Tryz.underlying3 rfl (by have h9:=hc3; (try simp at h9); have:=Jl8 (t:=t0) (i:=q.1); omega)) ?_
  refine Wk 1 (Jhv rfl rfl (by have h9:=hc3; (try simp at h9); have:=Jl8 (t:=t0) (i:=q.1); omega)) ?_
  refine Wd (Qb (Qc (Ny 1 ?_)))
  refine Wk 1 Za ?_
  refine Wd ?_
  exact QS.head ((q.1+1,10 * q.2+(byt t0 q.1 - 48))) rfl rfl (by
     have h9:=hc3; (try simp at h9)
     have hb9:=Jl8 (t:=t0) (i:=q.1)
     refine ⟨⟨by simp; omega,by simp; omega,fun j h0 h1=>?_,by show _=numL ((bl t0).take (q.1+1).toNat); rw [Jsn hs1 (by omega),hs4],by simp only; omega⟩,by simp only; omega⟩
     rcases (show j < q.1∨j=q.1 by simp only at h1; omega) with h | h
     ·
      exact hs3 j h0 h
     rw [h]; omega)
 have hfin:(bl t0).take q.1.toNat=bl t0:=List.take_of_length_le (by rw [Jbw]; omega)
 have hd:Jbg t0 most=true:=by
  unfold Jbg
  rw [Jvt fun j h0 h1=>hs3 j h0 (by omega)]
  simp; omega
 have hyes:numB most t0=some (numL (bl t0)):=Joy hd hz0
 refine Cv (Qe (Qe (Qx (Qc (Nz 3 ?_)))))
 exact Wd (Qc (Cr (out2 rfl rfl rfl (Jai (by rw [hyes,hs4,hfin]; rfl)))))
end Go.Proofs.YtkekjhcmephhjaaGreatDoor
