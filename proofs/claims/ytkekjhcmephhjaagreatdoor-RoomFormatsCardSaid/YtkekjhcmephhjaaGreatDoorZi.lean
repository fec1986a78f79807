/- Merged texts of this proof (walks and plain laws), printed by a program of the prover. -/
import Derived.Test.YtkekjhcmephhjaaGreatDoorZh
import Derived.Lib.SmallJoins
import Derived.Test.YtkekjhcmephhjaaGreatDoorZb
import Derived.Test.YtkekjhcmephhjaaGreatDoorZf
set_option maxHeartbeats 8000000
namespace Go.Proofs.YtkekjhcmephhjaaGreatDoor
open Go.RowKit Go.Proofs
set_option maxRecDepth 100000
set_option linter.unusedVariables false
set_option linter.unusedSimpArgs false
def rds0:RdS:=⟨room0,0,⟨.slice none 0 0,[]⟩⟩
theorem rdr0 {n0:Nat} {w0 u:World} {xb:Nat} {A:SA} (h:St n0 w0 [blk xb (Jnl rds0) 56,A] u):St n0 w0 [rdr xb rds0,A] u:=by
 have h1:=(((((h.osl0 (e:=77) (size:=3)).osl0 (e:=73) (size:=8)).osl0 (e:=69) (size:=3)).osl0 (e:=67) (size:=3)).osl0 (e:=65) (size:=4)).osl0 (e:=9) (size:=1)
 have h2:=(h1.roTrue (p:=elOk room0) (fun u=>⟨fun _ h=>(by cases h),fun _ h=>(by cases h),fun _ h=>(by cases h),fun _ h=>(by cases h),SlT.nil cLit u⟩)).roTrue (p:=fun u=>SlT cStr u ⟨.slice none 0 0,[]⟩) (SlT.nil cStr)
 exact St.pack (L1:=Jam xb rds0) (h2.sel [8,2,2,2,2,2,2,1,0,0] rfl)
theorem Jlv {L:List SA} {S:Nat→Prop} {u:World} {xb:Nat} {s:RdS} (h:Star (Jam xb s++L) S u):RoomOk u s.r:=by
 have he:elOk s.r u:=Star.ro (L:=Jam xb s++L) (j:=7) rfl h
 exact ⟨⟨Star.osl (L:=Jam xb s++L) (j:=1) rfl h,fun _ _=>trivial⟩,⟨Star.osl (L:=Jam xb s++L) (j:=2) rfl h,fun _ _=>trivial⟩,⟨Star.osl (L:=Jam xb s++L) (j:=3) rfl h,he.1⟩,⟨Star.osl (L:=Jam xb s++L) (j:=4) rfl h,he.2.1⟩,
  ⟨Star.osl (L:=Jam xb s++L) (j:=5) rfl h,he.2.2.1⟩,⟨Star.osl (L:=Jam xb s++L) (j:=6) rfl h,he.2.2.2.1⟩,he.2.2.2.2⟩
theorem St.room {n0:Nat} {w0 u:World} {L:List SA} {xb:Nat} {s:RdS} (h:St n0 w0 (Jam xb s++L) u):RoomOk u s.r:=Jlv h.star
def Jkj (w:World) (x:Room × Int × Int):Ending→World→Prop:=fun e w'=>∃ y:Room,(y.e=x.1.e∧∃ u0,RoomOk u0 y)∧RetF w (.tuple #[.agg (Room.cells y).toArray,.int .i64 x.2.1,.int .i64 x.2.2]) (roS fun u=>RoomOk u y) e w'
theorem Joc (u:World):RoomOk u room0:=⟨SlT.nil _ _,SlT.nil _ _,SlT.nil _ _,SlT.nil _ _,SlT.nil _ _,SlT.nil _ _,SlT.nil _ _⟩
theorem Jgp {w0 u:World} {L:List SA} {x:Room × Int × Int} {n e:Int} (hx:x=(room0,n,e)) (hu:St w0.heap.size w0 L u):Jkj w0 x (.returned (.tuple #[.agg (Room.cells room0).toArray,.int .i64 n,.int .i64 e])) u:=by
 subst hx
 exact ⟨room0,⟨rfl,u,Joc u⟩,retR (p:=fun u=>RoomOk u room0) (fun _ u _=>Joc u) u hu⟩
theorem Jwp {w0 u:World} {L:List SA} {x:Room × Int × Int} {xb:Nat} {s:RdS} {rp:Room} (hx:x=(rp,0,0)) (he:s.r.e=rp.e) (hu:St w0.heap.size w0 (Jam xb s++L) u):Jkj w0 x (.returned (.tuple #[.agg (Room.cells s.r).toArray,.int .i64 0,.int .i64 0])) u:=by
 subst hx
 exact ⟨s.r,⟨he,u,hu.room⟩,retR (p:=fun u=>RoomOk u s.r) (fun _ u h=>Jlv h) u hu⟩
theorem J3s (tx:ByteArray) (w:World) (hM:MaxOk w) (hs:tx.size≤100000) :
  Calls Tryz.prog 18 #[.string tx,.string ⟨#[10]⟩] w (RetB w (.tuple #[.string (ba (Lib.cut (bl tx) [10]).1),.string (ba (Lib.cut (bl tx) [10]).2.1),.bool (Lib.cut (bl tx) [10]).2.2])):=by
 obtain ⟨m,hm⟩:=hM
 refine (Tryz.strings_Cut tx ⟨#[10]⟩ m w (by omega) hm).mono ?_
 rintro e w' ⟨rfl,n,rfl⟩
 exact ⟨rfl,below_drewN (Below.refl _ _) n⟩
def J18 (xb:Nat):Option (RdS × Int × Ln)→SA
 | some y=>rdr xb y.1
 | none=>star []
theorem J2j {w u:World} {Ls:List SA} (xb:Nat) (sx:RdS) (hu:St w.heap.size w (rdr xb sx::Ls) u) (g:Sl ByteArray) (hG:GOk w g) (gk:Sl ByteArray) (hK:KOk w gk) (hM:MaxOk w) (t0:ByteArray) (ht:t0.size≤65536) (hkd:0≤sx.kd∧sx.kd≤7) (hb:RdB 65536 sx.r) :
  Calls Tryz.prog 19 #[.pointer (some ⟨xb,0,none⟩),.string t0] u (fun e u'=>(∃ x:Option (RdS × Int × Ln),(match x with
   | some y=>Jcd sx.r sx.kd t0=some (y.2.1,y.2.2)∧y.1.r.e=(addL sx.r y.2.2).e∧y.1.kd=y.2.1
   | none=>Jcd sx.r sx.kd t0=none)∧e = .returned (.bool x.isSome)∧St w.heap.size w (J18 xb x::Ls) u')∨(False∧e = .panicked []∧St w.heap.size w Ls u')):=by
 refine (J2m (star Ls) xb sx hu.tailPack g hG gk hK hM t0 ht hkd hb).mono ?_
 rintro e u' (⟨s',k,x,h1,h2,h3⟩ | ⟨h1,h2,h3⟩)
 ·
  exact .inl ⟨some (s',k,x),h1,h2,h3.tailUnpack⟩
 exact .inl ⟨none,h1,h2,(St.pack (L1:=[]) h3.oneUnpack)⟩
theorem Jqi {n0:Nat} {w0 u:World} {L:List SA} {xb:Nat} {y:RdS × Int × Ln} (h:St n0 w0 (J18 xb (some y)::L) u):St n0 w0 (rdr xb y.1::L) u:=h
structure PrI (t0:ByteArray) (s:RdS) (rest:ByteArray) (i:Int) (rp:Room):Prop where
 e:s.r.e=rp.e
 v:Ji5 t0=Jel rp s.kd i (Jao 10 rest)
 i0:0≤i
 sz:i+rest.size≤t0.size
 j:RdJ i.toNat rp
 k:0≤s.kd∧s.kd≤7
theorem PrI.start (t0:ByteArray):PrI t0 rds0 t0 0 room0:=⟨rfl,rfl,by omega,by omega,RdJ.zero,by decide⟩
theorem PrI.next {t0:ByteArray} {s s':RdS} {rest:ByteArray} {i k:Int} {rp:Room} {x:Ln} (h:PrI t0 s rest i rp) (ht:t0.size≤40000) (hc:(Lib.cut (bl rest) [10]).2.2=true) (hl:Jcd s.r s.kd (ba (Lib.cut (bl rest) [10]).1)=some (k,x)) (he:s'.r.e=(addL s.r x).e) (hk:s'.kd=k) :
  PrI t0 s' (ba (Lib.cut (bl rest) [10]).2.1) (i+1) (addL rp x):=by
 obtain ⟨h1,h2,h3⟩:=Jfh hc
 have hsz:=h.sz
 have hi:=h.i0
 have hl2:Jcd rp s.kd (ba (Lib.cut (bl rest) [10]).1)=some (k,x):=by rw [← Jpw h.e]; exact hl
 have hkk:=Jwj hl
 have hk0:=h.k
 refine ⟨he.trans (J0i h.e x),?_,by omega,by omega,?_,?_⟩
 ·
  rw [h.v,h1,Jmt (Jjn _ _) hl2,hk]
 ·
  rw [show (i+1).toNat=i.toNat+1 by omega]
  exact h.j.add x fun nm hn=>Nat.le_trans (Jvs hl nm hn) (by omega)
 rw [hk]; omega
theorem PrI.bad {t0:ByteArray} {s:RdS} {rest:ByteArray} {i:Int} {rp:Room} (h:PrI t0 s rest i rp) (hc:(Lib.cut (bl rest) [10]).2.2=true) (hl:Jcd s.r s.kd (ba (Lib.cut (bl rest) [10]).1)=none):Ji5 t0=(room0,i+1,4):=by
 rw [h.v,(Jfh hc).1,Jta (Jjn _ _) (by rw [← Jpw h.e]; exact hl)]
theorem PrI.open_ {t0:ByteArray} {s:RdS} {rest:ByteArray} {i:Int} {rp:Room} (h:PrI t0 s rest i rp) (hc:(Lib.cut (bl rest) [10]).2.2=false) (hn:seq rest ⟨#[]⟩=false):Ji5 t0=(room0,i+1,4):=by
 rw [h.v,Jmb hc,Jf6,if_neg (by rw [hn]; decide)]
theorem PrI.fin {t0:ByteArray} {s:RdS} {rest:ByteArray} {i:Int} {rp:Room} (h:PrI t0 s rest i rp) (hn:seq rest ⟨#[]⟩=true):Ji5 t0=finP rp s.kd i:=by
 rw [h.v,Jit.1 hn,Jq2,Jf6,if_pos (Jcy _)]
theorem PrI.rdb {t0:ByteArray} {s:RdS} {rest:ByteArray} {i:Int} {rp:Room} (h:PrI t0 s rest i rp) (ht:t0.size≤40000):RdB 65536 s.r:=by
 have:=h.j.en h.e
 have hsz:=h.sz
 exact ⟨Nat.le_trans this.pls (by omega),Nat.le_trans this.ths (by omega),Nat.le_trans this.prs (by omega),Nat.le_trans this.wys (by omega),Nat.le_trans this.acs (by omega),Nat.le_trans this.aus (by omega)⟩
theorem Jyt (t0:ByteArray) (w:World) (g:Sl ByteArray) (hG:GOk w g) (gk:Sl ByteArray) (hK:KOk w gk) (hM:MaxOk w) (ht:t0.size≤40000) :
  Calls Tryz.prog 6 #[.string t0] w (Jkj w (Ji5 t0)):=by
 refine enter Tryz.func6 rfl rfl (Nat.le_of_ble_eq_true rfl) ?_
 refine Nz 0 ?_
 refine Wl 2 zv32 (fun _=>rfl) (fun _=>rfl) fun b2 hb2=>?_
 refine Wd (Qc (Cs (Nz 1 ?_)))
 refine Wk 1 (Jbb Tryz.underlying9 rfl) ?_
 refine Wd (Qc (CS.cond rfl ?_ ?_))<;>intro hc1<;>try simp only [bq] at hc1
 ·
  exact absurd hc1 (by omega)
 refine Ck (Qc (Nz 0 ?_))
 refine Wk 0 (Db J3v zv56) ?_
 refine Wb 1 rfl rfl (fun _=>rfl) (fun _=>rfl) fun b15 hb15=>?_
 refine Wd (Qc (Cs (Ce ?_)))
 refine CS.weak (fun u hu=>rdr0 hu) ?_
 refine CS.loopM (σ:=RdS × ByteArray × Int) [4,6,7,8,16,17,18,19,20,21,22,23,24,25,26,27,28,29,30,31,32,33,34,35,36] (fun s=>[(0,.string s.2.1),(3,.int .i64 s.2.2)]) (fun s=>[rdr b15 s.1,blk b2 (Room.cells room0) 32]) (fun s=>∃ rp,PrI t0 s.1 s.2.1 s.2.2 rp) (fun s=>s.2.1.size) (rds0,t0,0) (fun _ _=>rfl) rfl rfl ⟨_,PrI.start t0⟩ ?_
 intro q t hs
 obtain ⟨rp,hqi⟩:=hs
 have hsz:=hqi.sz
 have hi0:=hqi.i0
 refine Cs (Nz 1 ?_)
 refine Wk 0 (Jcm rfl rfl) ?_
 refine Wd (Qc (CS.cond rfl ?_ ?_))<;>intro hc2<;>try simp only [bq] at hc2
 ·
  refine Ck (Qc (Ce (Nz 1 ?_)))
  refine Wk 1 Za ?_
  refine Wd (Qc (Nz 1 ?_))
  refine Wk 7 (Cb rfl rfl J4w (fun u hu=>J3s q.2.1 u (hM.st hu) (by omega))) ?_
  refine Wd (Qc (Cs (Cs ?_)))
  rcases Bool.eq_false_or_eq_true (!(Lib.cut (bl q.2.1) [10]).2.2) with hb | hb
  ·
   have hcf:(Lib.cut (bl q.2.1) [10]).2.2=false:=by simpa using hb
   refine Ny 2 ?_
   refine Wk 0 (Jbg (v:=.bool true) (congrArg (fun b=>some (Value.bool b)) hb)) ?_
   refine Wf 0 rfl rfl (fun hg=>Fy_ (by cases hg)) ?_
   refine Wf 0 rfl rfl (fun hg=>Fy_ (by cases hg)) ?_
   refine Wf 0 rfl rfl (fun hg=>Fy_ (by cases hg)) ?_
   refine Wf 0 rfl rfl (fun hg=>Fz_ (by cases hg)) ?_
   refine Wk 0 Po ?_
   refine Wd (Qc (CS.cond rfl ?_ ?_))<;>intro hc3<;>try simp only [bq] at hc3
   ·
    have hbad:=hqi.open_ hcf hc2
    refine Nz 0 ?_
    refine Wk 1 (Db Jp7 zv32) ?_
    refine Wv 2 1 ?_
    exact Wd (Qc (Cr (Qr (Qs (Qr (Qs (Qr (outR (Jla rfl (Jbl (j:=1) rfl rfl tk32) rfl rfl) (fun u hu=>Jgp hbad hu)))))))))
   exact absurd hc3 (by simp)
  have hct:(Lib.cut (bl q.2.1) [10]).2.2=true:=by simpa using hb
  have hsc:=(Jfh hct).2.1
  refine Ny 2 ?_
  refine Wk 0 (Jbg (v:=.bool false) (congrArg (fun b=>some (Value.bool b)) hb)) ?_
  refine Wf 0 rfl rfl (fun hg=>Fm) ?_
  refine Wf 0 rfl rfl (fun hg=>Fm) ?_
  refine WS.callPg rfl rfl rfl J45 (fun u hu=>J2j b15 q.1 hu g hG gk hK hM (ba (Lib.cut (bl q.2.1) [10]).1) (by omega) hqi.k (hqi.rdb ht)) (fun _=>rfl) (fun hq u hu=>hq.elim) ?_; rintro x hx
  refine Wf 0 rfl rfl (fun hg=>Fn) ?_
  refine Wk 0 Po ?_
  refine Wd (Qc (CS.cond rfl ?_ ?_))<;>intro hc3<;>try simp only [bq] at hc3
  ·
   obtain rfl:x=none:=by
    cases x with
    | some y=>exact absurd hc3 (by simp)
    | none=>rfl
   have hbad:=hqi.bad hct hx
   refine Nz 0 ?_
   refine Wk 1 (Db Jp7 zv32) ?_
   refine Wv 2 1 ?_
   exact Wd (Qc (Cr (Qr (Qs (Qr (Qs (Qr (outR (Jla rfl (Jbl (j:=1) rfl rfl tk32) rfl rfl) (fun u hu=>Jgp hbad hu)))))))))
  obtain ⟨y,rfl⟩:∃ y,x=some y:=by
   cases x with
   | some y=>exact ⟨y,rfl⟩
   | none=>exact absurd hc3 (by simp)
  obtain ⟨hx1,hx2,hx3⟩:=hx
  refine CS.weak (fun u hu=>Jqi hu) ?_
  refine Ck (Qc (Ny 2 ?_))
  exact Wd (Qb (QS.head ((y.1,ba (Lib.cut (bl q.2.1) [10]).2.1,q.2.2+1)) rfl rfl ⟨⟨_,hqi.next ht hct hx1 hx2 hx3⟩,(Jfh hct).2.2⟩))
 have hfin:=hqi.fin hc2
 refine Cv (Qe (Qe (Qx (Qc (Cs (Cs ?_))))))
 refine CS.weak (fun u hu=>St.unpack (L1:=Jam b15 q.1) hu) ?_
 refine Ny 3 ?_
 refine Wk 1 (by first | exact Jd1 rfl (by assumption) (by omega) tk3 | exact Jaa (j:=0) rfl rfl rfl tk3 | exact Jaa (j:=1) rfl rfl rfl tk3 | exact Jaa (j:=2) rfl rfl rfl tk3 | exact Jaa (j:=3) rfl rfl rfl tk3 | exact Jaa (j:=4) rfl rfl rfl tk3 | exact Jaa (j:=5) rfl rfl rfl tk3 | exact Jaa (j:=6) rfl rfl rfl tk3 | exact Jaa (j:=7) rfl rfl rfl tk3 | exact Jaa (j:=8) rfl rfl rfl tk3 | exact Jaa (j:=9) rfl rfl rfl tk3 | exact Jaa (j:=10) rfl rfl rfl tk3 | exact Jaa (j:=11) rfl rfl rfl tk3 | exact Jab rfl (by assumption) rfl tk3) ?_
 refine Wd (Qc (CS.cond rfl ?_ ?_))<;>intro hc4<;>try simp only [bq] at hc4
 ·
  refine Nz 0 ?_
  refine Wk 1 (Db Jp7 zv32) ?_
  refine Wk 0 Za ?_
  refine Wv 2 9 ?_
  exact Wd (Qc (Cr (Qr (outR (Jla rfl (Jbl (j:=9) rfl rfl tk32) rfl rfl) (fun u hu=>Jgp (by rw [hfin,finP,if_pos hc4]) hu)))))
 have hce:=(Jeq hqi.e).checkE
 refine Ck (Qc (Cs (Nz 3 ?_)))
 refine Wk 0 (by first | exact Jad (j:=0) rfl rfl tk32 | exact Jad (j:=1) rfl rfl tk32 | exact Jad (j:=2) rfl rfl tk32 | exact Jad (j:=3) rfl rfl tk32 | exact Jad (j:=4) rfl rfl tk32 | exact Jad (j:=5) rfl rfl tk32 | exact Jad (j:=6) rfl rfl tk32 | exact Jad (j:=7) rfl rfl tk32 | exact Jad (j:=8) rfl rfl tk32 | exact Jad (j:=9) rfl rfl tk32 | exact Jad (j:=10) rfl rfl tk32 | exact Jad (j:=11) rfl rfl tk32 | exact Jae (j:=0) rfl rfl (by rfl) tk32 | exact Jae (j:=1) rfl rfl (by rfl) tk32 | exact Jae (j:=2) rfl rfl (by rfl) tk32 | exact Jae (j:=3) rfl rfl (by rfl) tk32 | exact Jae (j:=4) rfl rfl (by rfl) tk32 | exact Jae (j:=5) rfl rfl (by rfl) tk32 | exact Jae (j:=6) rfl rfl (by rfl) tk32 | exact Jae (j:=7) rfl rfl (by rfl) tk32 | exact Jae (j:=8) rfl rfl (by rfl) tk32 | exact Jae (j:=9) rfl rfl (by rfl) tk32 | exact Jae (j:=10) rfl rfl (by rfl) tk32 | exact Jae (j:=11) rfl rfl (by rfl) tk32 | exact Jai rfl (by assumption) (by rfl) tk32 | exact Jaf (n:=8) (j:=0) rfl rfl rfl rfl tk32 | exact Jaf (n:=8) (j:=1) rfl rfl rfl rfl tk32 | exact Jaf (n:=8) (j:=2) rfl rfl rfl rfl tk32 | exact Jaf (n:=8) (j:=3) rfl rfl rfl rfl tk32 | exact Jaf (n:=8) (j:=4) rfl rfl rfl rfl tk32 | exact Jaf (n:=8) (j:=5) rfl rfl rfl rfl tk32 | exact Jaf (n:=8) (j:=6) rfl rfl rfl rfl tk32 | exact Jaf (n:=8) (j:=7) rfl rfl rfl rfl tk32 | exact Jaf (n:=8) (j:=8) rfl rfl rfl rfl tk32 | exact Jaf (n:=8) (j:=9) rfl rfl rfl rfl tk32 | exact Jaf (n:=8) (j:=10) rfl rfl rfl rfl tk32 | exact Jaf (n:=8) (j:=11) rfl rfl rfl rfl tk32) ?_
 refine Wk 1 (Cb rfl rfl Jww (fun u hu=>Jik q.1.r u (St.room (xb:=b15) (s:=q.1) hu) g (hG.st hu) (hqi.j.en hqi.e).nm)) ?_
 refine Wd (Qc (Nz 2 ?_))
 refine Wd (Qc (CS.cond rfl ?_ ?_))<;>intro hc5<;>try simp only [bq] at hc5
 ·
  refine Nz 0 ?_
  refine Wk 1 (Db Jp7 zv32) ?_
  refine Wv 2 9 ?_
  exact Wd (Qc (Cr (Qr (outR (Jla rfl (Jbl (j:=9) rfl rfl tk32) rfl rfl) (fun u hu=>Jgp (by rw [hfin,finP,if_neg (by omega),if_pos (hce ▸ hc5),hce]) hu)))))
 refine Ck (Qc (Cs ?_))
 refine CS.stE fun hst=>?_
 obtain ⟨uu,huu⟩:=hst
 have hro:=St.room (xb:=b15) (s:=q.1) huu
 have o1:=Sl.one hro.pls
 have o2:=Sl.one hro.ths
 have o3:=Sl.one hro.prs
 have o4:=Sl.one hro.wys
 have o5:=Sl.one hro.acs
 have o6:=Sl.one hro.aus
 have o7:=Sl.one hro.gl
 refine Ny 3 ?_
 refine Wk 0 (by first | exact Jad (j:=0) rfl rfl tk32 | exact Jad (j:=1) rfl rfl tk32 | exact Jad (j:=2) rfl rfl tk32 | exact Jad (j:=3) rfl rfl tk32 | exact Jad (j:=4) rfl rfl tk32 | exact Jad (j:=5) rfl rfl tk32 | exact Jad (j:=6) rfl rfl tk32 | exact Jad (j:=7) rfl rfl tk32 | exact Jad (j:=8) rfl rfl tk32 | exact Jad (j:=9) rfl rfl tk32 | exact Jad (j:=10) rfl rfl tk32 | exact Jad (j:=11) rfl rfl tk32 | exact Jae (j:=0) rfl rfl (by rfl) tk32 | exact Jae (j:=1) rfl rfl (by rfl) tk32 | exact Jae (j:=2) rfl rfl (by rfl) tk32 | exact Jae (j:=3) rfl rfl (by rfl) tk32 | exact Jae (j:=4) rfl rfl (by rfl) tk32 | exact Jae (j:=5) rfl rfl (by rfl) tk32 | exact Jae (j:=6) rfl rfl (by rfl) tk32 | exact Jae (j:=7) rfl rfl (by rfl) tk32 | exact Jae (j:=8) rfl rfl (by rfl) tk32 | exact Jae (j:=9) rfl rfl (by rfl) tk32 | exact Jae (j:=10) rfl rfl (by rfl) tk32 | exact Jae (j:=11) rfl rfl (by rfl) tk32 | exact Jai rfl (by assumption) (by rfl) tk32 | exact Jaf (n:=8) (j:=0) rfl rfl rfl rfl tk32 | exact Jaf (n:=8) (j:=1) rfl rfl rfl rfl tk32 | exact Jaf (n:=8) (j:=2) rfl rfl rfl rfl tk32 | exact Jaf (n:=8) (j:=3) rfl rfl rfl rfl tk32 | exact Jaf (n:=8) (j:=4) rfl rfl rfl rfl tk32 | exact Jaf (n:=8) (j:=5) rfl rfl rfl rfl tk32 | exact Jaf (n:=8) (j:=6) rfl rfl rfl rfl tk32 | exact Jaf (n:=8) (j:=7) rfl rfl rfl rfl tk32 | exact Jaf (n:=8) (j:=8) rfl rfl rfl rfl tk32 | exact Jaf (n:=8) (j:=9) rfl rfl rfl rfl tk32 | exact Jaf (n:=8) (j:=10) rfl rfl rfl rfl tk32 | exact Jaf (n:=8) (j:=11) rfl rfl rfl rfl tk32) ?_
 refine Wv 2 9 ?_
 exact Wd (Qc (Cr (outR (Jla rfl (Jbl (j:=9) rfl rfl tk32) rfl rfl) (fun u hu=>Jwp (xb:=b15) (s:=q.1) (by rw [hfin,finP,if_neg (by omega),if_neg (by rw [← hce]; omega)]) hqi.e hu))))
end Go.Proofs.YtkekjhcmephhjaaGreatDoor
