/- Merged texts of this proof (walks and plain laws), printed by a program of the prover. -/
import Derived.Test.YtkekjhcmephhjaaGreatDoorZq
import Derived.Test.YtkekjhcmephhjaaGreatDoorZb
import Derived.Test.YtkekjhcmephhjaaGreatDoorShelf
import Derived.Test.YtkekjhcmephhjaaGreatDoorZc
import Derived.Lib.AppendIntMem
import Derived.Test.YtkekjhcmephhjaaGreatDoorZg
import Derived.Test.YtkekjhcmephhjaaGreatDoorZd
set_option maxHeartbeats 8000000
namespace Go.Proofs.YtkekjhcmephhjaaGreatDoor
open Go.RowKit Go.Proofs
set_option maxRecDepth 100000
set_option linter.unusedVariables false
set_option linter.unusedSimpArgs false
structure Bld where
 us:Bool
 v:Value
 bs:ByteArray
def Jc0 (b:Nat) (x:Bld):List Value:=[if x.us=true then .pointer (some ⟨b,0,none⟩) else .pointer none,x.v]
def Joq (x:Bld):SA:=osl 5 1 x.v x.bs.size (Lib.strCells x.bs)
def Jgc (b:Nat) (x:Bld):List SA:=[blk b (Jc0 b x) 81,Joq x]
def bldr (b:Nat) (x:Bld):SA:=star (Jgc b x)
theorem Jnj {n0:Nat} {w u:World} {L:List SA} (bb:Nat) (x:Bld) (hu:St n0 w (blk bb (Jc0 bb x) 81::L) u) :
  Calls Tryz.prog 106 #[.pointer (some ⟨bb,0,none⟩)] u (fun e u'=>e = .returned (.tuple #[])∧St n0 w (blk bb (Jc0 bb { x with us:=true }) 81::L) u'):=by
 obtain ⟨hb0,hb⟩:=hu.blk (j:=0) rfl
 have h0:u.cell? ⟨bb,0,none⟩=some (if x.us=true then .pointer (some ⟨bb,0,none⟩) else .pointer none):=by simp [World.cell?,hb,Jc0]
 cases hx:x.us with
 | true =>
  rw [hx] at h0
  refine (Any.Builder_copyCheck_used (ρ:=Tryz.lays156_ren) { Tryz.lays156 with } Tryz.Builder_Extra_156.toX72 bb u h0).mono ?_
  rintro e w' ⟨rfl,rfl⟩
  refine ⟨rfl,?_⟩
  rw [show ({ x with us:=true }:Bld)=x by cases x; cases hx; rfl]
  exact hu
 | false =>
  rw [hx] at h0
  refine (Any.Builder_copyCheck_fresh (ρ:=Tryz.lays156_ren) { Tryz.lays156 with } Tryz.Builder_Extra_156.toX72 bb u h0 (by simp [World.shape?,hb,Jc0]; rfl) (Lib.frozen_of_heap hb 0)).mono ?_
  rintro e w' ⟨rfl,rfl⟩
  refine ⟨rfl,?_⟩
  have:=hu.store (j:=0) rfl 0 (.pointer (some ⟨bb,0,none⟩))
  exact this
theorem Jnr {n0:Nat} {w u:World} {L:List SA} (bb:Nat) (x:Bld) (hu:St n0 w (blk bb (Jc0 bb x) 81::L) u) :
  Calls Tryz.prog 106 #[.pointer (some ⟨bb,0,none⟩)] u (fun e u'=>(∃ y:Unit,True∧e = .returned (.tuple #[])∧St n0 w (blk bb (Jc0 bb { x with us:=true }) 81::L) u')∨(False∧e = .panicked []∧St n0 w L u')) :=
 (Jnj bb x hu).mono fun _ _ h=>.inl ⟨(),trivial,h.1,h.2⟩
theorem Jlp (a b:ByteArray):Lib.strCells (a++b)=Lib.strCells a++Lib.strCells b:=by simp [Lib.strCells,ByteArray.data_append]
theorem Jq4 (v:Value) (a b:ByteArray):osl 5 1 v (a.size+b.size) (Lib.strCells a++Lib.strCells b)=Joq ⟨true,v,a++b⟩:=by
 unfold Joq
 rw [Jlp,ByteArray.size_append]
theorem Jwg {w u:World} (R:SA) (bb:Nat) (sx:Bld) (hu:St w.heap.size w [bldr bb sx,R] u) (t0:ByteArray) (hs:sx.bs.size+t0.size≤1000000) :
  Calls Tryz.prog 27 #[.pointer (some ⟨bb,0,none⟩),.string t0] u (RetX w R [] (fun y:Bld=>y.bs=sx.bs++t0) False (fun _=>.tuple #[.int .i64 t0.size,.nilIface]) (fun y=>bldr bb y)):=by
 refine Jdd hu Tryz.func27 rfl rfl (Nat.le_of_ble_eq_true rfl) ?_
 refine CS.unpack (L1:=Jgc bb sx) ?_
 refine Nz 2 ?_
 refine Wd (Qc (Nz 1 ?_))
 refine WS.callP rfl rfl J1t (fun u hu=>Jnr bb sx hu) (fun _=>rfl) (fun hq u hu=>hq.elim) ?_; rintro ⟨⟩ _
 refine Wd (Qc (Nz 4 ?_))
 refine Wk 1 (by first | exact J0n rfl (by assumption) (by omega) tk79 | exact Jvy (j:=1) rfl rfl (by assumption) (by omega) tk79 | exact Jaa (j:=0) rfl rfl rfl tk79 | exact Jaa (j:=1) rfl rfl rfl tk79 | exact Jaa (j:=2) rfl rfl rfl tk79 | exact Jaa (j:=3) rfl rfl rfl tk79 | exact Jaa (j:=4) rfl rfl rfl tk79 | exact Jaa (j:=5) rfl rfl rfl tk79 | exact Jaa (j:=6) rfl rfl rfl tk79 | exact Jaa (j:=7) rfl rfl rfl tk79 | exact Jaa (j:=8) rfl rfl rfl tk79 | exact Jaa (j:=9) rfl rfl rfl tk79 | exact Jab rfl (by assumption) rfl tk79) ?_
 refine WS.appendS (j:=1) (s:=t0) (n:=sx.bs.size) (xs:=Lib.strCells sx.bs) sl79 (by kernel_rfl) Tryz.underlying9 rfl rfl rfl (by omega) (fun _=>rfl) (fun _=>rfl) ?_; intro v14 hv14
 refine Wz 2 ?_
 first | refine WS.store (j:=0) rfl rfl (by first | decide | omega | (simp; done) | (simp; omega) | exact Nat.le_of_ble_eq_true rfl) rfl (by first | rfl | assumption) tk79 rfl rfl ?_ | refine WS.store (j:=0) rfl rfl (by first | decide | omega | (simp; done) | (simp; omega) | exact Nat.le_of_ble_eq_true rfl) rfl (by first | rfl | assumption) tk79 (Jac _ _ _) rfl ?_ | refine WS.store (j:=1) rfl rfl (by first | decide | omega | (simp; done) | (simp; omega) | exact Nat.le_of_ble_eq_true rfl) rfl (by first | rfl | assumption) tk79 rfl rfl ?_ | refine WS.store (j:=1) rfl rfl (by first | decide | omega | (simp; done) | (simp; omega) | exact Nat.le_of_ble_eq_true rfl) rfl (by first | rfl | assumption) tk79 (Jac _ _ _) rfl ?_ | refine WS.store (j:=2) rfl rfl (by first | decide | omega | (simp; done) | (simp; omega) | exact Nat.le_of_ble_eq_true rfl) rfl (by first | rfl | assumption) tk79 rfl rfl ?_ | refine WS.store (j:=2) rfl rfl (by first | decide | omega | (simp; done) | (simp; omega) | exact Nat.le_of_ble_eq_true rfl) rfl (by first | rfl | assumption) tk79 (Jac _ _ _) rfl ?_ | refine WS.store (j:=3) rfl rfl (by first | decide | omega | (simp; done) | (simp; omega) | exact Nat.le_of_ble_eq_true rfl) rfl (by first | rfl | assumption) tk79 rfl rfl ?_ | refine WS.store (j:=3) rfl rfl (by first | decide | omega | (simp; done) | (simp; omega) | exact Nat.le_of_ble_eq_true rfl) rfl (by first | rfl | assumption) tk79 (Jac _ _ _) rfl ?_ | refine WS.store (j:=4) rfl rfl (by first | decide | omega | (simp; done) | (simp; omega) | exact Nat.le_of_ble_eq_true rfl) rfl (by first | rfl | assumption) tk79 rfl rfl ?_ | refine WS.store (j:=4) rfl rfl (by first | decide | omega | (simp; done) | (simp; omega) | exact Nat.le_of_ble_eq_true rfl) rfl (by first | rfl | assumption) tk79 (Jac _ _ _) rfl ?_ | refine WS.store (j:=5) rfl rfl (by first | decide | omega | (simp; done) | (simp; omega) | exact Nat.le_of_ble_eq_true rfl) rfl (by first | rfl | assumption) tk79 rfl rfl ?_ | refine WS.store (j:=5) rfl rfl (by first | decide | omega | (simp; done) | (simp; omega) | exact Nat.le_of_ble_eq_true rfl) rfl (by first | rfl | assumption) tk79 (Jac _ _ _) rfl ?_ | refine WS.store (j:=6) rfl rfl (by first | decide | omega | (simp; done) | (simp; omega) | exact Nat.le_of_ble_eq_true rfl) rfl (by first | rfl | assumption) tk79 rfl rfl ?_ | refine WS.store (j:=6) rfl rfl (by first | decide | omega | (simp; done) | (simp; omega) | exact Nat.le_of_ble_eq_true rfl) rfl (by first | rfl | assumption) tk79 (Jac _ _ _) rfl ?_ | refine WS.store (j:=7) rfl rfl (by first | decide | omega | (simp; done) | (simp; omega) | exact Nat.le_of_ble_eq_true rfl) rfl (by first | rfl | assumption) tk79 rfl rfl ?_ | refine WS.store (j:=7) rfl rfl (by first | decide | omega | (simp; done) | (simp; omega) | exact Nat.le_of_ble_eq_true rfl) rfl (by first | rfl | assumption) tk79 (Jac _ _ _) rfl ?_ | refine WS.store (j:=8) rfl rfl (by first | decide | omega | (simp; done) | (simp; omega) | exact Nat.le_of_ble_eq_true rfl) rfl (by first | rfl | assumption) tk79 rfl rfl ?_ | refine WS.store (j:=8) rfl rfl (by first | decide | omega | (simp; done) | (simp; omega) | exact Nat.le_of_ble_eq_true rfl) rfl (by first | rfl | assumption) tk79 (Jac _ _ _) rfl ?_ | refine WS.store (j:=9) rfl rfl (by first | decide | omega | (simp; done) | (simp; omega) | exact Nat.le_of_ble_eq_true rfl) rfl (by first | rfl | assumption) tk79 rfl rfl ?_ | refine WS.store (j:=9) rfl rfl (by first | decide | omega | (simp; done) | (simp; omega) | exact Nat.le_of_ble_eq_true rfl) rfl (by first | rfl | assumption) tk79 (Jac _ _ _) rfl ?_
 refine Wd (Qc (Nz 1 ?_))
 refine Wk 2 (Jbb Tryz.underlying9 rfl) ?_
 refine Wd (Qc (Cr ?_))
 refine QS.weak (L':=[blk bb (Jc0 bb ⟨true,v14,sx.bs++t0⟩) 81,Joq ⟨true,v14,sx.bs++t0⟩,R]) (fun u hu=>by rw [← Jq4]; exact hu) ?_
 exact out2 rfl rfl rfl (fun u hu=>.inl ⟨⟨true,v14,sx.bs++t0⟩,rfl,rfl,St.pack (L1:=Jgc bb ⟨true,v14,sx.bs++t0⟩) hu⟩)
theorem Ju7 {n0:Nat} {w u:World} (bb:Nat) (sx:Bld) (hu:St n0 w [bldr bb sx] u) :
  Calls Tryz.prog 35 #[.pointer (some ⟨bb,0,none⟩)] u (fun e u'=>(∃ y:Unit,True∧e = .returned (.string sx.bs)∧St n0 w [] u')∨(False∧e = .panicked []∧St n0 w [] u')):=by
 have hu2:=St.unpack (L1:=Jgc bb sx) hu
 obtain ⟨hle,hbel,T,hT,⟨hS,hb⟩,T2,hT2,⟨hS2,hown⟩,_⟩:=hu2
 have hbn:n0≤bb:=hT bb ((hS bb).2 rfl)
 have hown2:u.ownsRow n0 5 1 sx.v sx.bs.size (Lib.strCells sx.bs):=by
  refine ⟨hown.1,?_⟩
  rcases hown.2 with h | ⟨g,cap,cur,e,h0,hr⟩
  ·
   exact .inl h
  refine .inr ⟨g,cap,cur,e,?_,hr⟩
  exact (hT2 g ((hS2 g).2 (by rw [e]; rfl))).1
 have hne:sx.v.ownBlock≠some bb:=fun e=>(hT2 bb ((hS2 bb).2 e)).2 ((hS bb).2 rfl)
 have hlen:(Lib.byteCells (bl sx.bs)).length=sx.bs.size:=by rw [Lib.byteCells_length,Jbj]
 have hat:∀ p,u.heap[bb]? = some (.cells #[p,sx.v] 81 (0,0))→Lib.BuilderAt 81 5 n0 bb p (Lib.byteCells (bl sx.bs)) u:=fun p hp=>⟨hbn,sx.v,hp,by rw [hlen]; exact hown2,hne⟩
 have hib:Lib.IsBuilder 81 5 n0 bb (Lib.byteCells (bl sx.bs)) u:=by
  cases hx:sx.us with
  | true=>exact .inr (hat _ (by rw [hb]; simp [Jc0,hx]))
  | false=>exact .inl (hat _ (by rw [hb]; simp [Jc0,hx]))
 refine (Tryz.Builder_String_any_f n0 bb (bl sx.bs) u (Lib.IsBuilderF.of hib) (Nat.le_trans hle hbel.size)).mono ?_
 rintro e w' ⟨rfl,_,hB⟩
 exact .inl ⟨(),trivial,rfl,hle,hbel.trans hB,trivial⟩
theorem Jzh (n:Int) (h0:0≤n) (h1:n≤1000000) (w:World) :
  Calls Tryz.prog 108 #[.slice none 0 0,.int .i64 n] w (fun e w'=>∃ v':Value,v'.oneCell'=true∧RetF w v' (oT cStr 9 v' []) e w'):=by
 refine enter Tryz.func108 rfl rfl (Nat.le_of_ble_eq_true rfl) ?_
 refine Nz 1 ?_
 refine Wd (Qc (Cs (Nz 2 ?_)))
 refine Wd (Qc (CS.cond rfl ?_ ?_))<;>intro hc1<;>try simp only [bq] at hc1
 ·
  exact absurd hc1 (by omega)
 refine Ck (Qc (Cs (Nz 2 ?_)))
 refine Wk 1 (Job sl23 rfl ⟨_,_,rfl⟩) ?_
 refine Wk 0 (Jh6 sl23 rfl ⟨_,_,rfl⟩) ?_
 refine Wk 0 Zb ?_
 refine Wk 1 Zb ?_
 refine Wd (Qc (Nz 2 ?_))
 refine Wd (Qc (CS.cond rfl ?_ ?_))<;>intro hc2<;>try simp only [bq] at hc2
 ·
  have hn0:0 < n:=by omega
  refine Ny 2 ?_
  refine Wk 0 (Job sl23 rfl ⟨_,_,rfl⟩) ?_
  refine Wk 1 (Jrr (n:=0) (c:=0) (p:=none) sl23 rfl rfl (by decide) (by decide)) ?_
  refine WS.appendMade (n:=n) sl23 Tryz.underlying3 zv9 rfl (by decide) rfl (congrArg (fun z=>some (Value.int .i64 z)) (show n - (0 - 0)=n by omega)) hn0 (by omega) (by decide) (fun _ _=>rfl) ?_; intro b22 c22 z22 hc22
  refine Wz 1 ?_
  refine Wk 0 (Jh6 sl23 rfl ⟨_,_,rfl⟩) ?_
  refine Wk 1 (Jrr (n:=n.toNat) (c:=c22) (p:=some ⟨b22,0,none⟩) sl23 rfl rfl (by decide) (by omega)) ?_
  refine Wd (Qc (Nz 2 ?_))
  refine Wd (Qc (Cr ?_))
  first | exact out1 rfl rfl (fun u hu=>⟨_,Jpe rfl,retF (j:=0) rfl u (hu.oslTo (Nat.zero_le _))⟩) | exact out1 rfl rfl (fun u hu=>⟨_,rfl,retF (j:=0) rfl u (hu.osl0 (e:=9) (size:=1))⟩)
 refine Ck (Qc (Nz 2 ?_))
 refine Wd (Qc (Cr ?_))
 first | exact out1 rfl rfl (fun u hu=>⟨_,Jpe rfl,retF (j:=0) rfl u (hu.oslTo (Nat.zero_le _))⟩) | exact out1 rfl rfl (fun u hu=>⟨_,rfl,retF (j:=0) rfl u (hu.osl0 (e:=9) (size:=1))⟩)
theorem Jte (x:Sl (Sl ByteArray)) (w:World) (hx:SlT (cSl cStr) w x) (hm:((catL x.l).length:Int)≤1000000) :
  Calls Tryz.prog 29 #[x.v] w (fun e w'=>∃ v':Value,v'.oneCell'=true∧RetF w v' (oT cStr 9 v' (catL x.l)) e w'):=by
 have lx:=hx.le
 have hall:=Jts (l:=x.l) x.l.length
 have hta:x.l.take x.l.length=x.l:=List.take_of_length_le (Nat.le_refl _)
 refine enter Tryz.func29 rfl rfl (Nat.le_of_ble_eq_true rfl) ?_
 refine Nz 1 ?_
 refine Wd (Qc (Nz 1 ?_))
 refine Wd (Qc (Cs (Nz 1 ?_)))
 refine Wk 1 Nc ?_
 refine Wd (Qc (Ce ?_))
 refine CS.loopM (σ:=Int × Int) [5,12,13,14,15,16,17,18,19,20,21,22] (fun s=>[(11,.int .i64 s.1),(3,.int .i64 s.2)]) (fun _=>_) (fun s=>0≤s.1∧s.1≤x.l.length∧s.2=(catL (x.l.take s.1.toNat)).length) (fun s=>(x.l.length - s.1).toNat) (0,0) (fun _ _=>rfl) rfl rfl ⟨by simp,by simp,by simp [catL]⟩ ?_
 intro a t hs
 obtain ⟨ha1,ha2,ha3⟩:=hs
 refine Nz 1 ?_
 refine Wd (Qc (Cs (CS.cond rfl ?_ ?_)))<;>intro hc1<;>try simp only [bq] at hc1
 ·
  have hxs:SlT cStr w (nth x.l a.1):=hx.at ha1 (by omega)
  have hsn:=congrArg List.length (Jkh ha1 (show a.1 < (x.l.length:Int) by omega))
  have hle:=Jts (l:=x.l) (a.1+1).toNat
  rw [List.length_append] at hsn
  refine Ck (Qc (Cs (Ce (Nz 0 ?_))))
  refine Wk 0 Xc ?_
  refine Wk 1 Ub ?_
  refine Wd (Qc (Nz 2 ?_))
  refine Wk 0 Nc ?_
  refine Wk 1 Za ?_
  refine Wd (Qc (Nz 2 ?_))
  refine Wd (Qc (CS.cond rfl ?_ ?_))<;>intro hc2<;>try simp only [bq] at hc2
  ·
   exact absurd hc2 (by show ¬ a.2+_ < 0; omega)
  refine Ck (Qb (Qc (Ny 0 ?_)))
  refine Wk 1 Za ?_
  exact Wd (QS.head ((a.1+1,a.2+((nth x.l a.1).l.length:Int))) rfl rfl ⟨⟨by simp; omega,by simp; omega,by show a.2+_=((catL (x.l.take (a.1+1).toNat)).length:Int); omega⟩,by simp; omega⟩)
 have hae:a.1.toNat=x.l.length:=by omega
 rw [hae,hta] at ha3
 refine Cv (Qe (Qe (Qx (Qc (Nz 1 ?_)))))
 refine Wc rfl rfl J03 (fun u hu=>Jzh _ (by omega) (by omega) u) (fun _=>rfl) ?_; intro v24 hv24
 refine Wz 1 ?_
 refine Wd (Qc (Cs (Nz 1 ?_)))
 refine Wk 1 Nc ?_
 refine Wd (Qc (Ce ?_))
 refine CS.loopM (σ:=Int × Value) [8,28,29,30,31,32,33,34] (fun s=>[(27,.int .i64 s.1),(6,s.2)]) (fun s=>[oT cStr 9 s.2 (catL (x.l.take s.1.toNat))]) (fun s=>0≤s.1∧s.1≤x.l.length∧s.2.oneCell'=true) (fun s=>(x.l.length - s.1).toNat) (0,v24) (fun _ _=>rfl) rfl (by simp [catL]) ⟨by simp,by simp,hv24⟩ ?_
 intro q t hs
 obtain ⟨hq1,hq2,hq3⟩:=hs
 refine Nz 1 ?_
 refine Wd (Qc (Cs (CS.cond rfl ?_ ?_)))<;>intro hc3<;>try simp only [bq] at hc3
 ·
  have hxs:SlT cStr w (nth x.l q.1):=hx.at hq1 (by omega)
  have hsn:=congrArg List.length (Jkh hq1 (show q.1 < (x.l.length:Int) by omega))
  have hle:=Jts (l:=x.l) (q.1+1).toNat
  rw [List.length_append] at hsn
  have hone:=hxs.one
  refine Ck (Qc (Cs (Ce (Nz 0 ?_))))
  refine Wk 0 Xc ?_
  refine Wk 1 Ub ?_
  refine Wd (Qc (Ny 2 ?_))
  refine WS.appendTs (C:=cStr) (s:=nth x.l q.1) (j:=0) sl23 zv9 rfl (by decide) rfl rfl rfl (fun u hu=>hxs.st hu) hone (by omega) (by omega) (fun _=>rfl) (fun _=>rfl) ?_; intro v33 hv33
  refine Wz 1 ?_
  refine Wd (Qb (Qc (Ny 0 ?_)))
  refine Wk 1 Za ?_
  exact Wd (QS.head ((q.1+1,v33)) rfl (by show [_]=[_]; rw [Jkh hq1 (by omega)]) ⟨⟨by simp; omega,by simp; omega,hv33⟩,by simp; omega⟩)
 have hqe:q.1.toNat=x.l.length:=by omega
 refine Cv (Qe (Qe (Qx (Qc (Nz 2 ?_)))))
 exact Wd (Qc (Cr (out1 rfl rfl (fun u hu=>⟨_,hq3,by rw [hqe,hta] at hu; exact retF (j:=0) rfl u hu⟩))))
theorem J2n (s:Sl ByteArray) (w:World) (hk:SlT cStr w s) (hp:0 < s.l.length) {n:Nat} (hb:∀ x∈s.l,x.size≤n) (hn:(n+1) * s.l.length≤140737488355328) (hm:s.l.length≤1000000) :
  Calls Tryz.prog 28 #[s.v,.string ⟨#[32]⟩] w (RetB w (.string (jnB s.l))):=by
 obtain ⟨b,o,c,e,h1,h2,h3⟩:=Jqg hk hp
 have hj:=Jn9 hb
 have q:=Tryz.strings_Join b o c s.l ⟨#[32]⟩ w h3 h2 (by omega) h1 (Nat.le_trans hj hn)
 rw [← e] at q
 refine q.mono ?_
 rintro e' w' ⟨rfl,h4⟩
 exact ⟨rfl,h4⟩
theorem Jll (n:Int) (w:World) (h:0≤n∧n < 100):Calls Tryz.prog 32 #[.int .i64 n] w (RetB w (.string (digB n))):=by
 have e:n=((n.toNat:Nat):Int):=by omega
 have q:=Tryz.strconv_Itoa_small n.toNat (by omega) w
 rw [← e] at q
 refine q.mono ?_
 rintro e' w' ⟨rfl,rfl⟩
 exact ⟨rfl,Below.refl _ _⟩
theorem Jzy {w u:World} (R:SA) (bb:Nat) (sx:Bld) (hu:St w.heap.size w [bldr bb sx,R] u) (x:Sl (Sl ByteArray)) (hx:∀ u,St w.heap.size w [bldr bb sx,R] u→SlT (cSl cStr) u x) (hp:0 < (catL x.l).length) (hz:∀ y∈catL x.l,FineW y) (hl:(catL x.l).length≤100) (hb:sx.bs.size≤100000) :
  Calls Tryz.prog 26 #[x.v,.pointer (some ⟨bb,0,none⟩)] u (RetX w R [] (fun y:Bld=>y.bs=sx.bs++Jfu (catL x.l)) False (fun _=>.tuple #[]) (fun y=>bldr bb y)):=by
 have hjz:=Jsm (ws:=catL x.l) (n:=15) (fun y hy=>(hz y hy).sz)
 have hjl:(15+1) * (catL x.l).length≤16 * 100:=Nat.mul_le_mul_left _ hl
 have s10:(⟨#[10]⟩:ByteArray).size=1:=rfl
 refine Jdd hu Tryz.func26 rfl rfl (Nat.le_of_ble_eq_true rfl) ?_
 refine Ny 1 ?_
 refine Wc rfl rfl J4u (fun u hu=>Jte x u (hx u hu) (by omega)) (fun _=>rfl) ?_; intro v4 hv4
 refine Wk 0 (Cb rfl rfl J4p (fun u hu=>by
  have hk:=Jaw hu (j:=0) rfl (fun _ _=>trivial)
  exact J2n ⟨v4,catL x.l⟩ u hk hp (fun y hy=>(hz y hy).sz) (by simp only; omega) (by simp only; omega))) ?_
 refine Wk 0 (Jaj (a:=jnB (catL x.l)) rfl rfl (by omega)) ?_
 refine WS.callP rfl rfl J3n (fun u hu=>RetX.ls (Jwg (star _) bb sx (St.tailPack (hu.sel [1,0,0] rfl)) (Jfu (catL x.l)) (by unfold Jfu; rw [ByteArray.size_append]; omega))) (fun _=>rfl) (fun hq u hu=>hq.elim) ?_; rintro y hy
 refine Wd ?_
 refine QS.sel [0,1] rfl ?_
 exact out0 (Or.inr rfl) rfl (fun u hu=>.inl ⟨y,hy,rfl,hu⟩)
theorem of_c (v:Value) (hv:v.oneCell'=true) (w:World) :
  Calls Tryz.prog 30 #[v] w (RetB w v):=by
 refine enter Tryz.func30 rfl rfl (Nat.le_of_ble_eq_true rfl) ?_
 refine Nz 1 ?_
 refine Wd (Qc (Nz 2 ?_))
 exact Wd (Qc (Cr (out1 rfl rfl (Jah rfl))))
theorem Jgv (t0:ByteArray) (s:Sl ByteArray) (w:World) (hs:SlT cStr w s) (hl:s.l.length≤1000) :
  Calls Tryz.prog 33 #[.string t0,s.v] w (fun e w'=>∃ v':Value,v'.oneCell'=true∧RetF w v' (oT cStr 9 v' (Jav t0 s.l)) e w'):=by
 have hone:=hs.one
 refine enter Tryz.func33 rfl rfl (Nat.le_of_ble_eq_true rfl) ?_
 refine Nz 1 ?_
 refine Wd (Qc (Cs (Nz 1 ?_)))
 refine Wk 1 (Nc (s:=s)) ?_
 refine Wd (Qc (CS.cond rfl ?_ ?_))<;>intro hc1<;>try simp only [bq] at hc1
 ·
  refine Nz 1 ?_
  exact Wd (Qc (Cr (Qr (out1 rfl rfl (fun u hu=>⟨_,rfl,by rw [Jf9 (by omega)]; exact retF (j:=0) rfl u (hu.osl0 (e:=9) (size:=1))⟩)))))
 refine Ck (Qc (Nz 1 ?_))
 refine WS.buildS1 (b:=t0) sl23 zv9 rfl (fun _=>rfl) ?_; intro v9
 refine Wz 1 ?_
 refine WS.appendTs (C:=cStr) (s:=s) (j:=0) sl23 zv9 rfl (by decide) rfl rfl rfl (fun u hu=>hs.st hu) hone (by simp only [List.length_singleton]; omega) (by simp only [List.length_singleton]; omega) (fun _=>rfl) (fun _=>rfl) ?_; intro v11 hv11
 refine Wz 1 ?_
 exact Wd (Qc (Cr (out1 rfl rfl (fun u hu=>⟨_,hv11,by rw [Jed (by omega)]; exact retF (j:=0) rfl u hu⟩))))
theorem Jg9 (r:Room) (w:World) (hr:RoomOk w r) (hF:FineR r) (c:Sl Lit) (hc:SlT cLit w c) (hp:∀ x∈c.l,putB r.ths.l x.t x.s=true) (hl:c.l.length≤20) :
  Calls Tryz.prog 34 #[.agg #[r.pls.v,r.ths.v,r.prs.v,r.wys.v,r.acs.v,r.aus.v,.int .i64 r.ply,r.gl.v],c.v] w (fun e w'=>∃ v':Value,v'.oneCell'=true∧RetF w v' (oT cStr 9 v' (Jaq r c.l)) e w'):=by
 have kpl:=hr.pls
 have lpl:=hr.pls.le
 have kth:=hr.ths
 have lth:=hr.ths.le
 have kpr:=hr.prs
 have lpr:=hr.prs.le
 have kwy:=hr.wys
 have lwy:=hr.wys.le
 have kac:=hr.acs
 have lac:=hr.acs.le
 have kau:=hr.aus
 have lau:=hr.aus.le
 have kgl:=hr.gl
 have lgl:=hr.gl.le
 refine enter Tryz.func34 rfl rfl (Nat.le_of_ble_eq_true rfl) ?_
 refine Nz 0 ?_
 refine Wb 1 rfl rfl (fun _=>rfl) (fun _=>rfl) fun b2 hb2=>?_
 refine Wd (Qc (Cs (Nz 1 ?_)))
 refine Wk 1 (Nc (s:=c)) ?_
 refine Wd (Qc (Ce ?_))
 refine CS.weak (fun _ hu=>hu.osl0 (e:=9) (size:=1)) ?_
 refine CS.loopM (σ:=Int × Value) [6,7,11,12,13,14,15,16,17,18,19,20,21,22,23,24,25,26,27,28,29,30,31,32] (fun s=>[(10,.int .i64 s.1),(4,s.2)]) (fun s=>[oT cStr 9 s.2 ((c.l.take s.1.toNat).map (litF r)),blk b2 (Room.cells r) 32]) (fun s=>0≤s.1∧s.1≤c.l.length∧s.2.oneCell'=true) (fun s=>(c.l.length - s.1).toNat) (0,.slice none 0 0) (fun _ _=>rfl) rfl rfl ⟨by simp,by simp,rfl⟩ ?_
 intro a t hs
 obtain ⟨ha1,ha2,ha3⟩:=hs
 refine Nz 1 ?_
 refine Wd (Qc (Cs (CS.cond rfl ?_ ?_)))<;>intro hc1<;>try simp only [bq] at hc1
 ·
  have hco:=hc.at ha1 (show a.1 < (c.l.length:Int) by omega)
  have hpx:=hp _ (Jak ha1 (show a.1 < (c.l.length:Int) by omega))
  obtain ⟨hp0,hp1,hp2,hp3⟩:=Jj6 hF hpx
  have hnm:=Jbo (hF.th _ hp0 hp1).1
  have hds:=Jc2 (n:=(nth c.l a.1).s) (by omega)
  have hsg:=Juc (nth c.l a.1).nt
  refine Ck (Qc (Cs (Ce (Nz 0 ?_))))
  refine Wk 0 Xc ?_
  refine Wk 0 Ua ?_
  refine Wl 0 zv96 (fun _=>rfl) (fun _=>rfl) fun b6 hb6=>?_
  refine Wv 0 0 ?_
  refine Wd (Qc (Nz 1 ?_))
  refine Wd (Qc ?_)
  refine CS.cut (σ:=ByteArray) [14,15] (fun s=>[(7,.string s)]) (fun s=>[blk b6 (cLit.cells (nth c.l a.1)) 96,oT cStr 9 a.2 ((c.l.take a.1.toNat).map (litF r)),blk b2 (Room.cells r) 32]) (fun s=>s=sgnB (nth c.l a.1).nt) (fun _ _=>rfl) ?_ ?_
  ·
   refine Nz 1 ?_
   refine Wk 0 (by first | exact Jaa (j:=0) rfl rfl rfl tk4 | exact Jab rfl (by assumption) rfl tk4) ?_
   refine Wd (Qc (CS.cond rfl ?_ ?_))<;>intro hc2<;>try simp only [bq] at hc2
   ·
    refine Ny 1 ?_
    exact Wd (QS.head (⟨#[33]⟩) rfl rfl (by rw [show (nth c.l a.1).nt=true from hc2]; rfl))
   exact Ck (QS.head (⟨#[61]⟩) rfl rfl (by rw [show (nth c.l a.1).nt=false from by simpa using hc2]; rfl))
  intro p t hs
  subst hs
  refine CS.drawnTill 15 (k:=17) mixed rfl rfl ?_
  refine Tr 17 [0,1] ?_
  refine Tk 17 2 [3] rfl (by first | exact Jaa (j:=2) rfl rfl rfl tk24 | exact Jab rfl (by assumption) rfl tk24) ?_
  refine Tk 17 4 [] rfl (by first | exact Jaa (j:=0) rfl rfl rfl tk3 | exact Jab rfl (by assumption) rfl tk3) ?_
  refine Tk 17 5 [6] rfl Xc ?_
  refine Tk 17 7 [8] rfl (Uc 4 0) ?_
  refine Tk 17 9 [10] rfl (Jaj rfl rfl (by (try simp only [ByteArray.size_append]); omega)) ?_
  refine Tk 17 11 [] rfl (by first | exact Jaa (j:=0) rfl rfl rfl tk3 | exact Jab rfl (by assumption) rfl tk3) ?_
  refine Tk 17 12 [] rfl (Cb rfl rfl Ju5 (fun u hu=>Jll _ u ⟨by omega,by omega⟩)) ?_
  refine Tk 17 13 [] rfl (Jaj rfl rfl (by (try simp only [ByteArray.size_append]); omega)) ?_
  refine To 14 rfl ?_
  refine WS.buildS1 (b:=litF r (nth c.l a.1)) sl23 zv9 rfl (fun _=>rfl) ?_; intro v30
  refine Wd (Qt ?_)
  refine To 15 rfl ?_
  refine WS.appendT1 (j:=2) (jz:=0) sl23 zv9 rfl (by decide) rfl rfl rfl rfl (w:=w) trivial (by simp; omega) (by simp; omega) (fun _=>rfl) (fun _=>rfl) ?_; intro v31 hv31
  refine Wd (Qt ?_)
  refine To 16 rfl ?_
  refine Wz 1 ?_
  refine Wd (Qt ?_)
  refine Te ?_
  refine Qb (Qc (Ny 0 ?_))
  refine Wk 1 Za ?_
  refine Wd ?_
  refine QS.sel [2,2] rfl ?_
  exact QS.head ((a.1+1,v31)) rfl (by show [_,_]=[_,_]; rw [Jcs c.l ha1 (by omega),List.map_append,List.map_singleton]) ⟨⟨by simp; omega,by simp; omega,hv31⟩,by simp; omega⟩
 have hae:a.1.toNat=c.l.length:=by omega
 refine Cv (Qe (Qe (Qx (Qc (Nz 2 ?_)))))
 exact Wd (Qc (Cr (out1 rfl rfl (fun u hu=>⟨_,ha3,by rw [hae,List.take_length] at hu; exact retF (j:=0) rfl u hu⟩))))
theorem Jj9 (r:Room) (w:World) (hr:RoomOk w r) (hF:FineR r) (b:Nat) (e:TypeId) (hb:BlkAt w b [r.pls.v,r.ths.v,r.prs.v,r.wys.v,r.acs.v,r.aus.v,.int .i64 r.ply,r.gl.v] e) (l:Sl Int) (hk:SlT cInt w l) (hp:∀ x∈l.l,0≤x∧x < r.prs.l.length) (hl:l.l.length≤20) :
  Calls Tryz.prog 31 #[l.v,.pointer (some ⟨b,0,none⟩)] w (fun e w'=>∃ v':Value,v'.oneCell'=true∧RetF w v' (oT cStr 9 v' (Ja0 r l.l)) e w'):=by
 have kpl:=hr.pls
 have lpl:=hr.pls.le
 have kth:=hr.ths
 have lth:=hr.ths.le
 have kpr:=hr.prs
 have lpr:=hr.prs.le
 have kwy:=hr.wys
 have lwy:=hr.wys.le
 have kac:=hr.acs
 have lac:=hr.acs.le
 have kau:=hr.aus
 have lau:=hr.aus.le
 have kgl:=hr.gl
 have lgl:=hr.gl.le
 have hki:=hk.ints
 refine enter Tryz.func31 rfl rfl (Nat.le_of_ble_eq_true rfl) ?_
 refine Nz 1 ?_
 refine Wd (Qc (Cs (Nz 1 ?_)))
 refine Wk 1 (Nc (s:=l)) ?_
 refine Wd (Qc (Ce ?_))
 refine CS.weak (fun _ hu=>hu.osl0 (e:=9) (size:=1)) ?_
 refine CS.loopM (σ:=Int × Value) [5,9,10,11,12,13,14,15,16,17,18,19,20,21] (fun s=>[(8,.int .i64 s.1),(3,s.2)]) (fun s=>[oT cStr 9 s.2 ((l.l.take s.1.toNat).map fun p=>(nth r.prs.l p).nm)]) (fun s=>0≤s.1∧s.1≤l.l.length∧s.2.oneCell'=true) (fun s=>(l.l.length - s.1).toNat) (0,.slice none 0 0) (fun _ _=>rfl) rfl rfl ⟨by simp,by simp,rfl⟩ ?_
 intro a t hs
 obtain ⟨ha1,ha2,ha3⟩:=hs
 refine Nz 1 ?_
 refine Wd (Qc (Cs (CS.cond rfl ?_ ?_)))<;>intro hc1<;>try simp only [bq] at hc1
 ·
  have hpx:=hp _ (Jak ha1 (show a.1 < (l.l.length:Int) by omega))
  refine Ck (Qc (Cs (Ce (Nz 0 ?_))))
  refine Wk 0 (by first | exact Jgx sl43 rfl rfl (by assumption) (by omega) (by omega) | exact Jfb sl43 rfl rfl (by omega) (by omega)) ?_
  refine Wk 1 (by first | exact Jd1 rfl (by assumption) (by omega) tk3 | exact Jaa (j:=0) rfl rfl rfl tk3 | exact Jaa (j:=1) rfl rfl rfl tk3 | exact Jaa (j:=2) rfl rfl rfl tk3 | exact Jaa (j:=3) rfl rfl rfl tk3 | exact Jab rfl (by assumption) rfl tk3) ?_
  refine Wd (Qc (Ny 2 ?_))
  refine Wk 1 (by first | exact Jaa (j:=0) rfl rfl rfl tk25 | exact Jaa (j:=1) rfl rfl rfl tk25 | exact Jaa (j:=2) rfl rfl rfl tk25 | exact Jaa (j:=3) rfl rfl rfl tk25 | exact Jab rfl (by assumption) rfl tk25) ?_
  refine Wk 1 Xc ?_
  refine Wk 0 (Uc 3 0) ?_
  refine WS.buildS1 (b:=(nth r.prs.l (nth l.l a.1)).nm) sl23 zv9 rfl (fun _=>rfl) ?_; intro v19
  refine WS.appendT1 (j:=1) (jz:=0) sl23 zv9 rfl (by decide) rfl rfl rfl rfl (w:=w) trivial (by simp; omega) (by simp; omega) (fun _=>rfl) (fun _=>rfl) ?_; intro v20 hv20
  refine Wz 1 ?_
  refine Wd (Qb (Qc (Ny 0 ?_)))
  refine Wk 1 Za ?_
  refine Wd ?_
  refine QS.sel [1] rfl ?_
  exact QS.head ((a.1+1,v20)) rfl (by show [_]=[_]; rw [Jcs l.l ha1 (by omega),List.map_append,List.map_singleton]) ⟨⟨by simp; omega,by simp; omega,hv20⟩,by simp; omega⟩
 have hae:a.1.toNat=l.l.length:=by omega
 refine Cv (Qe (Qe (Qx (Qc (Nz 2 ?_)))))
 exact Wd (Qc (Cr (out1 rfl rfl (fun u hu=>⟨_,ha3,by rw [hae,List.take_length] at hu; exact retF (j:=0) rfl u hu⟩))))
end Go.Proofs.YtkekjhcmephhjaaGreatDoor
