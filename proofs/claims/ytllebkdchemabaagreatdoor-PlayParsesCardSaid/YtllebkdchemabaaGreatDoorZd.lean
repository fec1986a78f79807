/- Merged texts of this proof. -/
import Derived.Test.YtllebkdchemabaaGreatDoorZa
import Derived.Test.YtllebkdchemabaaGreatDoorZc
import Derived.Test.YtllebkdchemabaaGreatDoorZb
set_option maxHeartbeats 8000000
namespace Go.Proofs.YtllebkdchemabaaGreatDoor
open Go.RowKit Go.Proofs Tryz
set_option maxRecDepth 100000
set_option linter.unusedVariables false
set_option linter.unusedSimpArgs false
theorem Co (n low high:Int) (w:World):Calls prog 184 #[.int .i64 n,.int .i64 low,.int .i64 high] w (RetB w (.bool (Aj n low high))):=by
 refine Eg func184 ?_
 iterate 4 refine Aa ?_
 exact out1 rfl rfl retB
theorem BK (n low high:Int) (w:World):Calls prog 210 #[.int .i64 n,.int .i64 low,.int .i64 high] w (RetB w (.bool (Aj n low high))):=by
 refine Eg func210 ?_
 iterate 4 refine Aa ?_
 exact out1 rfl rfl retB
theorem QP (xs ys:List Int) (v1 v2:Value) (w:World) (h1:SlI w v1 xs) (h2:SlI w v2 ys):
  Calls prog 328 #[v1,v2] w (RetB w (.bool (decide (xs=ys)))):=by
 have hl1:=h1.le;have hl2:=h2.le;refine Eg func328 ?_
 iterate 2 refine Aa ?_
 refine Cm ?_ ?_<;>intro hc1
 ·exact out1 rfl rfl (Af (OR fun h=>by subst h;omega))
 refine CS.loopM (σ:=Int) (rsL [4,4,11,25]) (fun s=>[(5,.int .i64 s)]) (fun _=>_) (fun s=>0<=s/\s<=xs.length/\xs.length=ys.length/\∀j:Int,0<=j->j<s->nth xs j=nth ys j) (fun s=>(xs.length-s).toNat) 0 (fun _ _=>rfl) rfl rfl ⟨by omega,by omega,by omega,fun j h1 h2=>by omega⟩ ?_;intro s t hs;obtain⟨hs1,hs2,hs3,hs4⟩:=hs;refine Nf ?_;refine Aa ?_;refine Cm ?_ ?_<;>intro hc2
 ·refine Dg mixed ?_
  iterate 4 refine Ad ?_
  refine Cm ?_ ?_<;>intro hc3
  ·exact out1 rfl rfl (Af (OR fun h=>by subst h;omega))
  refine Aa ?_;exact QS.head (s+1) rfl rfl ⟨⟨by omega,by omega,hs3,fun j h1 h2=>if hj:j=s then by rw[hj];omega else hs4 j h1 (by omega)⟩,by omega⟩
 exact out1 rfl rfl (Af (Yb (Ti hs3 fun i h1 h2=>hs4 i h1 (by omega))))
theorem H5 (lw ls:Int) (w:World):Calls prog 88 #[.agg #[.int .i64 lw,.int .i64 ls]] w (RetB w (.int .i64 (Cc lw ls))):=by
 refine Eg func88 ?_;refine Wr 1 fun b1 hb1=>?_;refine Nf ?_;refine Aa ?_;refine Wk 2 (Cb rfl rfl Ey (fun u hu=>Co _ _ _ u)) ?_
 iterate 2 refine Aa ?_
 refine Wf 0 rfl rfl (fun hg=>Cb rfl (ec_ (eg_ hg rfl) (ec_ rfl (ec_ rfl en_))) Ey (fun u hu=>Co _ _ _ u)) ?_
 iterate 2 refine Aa ?_
 refine Cm ?_ ?_<;>intro hc1
 ·exact out1 rfl rfl (Af (by simp[Cc,Bg];rcases hc1 with h|h<;>simp[h]))
 exact out1 rfl rfl (Af (by simp[Cc,Bg,hc1]))
theorem HB (lw ls:Int) (w:World):Calls prog 97 #[.agg #[.int .i64 lw,.int .i64 ls]] w (RetB w (.int .i64 (Cc lw ls))):=by
 refine Eg func97 ?_;refine Wr 1 fun b1 hb1=>?_;refine Nf ?_;refine Aa ?_;refine Wk 2 (Cb rfl rfl Dv (fun u hu=>BK _ _ _ u)) ?_
 iterate 2 refine Aa ?_
 refine Wf 0 rfl rfl (fun hg=>Cb rfl (ec_ (eg_ hg rfl) (ec_ rfl (ec_ rfl en_))) Dv (fun u hu=>BK _ _ _ u)) ?_
 iterate 2 refine Aa ?_
 refine Cm ?_ ?_<;>intro hc1
 ·exact out1 rfl rfl (Af (by simp[Cc,Bg];rcases hc1 with h|h<;>simp[h]))
 exact out1 rfl rfl (Af (by simp[Cc,Bg,hc1]))
theorem Kv (lw ls n:Int) (w:World) (hL:Bg lw ls=true):Calls prog 266 #[.agg #[.int .i64 lw,.int .i64 ls],.int .i64 n] w (RetB w (.bool (Aj n 0 (ls-1)))):=by
 have hl:=Dc hL;refine Eg func266 ?_;refine Wr 1 fun b2 hb2=>?_;refine Nf ?_
 iterate 2 refine Aa ?_
 refine Wk 1 (Cb rfl rfl Ey (fun u hu=>Co _ _ _ u)) ?_;refine Nf ?_;exact out1 rfl rfl retB
theorem EM (lw ls n:Int) (w:World) (hL:Bg lw ls=true):Calls prog 265 #[.agg #[.int .i64 lw,.int .i64 ls],.int .i64 n] w (RetB w (.bool (Aj n 0 (lw-1)))):=by
 have hl:=Dc hL;refine Eg func265 ?_;refine Wr 1 fun b2 hb2=>?_;refine Nf ?_
 iterate 2 refine Aa ?_
 refine Wk 1 (Cb rfl rfl Ey (fun u hu=>Co _ _ _ u)) ?_;refine Nf ?_;exact out1 rfl rfl retB
theorem Vd (xs:List (Int)) (v:Value) (w:World) (h1:SlI w v xs) (g:Nat) (lb:List Value) (p:Int->Bool) (hg:Ent prog g)
  (hp:∀u,Below w.heap.size w u->∀i:Int,0<=i->i<xs.length->Calls prog g ([.int .i64 (nth xs i)]++lb:List Value).toArray u (RetB u (.bool (p (nth xs i))))):
  Calls prog 292 #[v,.func (.func g) #[] lb.toArray] w (RetB w (.int .i64 (idxF p xs))):=by
 have hl1:=h1.le;refine Eg func292 ?_;refine Aa ?_;refine CS.loopM (σ:=Int) (rsL [4,5,9,18]) (fun s=>[(8,.int .i64 s)]) (fun _=>_) (fun s=>0<=s/\s<=xs.length/\∀j:Int,0<=j->j<s->p (nth xs j)=false) (fun s=>(xs.length-s).toNat) 0 (fun _ _=>rfl) rfl rfl ⟨by omega,by omega,fun j h1 h2=>by omega⟩ ?_;intro s t hs;obtain⟨hs1,hs2,hs3⟩:=hs;refine Nf ?_;refine Cm ?_ ?_<;>intro hc1
 ·iterate 2 refine Aa ?_
  refine Wk 0 (Cb rfl rfl hg (fun u hu=>hp u hu.below s (by omega) (by omega))) ?_;refine Nf ?_;refine Cm ?_ ?_<;>intro hc2
  ·exact out1 rfl rfl (Af (by rw[AM hs1 (by omega) hs3 hc2]))
  refine Aa ?_;exact QS.head (s+1) rfl rfl ⟨⟨by omega,by omega,fun j h1 h2=>if hj:j=s then by rw[hj];exact hc2 else hs3 j h1 (by omega)⟩,by omega⟩
 exact out1 rfl rfl (Af (by rw[A2 fun j h1 h2=>hs3 j h1 (by omega)]))
theorem NZ (xs:List (Int)) (v:Value) (w:World) (h1:SlI w v xs) (g:Nat) (lb:List Value) (p:Int->Bool) (hg:Ent prog g)
  (hp:∀u,Below w.heap.size w u->∀i:Int,0<=i->i<xs.length->Calls prog g ([.int .i64 (nth xs i)]++lb:List Value).toArray u (RetB u (.bool (p (nth xs i))))):
  Calls prog 227 #[v,.func (.func g) #[] lb.toArray] w (RetB w (.bool (xs.any p))):=by
 refine Eg func227 ?_;refine Wk 2 (Cb rfl rfl XT (fun u hu=>Vd xs v u (h1.st hu) g lb p hg (fun u2 h2=>hp u2 (AQ hu.below h2)))) ?_;refine Nf ?_;exact out1 rfl rfl (Af (by rw[BU]))
theorem U4 (xs:List (List Int)) (v:Value) (gs:List Value) (w:World) (h1:SlL w v xs gs) (g:Nat) (lb:List Value) (p:List Int->Bool) (hg:Ent prog g)
  (hp:∀u,Below w.heap.size w u->∀i:Int,0<=i->i<xs.length->Calls prog g ([nth gs i]++lb:List Value).toArray u (RetB u (.bool (p (nth xs i))))):
  Calls prog 316 #[v,.func (.func g) #[] lb.toArray] w (RetB w (.int .i64 (idxF p xs))):=by
 have hl1:=h1.le;refine Eg func316 ?_;refine Wk 1 (Ds sl34 rfl (by first|exact SlL.sp (by assumption)|exact ClS.sp (by assumption))) ?_;refine Nf ?_;refine CS.loopM (σ:=Int) (rsL [4,5,9,18]) (fun s=>[(8,.int .i64 s)]) (fun _=>_) (fun s=>0<=s/\s<=xs.length/\∀j:Int,0<=j->j<s->p (nth xs j)=false) (fun s=>(xs.length-s).toNat) 0 (fun _ _=>rfl) rfl rfl ⟨by omega,by omega,fun j h1 h2=>by omega⟩ ?_;intro s t hs;obtain⟨hs1,hs2,hs3⟩:=hs;refine Nf ?_;refine Cm ?_ ?_<;>intro hc1
 ·refine Wk 0 (V4 sl34 rfl rfl (by assumption) (by omega) (by omega)) ?_;refine Wk 0 (Zq rfl (by assumption) (by omega) tk48) ?_;refine Wk 0 (Cb rfl rfl hg (fun u hu=>hp u hu.below s (by omega) (by omega))) ?_;refine Nf ?_;refine Cm ?_ ?_<;>intro hc2
  ·exact out1 rfl rfl (Af (by rw[AM hs1 (by omega) hs3 hc2]))
  refine Aa ?_;exact QS.head (s+1) rfl rfl ⟨⟨by omega,by omega,fun j h1 h2=>if hj:j=s then by rw[hj];exact hc2 else hs3 j h1 (by omega)⟩,by omega⟩
 exact out1 rfl rfl (Af (by rw[A2 fun j h1 h2=>hs3 j h1 (by omega)]))
theorem Nt (xs:List (List Int)) (v:Value) (gs:List Value) (w:World) (h1:SlL w v xs gs) (g:Nat) (lb:List Value) (p:List Int->Bool) (hg:Ent prog g)
  (hp:∀u,Below w.heap.size w u->∀i:Int,0<=i->i<xs.length->Calls prog g ([nth gs i]++lb:List Value).toArray u (RetB u (.bool (p (nth xs i))))):
  Calls prog 268 #[v,.func (.func g) #[] lb.toArray] w (RetB w (.bool (xs.any p))):=by
 refine Eg func268 ?_;refine Wk 2 (Cb rfl rfl Jc6 (fun u hu=>U4 xs v gs u (h1.st hu) g lb p hg (fun u2 h2=>hp u2 (AQ hu.below h2)))) ?_;refine Nf ?_;exact out1 rfl rfl (Af (by rw[BU]))
theorem YK (lw ls n:Int) (b:Nat) (e:TypeId) (w:World) (hL:Bg lw ls=true) (hb:BlkAt w b [.int .i64 lw,.int .i64 ls] e):
  Calls prog 315 #[.int .i64 n,.pointer (some ⟨b,0,none⟩)] w (RetB w (.bool (!Aj n 0 (ls-1)))):=by
 refine Eg func315 ?_;refine Aa ?_;refine Wk 2 (Cb rfl rfl TI (fun u hu=>Kv _ _ _ u hL)) ?_;refine Nf ?_;exact out1 rfl rfl retB
theorem XM (lw ls:Int) (xs:List Int) (v:Value) (w:World) (hL:Bg lw ls=true) (h1:SlI w v xs):
  Calls prog 267 #[.agg #[.int .i64 lw,.int .i64 ls],v] w (RetB w (.bool (Cd lw ls xs))):=by
 refine Eg func267 ?_;refine Wr 1 fun b2 hb2=>?_;refine Nf ?_
 iterate 3 refine Aa ?_
 refine Wt 0 rfl rfl (fun hg=>Ax rfl) ?_;refine Wt 0 rfl rfl (fun hg=>Cb rfl (ec_ (eg_ hg rfl) (ec_ (eg_ hg rfl) en_)) O4 (fun u hu=>NZ xs v u (h1.st hu) _ [.pointer (some ⟨b2,0,none⟩)] (fun x=>!Aj x 0 (ls-1)) Jez (fun u2 h2 i _ _=>YK _ _ _ _ _ u2 hL ((AN hu (j:=0) rfl).ext h2)))) ?_
 iterate 2 refine Aa ?_
 exact out1 rfl rfl (Af (by simp[Cd,List.all_eq_not_any_not]))
theorem Kh (lw ls:Int) (xs:List Int) (v:Value) (b:Nat) (e:TypeId) (w:World) (hL:Bg lw ls=true) (h1:SlI w v xs) (hb:BlkAt w b [.int .i64 lw,.int .i64 ls] e):
  Calls prog 269 #[v,.pointer (some ⟨b,0,none⟩)] w (RetB w (.bool (!Cd lw ls xs))):=by
 refine Eg func269 ?_;refine Aa ?_;refine Wk 2 (Cb rfl rfl Yp (fun u hu=>XM _ _ _ _ u hL (h1.st hu))) ?_;refine Nf ?_;exact out1 rfl rfl retB
theorem Mw (lw ls:Int) (xss:List (List Int)) (gs:List Value) (v:Value) (w:World) (h1:SlL w v xss gs):
  Calls prog 185 #[.agg #[.int .i64 lw,.int .i64 ls],v] w (RetB w (.int .i64 (if Bg lw ls then if xss.all (Cd lw ls)then 0 else 12 else 10))):=by
 refine Eg func185 ?_;refine Wr 1 fun b2 hb2=>?_;refine Nf ?_;refine Aa ?_;refine Wk 1 (Cb rfl rfl Uk (fun u hu=>H5 _ _ u)) ?_;refine Nf ?_;refine Cm ?_ ?_<;>intro hc1
 ·exact out1 rfl rfl (Af (by have:Bg lw ls=false:=(by simpa [Cc]using hc1);simp[Cc,this]))
 have hL:Bg lw ls=true:=by simpa [Cc]using hc1
 refine Wk 0 (Ax rfl) ?_;refine Wk 0 (Cb rfl rfl Jbg (fun u hu=>Nt xss v gs u (h1.st hu) _ [.pointer (some ⟨b2,0,none⟩)] (fun xs=>!Cd lw ls xs) Jcd (fun u2 h2 i h3 h4=>Kh _ _ _ _ _ _ u2 hL (((h1.st hu).ext h2).el i h3 h4) ((AN hu (j:=0) rfl).ext h2)))) ?_;refine Nf ?_;refine Cm ?_ ?_<;>intro hc2
 ·exact out1 rfl rfl (Af (by simp[hL]at hc2⊢;simpa using hc2))
 exact out1 rfl rfl (Af (by simp[hL]at hc2⊢;simpa using hc2))
theorem H2 (lw ls:Int) (xs:List Int) (v:Value) (w:World) (h1:SlI w v xs):
  Calls prog 89 #[.agg #[.int .i64 lw,.int .i64 ls],v] w (RetB w (.int .i64 (Ep lw ls xs))):=by
 refine Eg func89 ?_;refine Wr 1 fun b2 hb2=>?_;refine Nf ?_;refine Aa ?_;refine WS.buildSlice1 sl34 zv48 (vs:=[v]) rfl rfl (by decide) (by intro y hy;obtain⟨_,p,cap,rfl,_⟩:=h1;simp at hy;subst hy;rfl) (fun _=>rfl) ?_;intro v12;refine Wk 1 (Cb rfl rfl Jfs (fun u hu=>Mw _ _ [xs] _ _ u (SlL.one (BZ hu (j:=0) rfl) (h1.st hu)))) ?_;refine Nf ?_;exact out1 rfl rfl (Af (by simp[Ep]))
theorem OE (lw ls:Int) (xs:List Int) (v:Value) (w:World) (hL:Bg lw ls=true) (h1:SlI w v xs):
  Calls prog 211 #[.agg #[.int .i64 lw,.int .i64 ls],v] w (RetB w (.bool (Cd lw ls xs))):=by
 have hl1:=h1.le;have hl:=Dc hL;refine Eg func211 ?_;refine Wr 1 fun b2 hb2=>?_;refine Nf ?_
 iterate 2 refine Aa ?_
 refine Cm ?_ ?_<;>intro hc1
 ·exact out1 rfl rfl (Af (by rw[RQ hc1]))
 refine CS.loopM (σ:=Int) (rsL [4,4,11,25]) (fun s=>[(5,.int .i64 s)]) (fun _=>_) (fun s=>0<=s/\s<=xs.length/\∀j:Int,0<=j->j<s->Aj (nth xs j) 0 (ls-1)=true) (fun s=>(xs.length-s).toNat) 0 (fun _ _=>rfl) rfl rfl ⟨by omega,by omega,fun j h1 h2=>by omega⟩ ?_;intro s t hs;obtain⟨hs1,hs2,hs3⟩:=hs;refine Nf ?_;refine Aa ?_;refine Cm ?_ ?_<;>intro hc2
 ·refine Dg mixed ?_
  iterate 4 refine Ad ?_
  refine Dk 1 (Cb rfl rfl Dv (fun u hu=>BK _ _ _ u)) ?_;refine Nf ?_;refine Cm ?_ ?_<;>intro hc3
  ·exact out1 rfl rfl (Af (by rw[TQ hs1 (by omega) hc3]))
  refine Aa ?_;exact QS.head (s+1) rfl rfl ⟨⟨by omega,by omega,fun j h1 h2=>if hj:j=s then by rw[hj];exact hc3 else hs3 j h1 (by omega)⟩,by omega⟩
 exact out1 rfl rfl (Af (by rw[Sy (by omega) fun j h1 h2=>hs3 j h1 (by omega)]))
theorem L6 (lw ls:Int) (xs:List Int) (v:Value) (w:World) (h1:SlI w v xs):
  Calls prog 98 #[.agg #[.int .i64 lw,.int .i64 ls],v] w (RetB w (.int .i64 (Ep lw ls xs))):=by
 refine Eg func98 ?_;refine Wr 1 fun b2 hb2=>?_;refine Nf ?_;refine Aa ?_;refine Wk 1 (Cb rfl rfl WM (fun u hu=>HB _ _ u)) ?_;refine Nf ?_;refine Cm ?_ ?_<;>intro hc1
 ·exact out1 rfl rfl (Af (by have:Bg lw ls=false:=(by simpa [Cc]using hc1);simp[Ep,Cc,this]))
 have hL:Bg lw ls=true:=by simpa [Cc]using hc1
 refine Aa ?_;refine Wk 1 (Cb rfl rfl Yh (fun u hu=>OE _ _ _ _ u hL (h1.st hu))) ?_;refine Nf ?_;refine Cm ?_ ?_<;>intro hc2
 ·exact out1 rfl rfl (Af (by simp[Ep,hL,hc2]))
 exact out1 rfl rfl (Af (by simp[Ep,hL,hc2]))
theorem MG (xs:List Int) (v:Value) (y:Int) (w:World) (h1:SlI w v xs):
  Calls prog 279 #[v,.int .i64 y] w (RetB w (.int .i64 (cnt xs y))):=by
 have hl1:=h1.le;refine Eg func279 ?_;refine CS.loopM (σ:=Int×Int) (rsL [7,20]) (fun s=>[(5,.int .i64 s.2),(6,.int .i64 s.1)]) (fun _=>_) (fun s=>0<=s.1/\s.1<=xs.length/\s.2=cnt (xs.take s.1.toNat) y) (fun s=>(xs.length-s.1).toNat) (0,0) (fun _ _=>rfl) rfl rfl ⟨by simp,by simp,rfl⟩ ?_;intro s t hs;obtain⟨hs1,hs2,hs3⟩:=hs;have hbd:=Ek (xs.take s.1.toNat) y;have hlt:=List.length_take_le s.1.toNat xs;refine Nf ?_;refine Aa ?_;refine Cm ?_ ?_<;>intro hc1
 ·iterate 2 refine Aa ?_
  refine Cm ?_ ?_<;>intro hc2
  ·iterate 2 refine Aa ?_
   exact QS.head ((s.1+1,s.2+1)) rfl rfl ⟨⟨by simp;omega,by simp;omega,by simp only;rw[AG xs hs1 (by omega),D9,hs3];simp[hc2]⟩,by simp;omega⟩
  refine Aa ?_;exact QS.head ((s.1+1,s.2)) rfl rfl ⟨⟨by simp;omega,by simp;omega,by simp only;rw[AG xs hs1 (by omega),D9,hs3];simp[hc2]⟩,by simp;omega⟩
 exact out1 rfl rfl (Af (by rw[hs3,Ee xs (by omega)]))
theorem RW (xs ys:List Int) (v1 v2:Value) (w:World) (h1:SlI w v1 xs) (h2:SlI w v2 ys) (hl:xs.length=ys.length) (hm:xs.length<=4):
  Calls prog 280 #[v1,v2] w (RetB w (.tuple #[.int .i64 (Bw xs ys),.int .i64 (BI xs ys 10-Bw xs ys)])):=by
 refine Eg func280 ?_;refine CS.loopM (σ:=Int×Int) (rsL [10,26]) (fun s=>[(6,.int .i64 s.2),(8,.int .i64 s.1)]) (fun _=>_) (fun s=>0<=s.1/\s.1<=xs.length/\s.2=Bw (xs.take s.1.toNat) (ys.take s.1.toNat)) (fun s=>(xs.length-s.1).toNat) (0,0) (fun _ _=>rfl) rfl rfl ⟨by simp,by simp,by simp[Bw]⟩ ?_;intro s t hs;obtain⟨hs1,hs2,hs3⟩:=hs;have hbd:=EO (xs.take s.1.toNat) (ys.take s.1.toNat);have hlt:=List.length_take_le s.1.toNat xs;refine Nf ?_;refine Aa ?_;refine Cm ?_ ?_<;>intro hc1
 ·refine Dg mixed ?_
  iterate 4 refine Ad ?_
  refine Cm ?_ ?_<;>intro hc2
  ·iterate 2 refine Aa ?_
   exact QS.head ((s.1+1,s.2+1)) rfl rfl ⟨⟨by simp;omega,by simp;omega,by simp only;rw[D7 xs ys hl hs1 (by omega),hs3];simp[hc2]⟩,by simp;omega⟩
  refine Aa ?_;exact QS.head ((s.1+1,s.2)) rfl rfl ⟨⟨by simp;omega,by simp;omega,by simp only;rw[D7 xs ys hl hs1 (by omega),hs3];simp[hc2]⟩,by simp;omega⟩
 have e1:=Ee xs (i:=s.1) (by omega);have e2:=Ee ys (i:=s.1) (by omega);rw[e1,e2]at hs3;have hb3:=EO xs ys;have hb4:=DU xs ys 10;refine CS.loopM (σ:=Int×Int) (rsL [27,39]) (fun s=>[(7,.int .i64 s.2),(9,.int .i64 s.1)]) (fun _=>_) (fun s=>0<=s.1/\s.1<=10/\s.2=BI xs ys s.1.toNat) (fun s=>(10-s.1).toNat) (0,0) (fun _ _=>rfl) rfl rfl ⟨by simp,by simp,by simp[BI]⟩ ?_;intro r t hs;obtain⟨ks1,ks2,ks3⟩:=hs;have kbd:=DU xs ys r.1.toNat;have kb2:((r.1.toNat:Nat):Int)*(xs.length:Int)<=10*4:=Int.mul_le_mul (by omega) (by omega) (by omega) (by omega);have kc1:=Ek xs r.1;have kc2:=Ek ys r.1;refine Nf ?_;refine Cm ?_ ?_<;>intro hc3
 ·refine Wk 2 (Cb rfl rfl T7 (fun u hu=>MG _ _ _ u (h1.st hu))) ?_;refine Wk 0 (Cb rfl rfl T7 (fun u hu=>MG _ _ _ u (h2.st hu))) ?_;refine Wk 0 (UD rfl rfl) ?_
  iterate 2 refine Aa ?_
  exact QS.head ((r.1+1,r.2+min (cnt xs r.1) (cnt ys r.1))) rfl rfl ⟨⟨by simp;omega,by simp;omega,by have e:(r.1+1).toNat=r.1.toNat+1:=(by omega);have e2:((r.1.toNat:Nat):Int)=r.1:=(by omega);simp only[e,BI,e2,ks3]⟩,by simp;omega⟩
 have e3:r.1=10:=by omega
 rw[e3]at ks3;have ks4:r.2=BI xs ys 10:=ks3;refine Aa ?_;exact out2 rfl rfl rfl (Af (by rw[ks4,hs3]))
theorem WK (xs ys:List Int) (v1 v2:Value) (w:World) (h1:SlI w v1 xs) (h2:SlI w v2 ys) (hl:xs.length=ys.length) (hm:xs.length<=4)
  (hx:∀x∈xs,0<=x/\x<10) (hy:∀x∈ys,0<=x/\x<10):
  Calls prog 341 #[v1,v2] w (RetB w (.tuple #[.int .i64 (Bw xs ys),.int .i64 (BI xs ys 10-Bw xs ys)])):=by
 refine Eg func341 ?_;refine Wq 0 Jbl fun b6 hb6=>?_;refine Wq 0 Jbl fun b7 hb7=>?_;refine Nf ?_;refine Aa ?_;refine CS.loopM (σ:=Int×Int) (rsL [8,9,14,39]) (fun s=>[(4,.int .i64 s.2),(13,.int .i64 s.1)]) (fun s=>[blk b7 (Gn (ys.take s.1.toNat)) 378,blk b6 (Gn (xs.take s.1.toNat)) 378]) (fun s=>0<=s.1/\s.1<=xs.length/\s.2=Bw (xs.take s.1.toNat) (ys.take s.1.toNat)) (fun s=>(xs.length-s.1).toNat) (0,0) (fun _ _=>rfl) rfl rfl ⟨by simp,by simp,by simp[Bw]⟩ ?_;intro s t hs;obtain⟨hs1,hs2,hs3⟩:=hs;have hbd:=EO (xs.take s.1.toNat) (ys.take s.1.toNat);have hlt:=List.length_take_le s.1.toNat xs;have hlt2:=List.length_take_le s.1.toNat ys;refine Nf ?_;refine Cm ?_ ?_<;>intro hc1
 ·have hlx:s.1<xs.length:=by omega
  have hly:s.1<ys.length:=by omega
  have hnx:=hx _ (Ai hs1 hlx);have hny:=hy _ (Ai hs1 hly);have ct1:=Ek (xs.take s.1.toNat) (nth xs s.1);have ct2:=Ek (ys.take s.1.toNat) (nth ys s.1)
  iterate 4 refine Aa ?_
  refine Cm ?_ ?_<;>intro hc2
  ·refine Aa ?_;refine Wk 0 (BG Fo rfl rfl (by omega) (by omega)) ?_;refine Wk 0 (AP (j:=1) rfl rfl (EX hnx.1 hnx.2) tk3) ?_;refine Aa ?_;refine Wk 0 (BG Fo rfl rfl (by omega) (by omega)) ?_;refine WS.store (j:=1) rfl rfl (by simp[EG];omega) rfl rfl tk3 (Fw _ _ _) rfl ?_;refine Nf ?_
   iterate 2 refine Aa ?_
   refine Wk 0 (BG Fo rfl rfl (by omega) (by omega)) ?_;refine Wk 0 (AP (j:=0) rfl rfl (EX hny.1 hny.2) tk3) ?_;refine Aa ?_;refine Wk 0 (BG Fo rfl rfl (by omega) (by omega)) ?_;refine WS.store (j:=0) rfl rfl (by simp[EG];omega) rfl rfl tk3 (Fw _ _ _) rfl ?_;refine Nf ?_;refine Aa ?_;exact QS.head ((s.1+1,s.2+1)) rfl (by simp only[F8 hnx.1 hnx.2,F8 hny.1 hny.2,AG xs hs1 hlx,AG ys hs1 hly]) ⟨⟨by simp;omega,by simp;omega,by simp only;rw[D7 xs ys hl hs1 (by omega),hs3];simp[hc2]⟩,by simp;omega⟩
  refine Wk 0 (BG Fo rfl rfl (by omega) (by omega)) ?_;refine Wk 0 (AP (j:=1) rfl rfl (EX hnx.1 hnx.2) tk3) ?_;refine Aa ?_;refine Wk 0 (BG Fo rfl rfl (by omega) (by omega)) ?_;refine WS.store (j:=1) rfl rfl (by simp[EG];omega) rfl rfl tk3 (Fw _ _ _) rfl ?_;refine Nf ?_
  iterate 2 refine Aa ?_
  refine Wk 0 (BG Fo rfl rfl (by omega) (by omega)) ?_;refine Wk 0 (AP (j:=0) rfl rfl (EX hny.1 hny.2) tk3) ?_;refine Aa ?_;refine Wk 0 (BG Fo rfl rfl (by omega) (by omega)) ?_;refine WS.store (j:=0) rfl rfl (by simp[EG];omega) rfl rfl tk3 (Fw _ _ _) rfl ?_;refine Nf ?_;refine Aa ?_;exact QS.head ((s.1+1,s.2)) rfl (by simp only[F8 hnx.1 hnx.2,F8 hny.1 hny.2,AG xs hs1 hlx,AG ys hs1 hly]) ⟨⟨by simp;omega,by simp;omega,by simp only;rw[D7 xs ys hl hs1 (by omega),hs3];simp[hc2]⟩,by simp;omega⟩
 have e1:=Ee xs (i:=s.1) (by omega);have e2:=Ee ys (i:=s.1) (by omega);rw[e1,e2]at hs3;have hb3:=EO xs ys;have hb4:=DU xs ys 10;refine CS.loopM (σ:=Int×Int) (rsL [10,10,41,52]) (fun s=>[(5,.int .i64 s.2),(40,.int .i64 s.1)]) (fun s=>[blk b7 (Gn ys) 378,blk b6 (Gn xs) 378]) (fun s=>0<=s.1/\s.1<=10/\s.2=BI xs ys s.1.toNat) (fun s=>(10-s.1).toNat) (0,0) (fun _ _=>rfl) rfl (by rw[e1,e2]) ⟨by simp,by simp,by simp[BI]⟩ ?_;intro r t hs;obtain⟨ks1,ks2,ks3⟩:=hs;have kbd:=DU xs ys r.1.toNat;have kb2:((r.1.toNat:Nat):Int)*(xs.length:Int)<=10*4:=Int.mul_le_mul (by omega) (by omega) (by omega) (by omega);have kc1:=Ek xs r.1;have kc2:=Ek ys r.1;refine Nf ?_;refine Cm ?_ ?_<;>intro hc3
 ·refine Dg mixed ?_;refine Dk 0 (BG Fo rfl rfl (by omega) (by omega)) ?_;refine Dk 1 (AP (j:=1) rfl rfl (EX (by omega) (by omega)) tk3) ?_;refine Dk 0 (BG Fo rfl rfl (by omega) (by omega)) ?_;refine Dk 0 (AP (j:=0) rfl rfl (EX (by omega) (by omega)) tk3) ?_;refine Dk 0 (UD rfl rfl) ?_;refine Ad ?_;refine Aa ?_;exact QS.head ((r.1+1,r.2+min (cnt xs r.1) (cnt ys r.1))) rfl rfl ⟨⟨by simp;omega,by simp;omega,by have e:(r.1+1).toNat=r.1.toNat+1:=(by omega);have e2:((r.1.toNat:Nat):Int)=r.1:=(by omega);simp only[e,BI,e2,ks3]⟩,by simp;omega⟩
 have e3:r.1=10:=by omega
 rw[e3]at ks3;have ks4:r.2=BI xs ys 10:=ks3;refine Aa ?_;exact out2 rfl rfl rfl (Af (by rw[ks4,hs3]))
theorem QN (c d:Clue) (gv hv:Value) (w:World) (h1:SlI w gv c.g) (h2:SlI w hv d.g):
  Calls prog 285 #[.agg #[.int .i64 c.k,.int .i64 c.a,.int .i64 c.b,.int .i64 c.n,.int .i64 c.m,gv,.bool c.nt],.agg #[.int .i64 d.k,.int .i64 d.a,.int .i64 d.b,.int .i64 d.n,.int .i64 d.m,hv,.bool d.nt]] w (RetB w (.bool (decide (c=d)))):=by
 refine En func285 ?_;refine Nz 0 ?_;refine Wr 0 fun b2 hb2=>?_;refine Wr 1 fun b3 hb3=>?_;refine Nx 1 ?_;refine Wk 1 (Ba 1) ?_;refine Wk 2 (Ba 0) ?_;refine Wj 0 ?_;refine Wj 0 ?_;refine Wj 0 ?_;refine Wj 0 ?_;refine Wj 0 ?_;refine Wk 1 Pa ?_;refine Wj 0 ?_;refine Wj 0 ?_;refine Wj 0 ?_;refine Wj 0 ?_;refine Wj 0 ?_;refine Wk 1 Pa ?_;refine Wj 0 ?_;refine Wj 0 ?_;refine Wj 0 ?_;refine Wj 0 ?_;refine Wj 0 ?_;refine Wk 1 Pa ?_;refine Wj 0 ?_;refine Wj 0 ?_;refine Wj 0 ?_;refine Wj 0 ?_;refine Wj 0 ?_;refine Wk 1 Pa ?_;refine Wj 0 ?_;refine Wj 0 ?_;refine Wj 0 ?_;refine Wj 0 ?_;refine Wt 0 rfl rfl (fun hg=>MZ (eg_ hg rfl) (eg_ hg rfl) underlying4) ?_;refine Wk 1 Pa ?_;refine Wj 0 ?_;refine Wj 0 ?_;refine Wj 0 ?_;refine Wj 0 ?_;refine Wt 0 rfl rfl (fun hg=>Cb rfl (ec_ (eg_ hg rfl) (ec_ (eg_ hg rfl) en_)) Jes (fun u hu=>QP _ _ _ _ u (h1.st hu) (h2.st hu))) ?_;refine Wk 1 Pa ?_;exact Wd (Qc (Cr (out1 rfl rfl (Af (by cases c;cases d;simp[Clue.mk.injEq,Bool.and_assoc,and_assoc];grind)))))
theorem So (lw ls:Int) (c:Clue) (gv:Value) (w:World) (hL:Bg lw ls=true) (h1:SlI w gv c.g):
  Calls prog 183 #[.agg #[.int .i64 lw,.int .i64 ls],.agg #[.int .i64 c.k,.int .i64 c.a,.int .i64 c.b,.int .i64 c.n,.int .i64 c.m,gv,.bool c.nt]] w (RetB w (.bool (Bd lw ls c))):=by
 have hl:=Dc hL;obtain⟨hgn,p,cap,rfl,hcap,hp⟩:=h1;have h1:SlI w (.slice p c.g.length cap) c.g:=⟨hgn,p,cap,rfl,hcap,hp⟩;clear hgn hcap hp;refine En func183 ?_;refine Nz 0 ?_;refine Wr 0 fun b2 hb2=>?_;refine Wr 1 fun b3 hb3=>?_;refine Nx 1 ?_;refine Wk 1 (Ba 0) ?_;refine Wk 0 (Ba 0) ?_;refine Wk 0 (Db Gx zv89) ?_;refine Wq 0 zv89 fun b5 hb5=>?_;refine Wv 0 0 ?_;refine Nx 1 ?_;refine Wd (Qc ?_);refine CS.cut (σ:=Used) [12,13,14,15,16,17,18,19,20,21,22,23,24,25,26,27,28,29,30,31,32,33,34,35,36,37,38,39,40,41,42,43,44,45,46,47,48,49,50,51,52,53,54,55,56,57,58,59,60,61,62,63,64,65,66,67,68,69,70,71,72,73,74,75,76,77,78,79,80,81,82,83,84,85,86,87,88,89,90,91,92,93,94,95,96,97,98,99,100,101,102,103,104,105,106,107,108,109,110,111,112,113,114,115,116,117,118,119,120,121,122,123,124,125,126,127,128,129,130,131,132,133,134,135,136,137,138,139,140,141,142,143,144,145,146,147,148,149,150,151,152,153,154,155,156,157,158,159,160,161,162,163,164,165,166] (fun s=>[(6,.bool s.is)]) (fun s=>[blk b5 [.int .i64 c.k,.int .i64 s.a,.int .i64 s.b,.int .i64 s.n,.int .i64 s.m,.slice s.q s.l s.cap,.bool c.nt] 89,blk b3 [.int .i64 c.k,.int .i64 c.a,.int .i64 c.b,.int .i64 c.n,.int .i64 c.m,.slice p c.g.length cap,.bool c.nt] 89,blk b2 [.int .i64 lw,.int .i64 ls] 247]) (fun s=>EL c s=Bd lw ls c) (fun _ _=>rfl) ?_ ?_
 ·refine Nz 1 ?_;refine Wk 0 (Ba 1) ?_;refine Wd (Qc (Ce (Nz 2 ?_)));refine Wp ?_ ?_<;>intro hc1
  ·refine Cs ?_;refine CS.drawnBut 0 (k:=8) mixed rfl rfl rfl ?_;refine Ar [0] ?_;refine Ak 1 [2] rfl (Ba 0) ?_;refine Ak 3 [4] rfl (Ba 0) ?_;refine Ao 5 rfl ?_;refine Ws 0 0 ?_;refine Wd (Qa ?_);refine Ar [6] ?_;refine Ao 7 rfl ?_;refine Ws 0 0 ?_;refine Wd (Qa ?_);refine Ae ?_;refine Qc (Ny 0 ?_);refine Wk 1 (Bb 2) ?_;refine Wk 0 (Ba 1) ?_;refine Wk 1 (Cb rfl rfl GZ (fun u hu=>EM _ _ _ u hL)) ?_;refine Wj 0 ?_;refine Wj 0 ?_;refine Wj 0 ?_;refine Wt 0 rfl rfl (fun hg=>Cb rfl (ec_ (eg_ hg rfl) (ec_ (eg_ hg rfl) en_)) TI (fun u hu=>Kv _ _ _ u hL)) ?_;refine Wk 1 Pa ?_;exact Wd (Qb (QS.head (⟨Aj c.a 0 (lw-1)&&Aj c.n 0 (ls-1),c.a,0,c.n,0,none,0,0⟩) rfl rfl (Zt hc1 none 0)))
  refine Nz 2 ?_;refine Wp ?_ ?_<;>intro hc2
  ·refine Cs ?_;refine CS.drawnBut 0 (k:=12) mixed rfl rfl rfl ?_;refine Ar [0] ?_;refine Ak 1 [2] rfl (Ba 0) ?_;refine Ak 3 [4] rfl (Ba 0) ?_;refine Ak 5 [6] rfl (Ba 0) ?_;refine Ao 7 rfl ?_;refine Ws 0 0 ?_;refine Wd (Qa ?_);refine Ar [8] ?_;refine Ao 9 rfl ?_;refine Ws 0 0 ?_;refine Wd (Qa ?_);refine Ar [10] ?_;refine Ao 11 rfl ?_;refine Ws 0 0 ?_;refine Wd (Qa ?_);refine Ae ?_;refine Qc (Ny 0 ?_);refine Wk 1 (Bb 2) ?_;refine Wk 0 (Ba 1) ?_;refine Wk 1 (Cb rfl rfl GZ (fun u hu=>EM _ _ _ u hL)) ?_;refine Wj 0 ?_;refine Wj 0 ?_;refine Wj 0 ?_;refine Wt 0 rfl rfl (fun hg=>Cb rfl (ec_ (eg_ hg rfl) (ec_ (eg_ hg rfl) en_)) GZ (fun u hu=>EM _ _ _ u hL)) ?_;refine Wk 1 Pa ?_;refine Wj 0 ?_;refine Wj 0 ?_;refine Wj 0 ?_;refine Wj 0 ?_;refine Wj 0 ?_;refine Wk 1 Pa ?_;refine Wj 0 ?_;refine Wj 0 ?_;refine Wt 0 rfl rfl (fun hg=>Cb rfl (ec_ (eg_ hg rfl) (ec_ rfl (ec_ rfl en_))) Ey (fun u hu=>Co _ _ _ u)) ?_;refine Wk 1 Pa ?_;exact Wd (Qb (QS.head (⟨((Aj c.a 0 (lw-1)&&Aj c.b 0 (lw-1))&&decide (c.a<=c.b))&&Aj c.n 0 100,c.a,c.b,c.n,0,none,0,0⟩) rfl rfl (YE hc2 none 0)))
  refine Cs (Nz 2 ?_);refine Wp ?_ ?_<;>intro hc3
  ·refine Ck (Qc (Cn ?_ ?_))<;>intro hc4
   ·refine Cs ?_;refine CS.drawnBut 0 (k:=8) mixed rfl rfl rfl ?_;refine Ar [0] ?_;refine Ak 1 [2] rfl (Ba 0) ?_;refine Ak 3 [4] rfl (Ba 0) ?_;refine Ao 5 rfl ?_;refine Ws 0 0 ?_;refine Wd (Qa ?_);refine Ar [6] ?_;refine Ao 7 rfl ?_;refine Ws 0 0 ?_;refine Wd (Qa ?_);refine Ae ?_;refine Qc (Ny 0 ?_);refine Wk 1 (Bb 2) ?_;refine Wk 0 (Ba 1) ?_;refine Wk 1 (Cb rfl rfl GZ (fun u hu=>EM _ _ _ u hL)) ?_;refine Wj 0 ?_;refine Wj 0 ?_;refine Wj 0 ?_;refine Wt 0 rfl rfl (fun hg=>Cb rfl (ec_ (eg_ hg rfl) (ec_ (eg_ hg rfl) en_)) GZ (fun u hu=>EM _ _ _ u hL)) ?_;refine Wk 1 Pa ?_;refine Wj 0 ?_;refine Wj 0 ?_;refine Wj 0 ?_;refine Wj 0 ?_;refine Wj 0 ?_;refine Wk 1 Pa ?_;exact Wd (Qb (QS.head (⟨(Aj c.a 0 (lw-1)&&Aj c.b 0 (lw-1))&&decide (c.a≠c.b),c.a,c.b,0,0,none,0,0⟩) rfl rfl (Z9 hc3 none 0)))
   exact absurd hc3 hc4
  refine Ny 2 ?_;refine Wp ?_ ?_<;>intro hc5
  ·refine Cs ?_;refine CS.drawnBut 0 (k:=8) mixed rfl rfl rfl ?_;refine Ar [0] ?_;refine Ak 1 [2] rfl (Ba 0) ?_;refine Ak 3 [4] rfl (Ba 0) ?_;refine Ao 5 rfl ?_;refine Ws 0 0 ?_;refine Wd (Qa ?_);refine Ar [6] ?_;refine Ao 7 rfl ?_;refine Ws 0 0 ?_;refine Wd (Qa ?_);refine Ae ?_;refine Qc (Ny 0 ?_);refine Wk 1 (Bb 2) ?_;refine Wk 0 (Ba 1) ?_;refine Wk 1 (Cb rfl rfl GZ (fun u hu=>EM _ _ _ u hL)) ?_;refine Wj 0 ?_;refine Wj 0 ?_;refine Wj 0 ?_;refine Wt 0 rfl rfl (fun hg=>Cb rfl (ec_ (eg_ hg rfl) (ec_ (eg_ hg rfl) en_)) GZ (fun u hu=>EM _ _ _ u hL)) ?_;refine Wk 1 Pa ?_;refine Wj 0 ?_;refine Wj 0 ?_;refine Wj 0 ?_;refine Wj 0 ?_;refine Wj 0 ?_;refine Wk 1 Pa ?_;exact Wd (Qb (QS.head (⟨(Aj c.a 0 (lw-1)&&Aj c.b 0 (lw-1))&&decide (c.a≠c.b),c.a,c.b,0,0,none,0,0⟩) rfl rfl (Jaa hc5 none 0)))
  refine Nz 2 ?_;refine Wp ?_ ?_<;>intro hc6
  ·refine Cs ?_;refine CS.drawnBut 0 (k:=8) mixed rfl rfl rfl ?_;refine Ar [0] ?_;refine Ak 1 [2] rfl (Ba 0) ?_;refine Ak 3 [4] rfl (Ba 0) ?_;refine Ao 5 rfl ?_;refine Ws 0 0 ?_;refine Wd (Qa ?_);refine Ar [6] ?_;refine Ao 7 rfl ?_;refine Ws 0 0 ?_;refine Wd (Qa ?_);refine Ae ?_;refine Qc (Ny 0 ?_);refine Wk 1 (Bb 2) ?_;refine Wk 0 (Ba 1) ?_;refine Wk 1 (Cb rfl rfl TI (fun u hu=>Kv _ _ _ u hL)) ?_;refine Wj 0 ?_;refine Wj 0 ?_;refine Wj 0 ?_;refine Wj 0 ?_;refine Wt 0 rfl rfl (fun hg=>Cb rfl (ec_ (eg_ hg rfl) (ec_ rfl (ec_ (eg_ hg rfl) en_))) Ey (fun u hu=>Co _ _ _ u)) ?_;refine Wk 1 Pa ?_;exact Wd (Qb (QS.head (⟨Aj c.n 0 (ls-1)&&Aj c.m 0 lw,0,0,c.n,c.m,none,0,0⟩) rfl rfl (Yx hc6 none 0)))
  refine Nz 2 ?_;refine Wp ?_ ?_<;>intro hc7
  ·refine Cs ?_;refine CS.drawnBut 0 (k:=12) mixed rfl rfl rfl ?_;refine Ar [0] ?_;refine Ak 1 [2] rfl (Ba 0) ?_;refine Ak 3 [4] rfl (Ba 0) ?_;refine Ak 5 [6] rfl (Ba 0) ?_;refine Ao 7 rfl ?_;refine Ws 0 0 ?_;refine Wd (Qa ?_);refine Ar [8] ?_;refine Ao 9 rfl ?_;refine Ws 0 0 ?_;refine Wd (Qa ?_);refine Ar [10] ?_;refine Ao 11 rfl ?_;refine Ws 0 0 ?_;refine Wd (Qa ?_);refine Ae ?_;refine Qc (Ny 1 ?_);refine Wk 1 (Ba 1) ?_;refine Wk 0 (Ba 2) ?_;refine Wk 1 (Cb rfl rfl Ey (fun u hu=>Co _ _ _ u)) ?_;refine Wj 0 ?_;refine Wj 0 ?_;refine Wj 0 ?_;refine Wj 0 ?_;refine Wt 0 rfl rfl (fun hg=>Cb rfl (ec_ (eg_ hg rfl) (ec_ rfl (ec_ (eg_ hg rfl) en_))) Ey (fun u hu=>Co _ _ _ u)) ?_;refine Wk 1 Pa ?_;refine Wj 0 ?_;refine Wj 0 ?_;refine Wj 0 ?_;refine Wt 0 rfl rfl (fun hg=>Cb rfl (ec_ (eg_ hg rfl) (ec_ (eg_ hg rfl) en_)) Yp (fun u hu=>XM _ _ _ _ u hL (h1.st hu))) ?_;refine Wk 1 Pa ?_;exact Wd (Qb (QS.head (⟨(Aj c.n 0 lw&&Aj c.m 0 lw)&&Cd lw ls c.g,0,0,c.n,c.m,p,c.g.length,cap⟩) rfl rfl (Zo hc7 p cap)))
  refine Nz 2 ?_;refine Wp ?_ ?_<;>intro hc8
  ·refine Cs ?_;refine CS.drawnBut 0 (k:=12) mixed rfl rfl rfl ?_;refine Ar [0] ?_;refine Ak 1 [2] rfl (Ba 0) ?_;refine Ak 3 [4] rfl (Ba 0) ?_;refine Ak 5 [6] rfl (Ba 0) ?_;refine Ao 7 rfl ?_;refine Ws 0 0 ?_;refine Wd (Qa ?_);refine Ar [8] ?_;refine Ao 9 rfl ?_;refine Ws 0 0 ?_;refine Wd (Qa ?_);refine Ar [10] ?_;refine Ao 11 rfl ?_;refine Ws 0 0 ?_;refine Wd (Qa ?_);refine Ae ?_;refine Qc (Ny 0 ?_);refine Wk 1 (Bb 2) ?_;refine Wk 0 (Ba 1) ?_;refine Wk 1 (Cb rfl rfl GZ (fun u hu=>EM _ _ _ u hL)) ?_;refine Wj 0 ?_;refine Wj 0 ?_;refine Wt 0 rfl rfl (fun hg=>Cb rfl (ec_ (eg_ hg rfl) (ec_ rfl (ec_ rfl en_))) Ey (fun u hu=>Co _ _ _ u)) ?_;refine Wk 1 Pa ?_;refine Wj 0 ?_;refine Wj 0 ?_;refine Wj 0 ?_;refine Wj 0 ?_;refine Wt 0 rfl rfl (fun hg=>GI (eg_ hg rfl) rfl (by simp[Aj]at hg;omega)) ?_;refine Wt 0 rfl rfl (fun hg=>Cb rfl (ec_ (eg_ hg rfl) (ec_ rfl (ec_ (eg_ hg rfl) en_))) Ey (fun u hu=>Co _ _ _ u)) ?_;refine Wk 1 Pa ?_;exact Wd (Qb (QS.head (⟨(Aj c.a 0 (lw-1)&&Aj c.n 2 10)&&Aj c.m 0 (c.n-1),c.a,0,c.n,c.m,none,0,0⟩) rfl rfl (Zv hc8 none 0)))
  exact Ck (Qb (QS.head (⟨false,0,0,0,0,none,0,0⟩) rfl rfl (VN hc1 hc2 hc3 hc5 hc6 hc7 hc8 _ _ _ _ _ _ _)))
 intro s t hs;refine Nz 2 ?_;refine Wj 0 ?_;refine Wj 0 ?_;refine Wj 0 ?_;refine Wj 0 ?_;refine Wj 0 ?_;refine Wk 1 Pa ?_;refine Wj 0 ?_;refine Wj 0 ?_;refine Wj 0 ?_;refine Wj 0 ?_;refine Wj 0 ?_;refine Wk 1 Pa ?_;refine Wj 0 ?_;refine Wj 0 ?_;refine Wj 0 ?_;refine Wj 0 ?_;refine Wj 0 ?_;refine Wk 1 Pa ?_;refine Wj 0 ?_;refine Wj 0 ?_;refine Wj 0 ?_;refine Wj 0 ?_;refine Wj 0 ?_;refine Wk 1 Pa ?_;refine Wj 0 ?_;refine Wj 0 ?_;refine Wj 0 ?_;refine Wj 0 ?_;refine Wj 0 ?_;refine Wt 0 rfl rfl (fun hg=>W3 sl48 (eg_ hg rfl) ⟨_,_,rfl⟩) ?_;refine Wj 0 ?_;refine Wk 1 Pa ?_;exact Wd (Qc (Cr (out1 rfl rfl (Af (by rw[<-hs];rfl)))))
theorem PF (lw ls:Int) (c:Clue) (gv:Value) (w:World) (hL:Bg lw ls=true) (h1:SlI w gv c.g):
  Calls prog 217 #[.agg #[.int .i64 lw,.int .i64 ls],.agg #[.int .i64 c.k,.int .i64 c.a,.int .i64 c.b,.int .i64 c.n,.int .i64 c.m,gv,.bool c.nt]] w (RetB w (.bool (Bd lw ls c))):=by
 have hl:=Dc hL;obtain⟨hgn,p,cap,rfl,hcap,hp⟩:=h1;have h1:SlI w (.slice p c.g.length cap) c.g:=⟨hgn,p,cap,rfl,hcap,hp⟩;clear hgn hcap hp;refine Eg func217 ?_;refine Wr 0 fun b2 hb2=>?_;refine Wr 1 fun b3 hb3=>?_;refine Nf ?_;refine Dg mixed ?_
 iterate 3 refine Ad ?_
 refine Dk 1 (Cb rfl rfl Dv (fun u hu=>BK _ _ _ u)) ?_
 iterate 3 refine Ad ?_
 refine Dk 2 (Cb rfl rfl Dv (fun u hu=>BK _ _ _ u)) ?_;refine Nf ?_
 iterate 2 refine Aa ?_
 refine Wk 0 (Db Gx zv89) ?_;refine Wq 0 zv89 fun b7 hb7=>?_;refine Wv 0 0 ?_;refine Nx 1 ?_;refine Wd (Qc ?_);refine CS.cut (σ:=Used) [26,27,28,29,30,31,32,33,34,35,36,37,38,39,40,41,42,43,44,45,46,47,48,49,50,51,52,53,54,55,56,57,58,59,60,61,62,63,64,65,66,67,68,69,70,71,72,73,74,75,76,77,78,79,80,81,82,83,84,85,86,87,88,89,90,91,92,93,94,95,96,97,98,99,100,101,102,103,104,105,106,107,108,109,110,111,112,113,114,115,116,117,118,119,120,121,122,123,124,125,126,127,128,129,130,131,132,133,134,135,136,137,138,139,140,141,142,143,144,145,146,147,148,149,150,151,152,153,154,155,156,157,158,159,160,161,162,163,164,165,166] (fun s=>[(8,.bool s.is)]) (fun s=>[blk b7 [.int .i64 c.k,.int .i64 s.a,.int .i64 s.b,.int .i64 s.n,.int .i64 s.m,.slice s.q s.l s.cap,.bool c.nt] 89,blk b3 [.int .i64 c.k,.int .i64 c.a,.int .i64 c.b,.int .i64 c.n,.int .i64 c.m,.slice p c.g.length cap,.bool c.nt] 89,blk b2 [.int .i64 lw,.int .i64 ls] 85]) (fun s=>RU w lw ls c s) (fun _ _=>rfl) ?_ ?_
 ·refine Nf ?_;refine Aa ?_;refine Cm ?_ ?_<;>intro hc1
  ·iterate 5 refine Aa ?_
   refine Wt 0 rfl rfl (fun hg=>Cb rfl (ec_ (eg_ hg rfl) (ec_ rfl (ec_ (eg_ hg rfl) en_))) Dv (fun u hu=>BK _ _ _ u)) ?_
   iterate 2 refine Aa ?_
   refine Ws 0 0 ?_;refine Nf ?_;refine Aa ?_;refine Ws 0 0 ?_;refine Nf ?_;exact QS.head (⟨Aj c.a 0 (lw-1)&&Aj c.n 0 (ls-1),c.a,0,c.n,0,none,0,0⟩) rfl rfl (Jac hc1)
  refine Cm ?_ ?_<;>intro hc2
  ·iterate 10 refine Aa ?_
   refine Wt 0 rfl rfl (fun hg=>Cb rfl (ec_ (eg_ hg rfl) (ec_ rfl (ec_ rfl en_))) Dv (fun u hu=>BK _ _ _ u)) ?_
   iterate 2 refine Aa ?_
   refine Ws 0 0 ?_;refine Nf ?_;refine Aa ?_;refine Ws 0 0 ?_;refine Nf ?_;refine Aa ?_;refine Ws 0 0 ?_;refine Nf ?_;exact QS.head (⟨((Aj c.a 0 (lw-1)&&Aj c.b 0 (lw-1))&&decide (c.a<=c.b))&&Aj c.n 0 100,c.a,c.b,c.n,0,none,0,0⟩) rfl rfl (YS hc2)
  refine Cm ?_ ?_<;>intro hc3
  ·refine Cm ?_ ?_<;>intro hc4
   ·iterate 9 refine Aa ?_
    refine Ws 0 0 ?_;refine Nf ?_;refine Aa ?_;refine Ws 0 0 ?_;refine Nf ?_;exact QS.head (⟨(Aj c.a 0 (lw-1)&&Aj c.b 0 (lw-1))&&decide (c.a≠c.b),c.a,c.b,0,0,none,0,0⟩) rfl rfl (ZP hc3)
   exact absurd hc3 hc4
  refine Cm ?_ ?_<;>intro hc5
  ·iterate 9 refine Aa ?_
   refine Ws 0 0 ?_;refine Nf ?_;refine Aa ?_;refine Ws 0 0 ?_;refine Nf ?_;exact QS.head (⟨(Aj c.a 0 (lw-1)&&Aj c.b 0 (lw-1))&&decide (c.a≠c.b),c.a,c.b,0,0,none,0,0⟩) rfl rfl (Jah hc5)
  refine Cm ?_ ?_<;>intro hc6
  ·iterate 3 refine Aa ?_
   refine Wk 1 (Cb rfl rfl Dv (fun u hu=>BK _ _ _ u)) ?_
   iterate 4 refine Aa ?_
   refine Wt 0 rfl rfl (fun hg=>Cb rfl (ec_ (eg_ hg rfl) (ec_ rfl (ec_ (eg_ hg rfl) en_))) Dv (fun u hu=>BK _ _ _ u)) ?_
   iterate 2 refine Aa ?_
   refine Ws 0 0 ?_;refine Nf ?_;refine Aa ?_;refine Ws 0 0 ?_;refine Nf ?_;exact QS.head (⟨Aj c.n 0 (ls-1)&&Aj c.m 0 lw,0,0,c.n,c.m,none,0,0⟩) rfl rfl (Jaq hc6)
  refine Cm ?_ ?_<;>intro hc7
  ·iterate 2 refine Aa ?_
   refine Wk 1 (Cb rfl rfl Yh (fun u hu=>OE _ _ _ _ u hL (h1.st hu))) ?_
   iterate 4 refine Aa ?_
   refine Wt 0 rfl rfl (fun hg=>Cb rfl (ec_ (eg_ hg rfl) (ec_ rfl (ec_ (eg_ hg rfl) en_))) Dv (fun u hu=>BK _ _ _ u)) ?_
   iterate 5 refine Aa ?_
   refine Wt 0 rfl rfl (fun hg=>Cb rfl (ec_ (eg_ hg rfl) (ec_ rfl (ec_ (eg_ hg rfl) en_))) Dv (fun u hu=>BK _ _ _ u)) ?_
   iterate 2 refine Aa ?_
   refine Ws 0 0 ?_;refine Nf ?_;refine Aa ?_;refine Ws 0 0 ?_;refine Nf ?_;refine Aa ?_;refine Ws 0 0 ?_;refine Nf ?_;exact QS.head (⟨(Cd lw ls c.g&&Aj c.n 0 lw)&&Aj c.m 0 lw,0,0,c.n,c.m,p,c.g.length,cap⟩) rfl rfl (Jaj hc7 h1)
  refine Cm ?_ ?_<;>intro hc8
  ·iterate 2 refine Aa ?_
   refine Wt 0 rfl rfl (fun hg=>Cb rfl (ec_ (eg_ hg rfl) (ec_ rfl (ec_ rfl en_))) Dv (fun u hu=>BK _ _ _ u)) ?_
   iterate 5 refine Aa ?_
   refine Wt 0 rfl rfl (fun hg=>GI (eg_ hg rfl) rfl (by simp[Aj]at hg;omega)) ?_;refine Wt 0 rfl rfl (fun hg=>Cb rfl (ec_ (eg_ hg rfl) (ec_ rfl (ec_ (eg_ hg rfl) en_))) Dv (fun u hu=>BK _ _ _ u)) ?_
   iterate 2 refine Aa ?_
   refine Ws 0 0 ?_;refine Nf ?_;refine Aa ?_;refine Ws 0 0 ?_;refine Nf ?_;refine Aa ?_;refine Ws 0 0 ?_;refine Nf ?_;exact QS.head (⟨(Aj c.a 0 (lw-1)&&Aj c.n 2 10)&&Aj c.m 0 (c.n-1),c.a,0,c.n,c.m,none,0,0⟩) rfl rfl (YO hc8)
  exact QS.head (⟨false,0,0,0,0,none,0,0⟩) rfl rfl (Xg hc1 hc2 hc3 hc5 hc6 hc7 hc8)
 intro s t hs;obtain⟨g,h2,hs⟩:=hs;refine Nf ?_
 iterate 2 refine Aa ?_
 refine Wt 0 rfl rfl (fun hg=>Cb rfl (ec_ (eg_ hg rfl) (ec_ (eg_ hg rfl) en_)) Jet (fun u hu=>QN c (Kk c s.a s.b s.n s.m g) _ _ u (h1.st hu) (h2.st hu))) ?_;refine Aa ?_;exact out1 rfl rfl (Af (by rw[<-hs]))
theorem Y2 (lw ls:Int) (c:Clue) (gv:Value) (xs:List Int) (v:Value) (w:World) (hU:Use lw ls c xs) (hg1:SlI w gv c.g) (h1:SlI w v xs):
  Calls prog 317 #[.agg #[.int .i64 c.k,.int .i64 c.a,.int .i64 c.b,.int .i64 c.n,.int .i64 c.m,gv,.bool c.nt],v] w (RetB w (.bool (CN c xs))):=by
 have hl1:=h1.le;have hln:=hU.len;obtain⟨f1,f2,f3,f7,fk1,fk2,fn⟩:=hU.facts;obtain⟨hgn,p,cap,rfl,hcap,hp⟩:=hg1;have hg1:SlI w (.slice p c.g.length cap) c.g:=⟨hgn,p,cap,rfl,hcap,hp⟩;clear hgn hcap hp;refine Eg func317 ?_;refine Wr 1 fun b2 hb2=>?_;refine Nf ?_;refine Aa ?_;refine Cm ?_ ?_<;>intro hc1
 ·refine Dg mixed ?_
  iterate 4 refine Ad ?_
  exact out1 rfl rfl (Af (by simp[CN,hc1]))
 refine Cm ?_ ?_<;>intro hc2
 ·have fk:=f2 hc2;have h2:=h1.sub (lo:=c.a.toNat) (hi:=(c.b+1).toNat) (by omega) (by omega);have hpl:=PW fk.1 fk.2.1 fk.2.2
  change SlI w _ (part xs c.a c.b)at h2
  refine Nf ?_
  iterate 3 refine Aa ?_
  refine Wk 0 (W0 sl48 rfl rfl rfl h1 (by omega) (by omega) (by omega)) ?_;refine Aa ?_;refine CS.loopM (σ:=Int×Int) (rsL [7,7,36,42]) (fun s=>[(5,.int .i64 s.2),(35,.int .i64 s.1)]) (fun _=>_) (fun s=>0<=s.1/\s.1<=(part xs c.a c.b).length/\s.2=lsum ((part xs c.a c.b).take s.1.toNat)) (fun s=>((part xs c.a c.b).length-s.1).toNat) (0,0) (fun _ _=>rfl) rfl rfl ⟨by simp,by simp,rfl⟩ ?_;intro s t hs;obtain⟨hs1,hs2,hs3⟩:=hs;refine Nf ?_;refine Cm ?_ ?_<;>intro hc3
  ·have hb1:=hU.psum s.1.toNat;have hb2:=hU.nth (i:=c.a+s.1) (by omega) (by omega);have hb3:=Pc fk.1 (i:=c.a+s.1) (by omega) (b:=c.b) (by omega) fk.2.2;have e3:c.a+s.1-c.a=s.1:=by omega
   rw[e3]at hb3
   iterate 4 refine Aa ?_
   exact QS.head ((s.1+1,s.2+nth (part xs c.a c.b) s.1)) rfl rfl ⟨⟨by simp;omega,by simp;omega,by simp only;rw[AG _ hs1 (by omega),IZ,hs3]⟩,by simp;omega⟩
  refine Aa ?_;exact out1 rfl rfl (Af (by rw[hs3,O9 _ (by omega)];simp[CN,hc2]))
 refine Cm ?_ ?_<;>intro hc4
 ·refine Dg mixed ?_
  iterate 6 refine Ad ?_
  exact out1 rfl rfl (Af (by simp[CN,hc4]))
 refine Cm ?_ ?_<;>intro hc5
 ·refine Dg mixed ?_
  iterate 6 refine Ad ?_
  exact out1 rfl rfl (Af (by simp[CN,hc5]))
 refine Cm ?_ ?_<;>intro hc6
 ·refine Aa ?_;refine CS.loopM (σ:=Int×Int) (rsL [10,10,78,87]) (fun s=>[(8,.int .i64 s.2),(77,.int .i64 s.1)]) (fun _=>_) (fun s=>0<=s.1/\s.1<=xs.length/\s.2=cnt (xs.take s.1.toNat) c.n) (fun s=>(xs.length-s.1).toNat) (0,0) (fun _ _=>rfl) rfl rfl ⟨by simp,by simp,rfl⟩ ?_;intro s t hs;obtain⟨hs1,hs2,hs3⟩:=hs;have hbd:=Ek (xs.take s.1.toNat) c.n;have hlt:=List.length_take_le s.1.toNat xs;refine Nf ?_;refine Cm ?_ ?_<;>intro hc7
  ·iterate 3 refine Aa ?_
   refine Cm ?_ ?_<;>intro hc8
   ·iterate 2 refine Aa ?_
    exact QS.head ((s.1+1,s.2+1)) rfl rfl ⟨⟨by simp;omega,by simp;omega,by simp only;rw[AG xs hs1 (by omega),D9,hs3];simp[hc8]⟩,by simp;omega⟩
   refine Aa ?_;exact QS.head ((s.1+1,s.2)) rfl rfl ⟨⟨by simp;omega,by simp;omega,by simp only;rw[AG xs hs1 (by omega),D9,hs3];simp[hc8]⟩,by simp;omega⟩
  refine Aa ?_;exact out1 rfl rfl (Af (by rw[hs3,Ee xs (by omega)];simp[CN,hc6]))
 refine Cm ?_ ?_<;>intro hc9
 ·refine Aa ?_;refine Wk 5 (Cb rfl rfl Jea (fun u hu=>WK _ _ _ _ u (h1.st hu) (hg1.st hu) (hU.guess hc9).1 (by omega) (HM hU.lk hU.cd).2 (HM hU.lk (hU.guess hc9).2).2)) ?_;refine Nf ?_
  iterate 6 refine Aa ?_
  exact out1 rfl rfl (Af (by simp[CN,hc9]))
 refine Dg mixed ?_
 iterate 4 refine Ad ?_
 refine Dk 1 (SG rfl rfl (by omega) (by omega)) ?_;refine Ad ?_;exact out1 rfl rfl (Af (by have e7:c.k=7:=(by omega);simp[CN,e7]))
theorem Jfb (lw ls:Int) (c:Clue) (gv:Value) (xs:List Int) (v:Value) (w:World) (hU:Use lw ls c xs) (hg1:SlI w gv c.g) (h1:SlI w v xs):
  Calls prog 213 #[.agg #[.int .i64 c.k,.int .i64 c.a,.int .i64 c.b,.int .i64 c.n,.int .i64 c.m,gv,.bool c.nt],v] w (RetB w (.bool (Fj c xs))):=by
 have hl1:=h1.le;have hln:=hU.len;obtain⟨f1,f2,f3,f7,fk1,fk2,fn⟩:=hU.facts;obtain⟨hgn,p,cap,rfl,hcap,hp⟩:=hg1;have hg1:SlI w (.slice p c.g.length cap) c.g:=⟨hgn,p,cap,rfl,hcap,hp⟩;clear hgn hcap hp;refine Eg func213 ?_;refine Wr 1 fun b2 hb2=>?_;refine Nx 1 ?_;refine Wd (Qc ?_);refine CS.cut (σ:=Bool) [6,7,8,9,10,11,12,13,14,15,16,17,18,19,20,21,22,23,24,25,26,27,28,29,30,31,32,33,34,35,36,37,38,39,40,41,42,43,44,45,46,47,48,49,50,51,52,53,54,55,56,57,58,59,60,61,62,63,64,65,66,67,68,69,70,71,72,73,74,75,76,77,78,79,80,81,82,83,84,85,86,87,88,89,90,91,92,93,94,95,96,97,98,99,100,101,102,103,104,105,106,107,108] (fun s=>[(5,.bool s)]) (fun s=>[blk b2 [.int .i64 c.k,.int .i64 c.a,.int .i64 c.b,.int .i64 c.n,.int .i64 c.m,.slice p c.g.length cap,.bool c.nt] 89]) (fun s=>s=CN c xs) (fun _ _=>rfl) ?_ ?_
 ·refine Nf ?_;refine Aa ?_;refine Cm ?_ ?_<;>intro hc1
  ·refine Dg mixed ?_
   iterate 4 refine Ad ?_
   exact QS.head (decide (nth xs c.a=c.n)) rfl rfl (by simp[CN,hc1])
  refine Cm ?_ ?_<;>intro hc2
  ·have fk:=f2 hc2;have hpl:=PW fk.1 fk.2.1 fk.2.2;refine Aa ?_;refine CS.loopM (σ:=Int×Int) (rsL [26,37]) (fun s=>[(6,.int .i64 s.2),(7,.int .i64 s.1)]) (fun _=>_) (fun s=>c.a<=s.1/\s.1<=c.b+1/\s.2=lsum ((part xs c.a c.b).take (s.1-c.a).toNat)) (fun s=>(c.b+1-s.1).toNat) (c.a,0) (fun _ _=>rfl) rfl rfl ⟨by simp,by simp;omega,by simp[lsum]⟩ ?_;intro s t hs;obtain⟨hs1,hs2,hs3⟩:=hs;refine Nf ?_;refine Aa ?_;refine Cm ?_ ?_<;>intro hc3
   ·have hb1:=hU.psum (s.1-c.a).toNat;have hb2:=hU.nth (i:=s.1) (by omega) (by omega);have hb3:=Pc fk.1 (i:=s.1) (by omega) (b:=c.b) (by omega) fk.2.2;have e3:s.1+1-c.a=s.1-c.a+1:=by omega
    iterate 4 refine Aa ?_
    exact QS.head ((s.1+1,s.2+nth xs s.1)) rfl rfl ⟨⟨by simp;omega,by simp;omega,by simp only;rw[e3,AG _ (by omega) (by omega),IZ,hs3,hb3]⟩,by simp;omega⟩
   refine Aa ?_;exact QS.head (decide (s.2=c.n)) rfl rfl (by rw[hs3,O9 _ (by omega)];simp[CN,hc2])
  refine Cm ?_ ?_<;>intro hc4
  ·refine Dg mixed ?_
   iterate 6 refine Ad ?_
   exact QS.head (decide (nth xs c.a<nth xs c.b)) rfl rfl (by simp[CN,hc4])
  refine Cm ?_ ?_<;>intro hc5
  ·refine Dg mixed ?_
   iterate 6 refine Ad ?_
   exact QS.head (decide (nth xs c.a=nth xs c.b)) rfl rfl (by simp[CN,hc5])
  refine Cm ?_ ?_<;>intro hc6
  ·refine Dg mixed ?_;refine Ad ?_;refine Dk 1 (Cb rfl rfl T7 (fun u hu=>MG _ _ _ u (h1.st hu))) ?_;refine Ad ?_;exact QS.head (decide (cnt xs c.n=c.m)) rfl rfl (by simp[CN,hc6])
  refine Cm ?_ ?_<;>intro hc7
  ·refine Aa ?_;refine Wk 5 (Cb rfl rfl Jfq (fun u hu=>RW _ _ _ _ u (h1.st hu) (hg1.st hu) (hU.guess hc7).1 (by omega))) ?_;refine Nf ?_
   iterate 6 refine Aa ?_
   exact QS.head (decide (Bw xs c.g=c.n)&&decide (BI xs c.g 10-Bw xs c.g=c.m)) rfl rfl (by simp[CN,hc7])
  refine Cm ?_ ?_<;>intro hc8
  ·refine Dg mixed ?_
   iterate 4 refine Ad ?_
   refine Dk 1 (SG rfl rfl (by omega) (by omega)) ?_;refine Ad ?_;exact QS.head (decide (nth xs c.a%c.n=c.m)) rfl rfl (by simp[CN,hc8])
  omega
 intro s t hs;refine Nf ?_;refine Aa ?_;refine Wk 1 (Rr rfl rfl underlying4) ?_;refine Nf ?_;exact out1 rfl rfl (Af (by rw[hs];rfl))
theorem OU (xs:List (Clue)) (v:Value) (gs:List Value) (w:World) (h1:ClS w v xs gs) (g:Nat) (lb:List Value) (p:Clue->Bool) (hg:Ent prog g)
  (hp:∀u,Below w.heap.size w u->∀i:Int,0<=i->i<xs.length->Calls prog g ([.agg #[.int .i64 (nth xs i).k,.int .i64 (nth xs i).a,.int .i64 (nth xs i).b,.int .i64 (nth xs i).n,.int .i64 (nth xs i).m,nth gs i,.bool (nth xs i).nt]]++lb:List Value).toArray u (RetB u (.bool (p (nth xs i))))):
  Calls prog 329 #[v,.func (.func g) #[] lb.toArray] w (RetB w (.int .i64 (idxF p xs))):=by
 have hl1:=h1.le;refine Eg func329 ?_;refine Wk 1 (Ds SV rfl (by first|exact SlL.sp (by assumption)|exact ClS.sp (by assumption))) ?_;refine Nf ?_;refine CS.loopM (σ:=Int) (rsL [4,5,9,18]) (fun s=>[(8,.int .i64 s)]) (fun _=>_) (fun s=>0<=s/\s<=xs.length/\∀j:Int,0<=j->j<s->p (nth xs j)=false) (fun s=>(xs.length-s).toNat) 0 (fun _ _=>rfl) rfl rfl ⟨by omega,by omega,fun j h1 h2=>by omega⟩ ?_;intro s t hs;obtain⟨hs1,hs2,hs3⟩:=hs;refine Nf ?_;refine Cm ?_ ?_<;>intro hc1
 ·refine Wk 0 (Sn SV rfl rfl (by assumption) (by omega) (by omega)) ?_;refine Wk 0 (UU rfl (by assumption) (by omega) tk89) ?_;refine Wk 0 (Cb rfl rfl hg (fun u hu=>hp u hu.below s (by omega) (by omega))) ?_;refine Nf ?_;refine Cm ?_ ?_<;>intro hc2
  ·exact out1 rfl rfl (Af (by rw[AM hs1 (by omega) hs3 hc2]))
  refine Aa ?_;exact QS.head (s+1) rfl rfl ⟨⟨by omega,by omega,fun j h1 h2=>if hj:j=s then by rw[hj];exact hc2 else hs3 j h1 (by omega)⟩,by omega⟩
 exact out1 rfl rfl (Af (by rw[A2 fun j h1 h2=>hs3 j h1 (by omega)]))
theorem NN (xs:List (Clue)) (v:Value) (gs:List Value) (w:World) (h1:ClS w v xs gs) (g:Nat) (lb:List Value) (p:Clue->Bool) (hg:Ent prog g)
  (hp:∀u,Below w.heap.size w u->∀i:Int,0<=i->i<xs.length->Calls prog g ([.agg #[.int .i64 (nth xs i).k,.int .i64 (nth xs i).a,.int .i64 (nth xs i).b,.int .i64 (nth xs i).n,.int .i64 (nth xs i).m,nth gs i,.bool (nth xs i).nt]]++lb:List Value).toArray u (RetB u (.bool (p (nth xs i))))):
  Calls prog 289 #[v,.func (.func g) #[] lb.toArray] w (RetB w (.bool (xs.any p))):=by
 refine Eg func289 ?_;refine Wk 2 (Cb rfl rfl Yg (fun u hu=>OU xs v gs u (h1.st hu) g lb p hg (fun u2 h2=>hp u2 (AQ hu.below h2)))) ?_;refine Nf ?_;exact out1 rfl rfl (Af (by rw[BU]))
theorem S8 (lw ls:Int) (c:Clue) (gv:Value) (xs:List Int) (v:Value) (w:World) (hU:Use lw ls c xs) (hg1:SlI w gv c.g) (h1:SlI w v xs):
  Calls prog 271 #[.agg #[.int .i64 c.k,.int .i64 c.a,.int .i64 c.b,.int .i64 c.n,.int .i64 c.m,gv,.bool c.nt],v] w (RetB w (.bool (Fj c xs))):=by
 refine Eg func271 ?_;refine Wr 1 fun b2 hb2=>?_;refine Nf ?_;refine Dg mixed ?_;refine Ad ?_;refine Dk 1 (Cb rfl rfl Jbb (fun u hu=>Y2 _ _ _ _ _ _ u hU (hg1.st hu) (h1.st hu))) ?_;refine Ad ?_;refine Dk 1 (Rr rfl rfl underlying4) ?_;refine Nf ?_;exact out1 rfl rfl (Af rfl)
theorem Nj (lw ls:Int) (c:Clue) (gv:Value) (w:World) (hg1:SlI w gv c.g):
  Calls prog 113 #[.agg #[.int .i64 lw,.int .i64 ls],.agg #[.int .i64 c.k,.int .i64 c.a,.int .i64 c.b,.int .i64 c.n,.int .i64 c.m,gv,.bool c.nt]] w (RetB w (.int .i64 (DP lw ls c))):=by
 have h1:=hg1;refine Eg func113 ?_;refine Wr 0 fun b2 hb2=>?_;refine Wr 1 fun b3 hb3=>?_;refine Nf ?_;refine Aa ?_;refine Wk 1 (Cb rfl rfl Uk (fun u hu=>H5 _ _ u)) ?_;refine Nf ?_;refine Cm ?_ ?_<;>intro hc1
 ·exact out1 rfl rfl (Af (by have:Bg lw ls=false:=(by simpa [Cc]using hc1);simp[DP,Cc,this]))
 have hL:Bg lw ls=true:=by simpa [Cc]using hc1
 iterate 2 refine Aa ?_
 refine Wk 1 (Cb rfl rfl SD (fun u hu=>So _ _ _ _ u hL (h1.st hu))) ?_;refine Nf ?_;refine Cm ?_ ?_<;>intro hc2
 ·exact out1 rfl rfl (Af (by simp[DP,hL,hc2]))
 exact out1 rfl rfl (Af (by simp[DP,hL,hc2]))
theorem LR (lw ls:Int) (c:Clue) (gv:Value) (w:World) (hg1:SlI w gv c.g):
  Calls prog 119 #[.agg #[.int .i64 lw,.int .i64 ls],.agg #[.int .i64 c.k,.int .i64 c.a,.int .i64 c.b,.int .i64 c.n,.int .i64 c.m,gv,.bool c.nt]] w (RetB w (.int .i64 (DP lw ls c))):=by
 have h1:=hg1;refine Eg func119 ?_;refine Wr 0 fun b2 hb2=>?_;refine Wr 1 fun b3 hb3=>?_;refine Nf ?_;refine Aa ?_;refine Wk 1 (Cb rfl rfl WM (fun u hu=>HB _ _ u)) ?_;refine Nf ?_;refine Cm ?_ ?_<;>intro hc1
 ·exact out1 rfl rfl (Af (by have:Bg lw ls=false:=(by simpa [Cc]using hc1);simp[DP,Cc,this]))
 have hL:Bg lw ls=true:=by simpa [Cc]using hc1
 iterate 2 refine Aa ?_
 refine Wk 1 (Cb rfl rfl Yf (fun u hu=>PF _ _ _ _ u hL (h1.st hu))) ?_;refine Nf ?_;refine Cm ?_ ?_<;>intro hc2
 ·exact out1 rfl rfl (Af (by simp[DP,hL,hc2]))
 exact out1 rfl rfl (Af (by simp[DP,hL,hc2]))
theorem Kg (lw ls:Int) (c:Clue) (gv:Value) (b:Nat) (e:TypeId) (w:World) (hL:Bg lw ls=true) (hg1:SlI w gv c.g) (hb:BlkAt w b [.int .i64 lw,.int .i64 ls] e):
  Calls prog 290 #[.agg #[.int .i64 c.k,.int .i64 c.a,.int .i64 c.b,.int .i64 c.n,.int .i64 c.m,gv,.bool c.nt],.pointer (some ⟨b,0,none⟩)] w (RetB w (.bool (!Bd lw ls c))):=by
 have h1:=hg1;refine Eg func290 ?_;refine Wr 1 fun b2 hb2=>?_;refine Nf ?_
 iterate 2 refine Aa ?_
 refine Wk 2 (Cb rfl rfl SD (fun u hu=>So _ _ _ _ u hL (h1.st hu))) ?_;refine Nf ?_;exact out1 rfl rfl retB
theorem Lt (lw ls:Int) (cs:List Clue) (gs:List Value) (v:Value) (w:World) (h1:ClS w v cs gs):
  Calls prog 221 #[.agg #[.int .i64 lw,.int .i64 ls],v] w (RetB w (.int .i64 (DE lw ls cs))):=by
 have hl1:=h1.le;refine Eg func221 ?_;refine Wr 1 fun b2 hb2=>?_;refine Nf ?_;refine Aa ?_;refine Wk 1 (Cb rfl rfl Uk (fun u hu=>H5 _ _ u)) ?_;refine Nf ?_;refine Cm ?_ ?_<;>intro hc1
 ·exact out1 rfl rfl (Af (by have:Bg lw ls=false:=(by simpa [Cc]using hc1);simp[DE,Cc,this]))
 have hL:Bg lw ls=true:=by simpa [Cc]using hc1
 refine Wk 1 (Ds SV rfl (by first|exact SlL.sp (by assumption)|exact ClS.sp (by assumption))) ?_;refine Nf ?_;refine Cm ?_ ?_<;>intro hc2
 ·exact out1 rfl rfl (Af (by have:20<(cs.length:Int):=(by omega);simp[DE,hL,this]))
 refine Wk 0 (Ax rfl) ?_;refine Wk 0 (Cb rfl rfl Ja6 (fun u hu=>NN cs v gs u (h1.st hu) _ [.pointer (some ⟨b2,0,none⟩)] (fun c=>!Bd lw ls c) Jfj (fun u2 h2 i h3 h4=>Kg _ _ _ _ _ _ u2 hL (((h1.st hu).ext h2).el i h3 h4) ((AN hu (j:=0) rfl).ext h2)))) ?_;refine Nf ?_;refine Cm ?_ ?_<;>intro hc3
 ·exact out1 rfl rfl (Af (by have h20:¬20<(cs.length:Int):=(by omega);have h3:cs.all (Bd lw ls)=false:=(by simpa using hc3);simp[DE,hL,h20,h3]))
 exact out1 rfl rfl (Af (by have h20:¬20<(cs.length:Int):=(by omega);have h3:cs.all (Bd lw ls)=true:=(by simpa using hc3);simp only[DE,hL,h20,h3,if_true,if_false]))
theorem WQ (lw ls:Int) (c:Clue) (gv:Value) (xs:List Int) (v:Value) (b:Nat) (e:TypeId) (w:World) (hU:Use lw ls c xs) (hg1:SlI w gv c.g) (h1:SlI w v xs) (hb:BlkAt w b [v] e):
  Calls prog 345 #[.agg #[.int .i64 c.k,.int .i64 c.a,.int .i64 c.b,.int .i64 c.n,.int .i64 c.m,gv,.bool c.nt],.pointer (some ⟨b,0,none⟩)] w (RetB w (.bool (!Fj c xs))):=by
 refine Eg func345 ?_;refine Wr 1 fun b2 hb2=>?_;refine Nf ?_
 iterate 2 refine Aa ?_
 refine Wk 2 (Cb rfl rfl Yj (fun u hu=>S8 _ _ _ _ _ _ u hU (hg1.st hu) (h1.st hu))) ?_;refine Nf ?_;exact out1 rfl rfl retB
theorem YN (lw ls:Int) (cs:List Clue) (gs:List Value) (v:Value) (xs:List Int) (xv:Value) (w:World) (hU:∀c∈cs,Use lw ls c xs) (hk:ClS w v cs gs) (h1:SlI w xv xs):
  Calls prog 332 #[v,xv] w (RetB w (.int .i64 (Oz cs xs))):=by
 obtain⟨p,cap,rfl⟩:=h1.shape;refine Eg func332 ?_;refine Wr 1 fun b3 hb3=>?_;refine Nf ?_;refine Wk 0 (Ax rfl) ?_;refine Wk 1 (Cb rfl rfl Yg (fun u hu=>OU cs v gs u (hk.st hu) _ [.pointer (some ⟨b3,0,none⟩)] (fun c=>!Fj c xs) Jdg (fun u2 h2 i h3 h4=>WQ _ _ _ _ _ _ _ _ u2 (hU _ (Ai h3 h4)) (((hk.st hu).ext h2).el i h3 h4) ((h1.st hu).ext h2) ((AN hu (j:=0) rfl).ext h2)))) ?_;refine Nf ?_;exact out1 rfl rfl (Af rfl)
theorem Jam (lw ls:Int) (c:Clue) (gv:Value) (xs:List Int) (v:Value) (w:World) (hg1:SlI w gv c.g) (h1:SlI w v xs):
  Calls prog 189 #[.agg #[.int .i64 lw,.int .i64 ls],.agg #[.int .i64 c.k,.int .i64 c.a,.int .i64 c.b,.int .i64 c.n,.int .i64 c.m,gv,.bool c.nt],v] w (RetB w (.tuple #[.bool (if GV lw ls c xs=0 then Fj c xs else false),.int .i64 (GV lw ls c xs)])):=by
 refine Eg func189 ?_;refine Wr 0 fun b3 hb3=>?_;refine Wr 2 fun b4 hb4=>?_;refine Nf ?_
 iterate 2 refine Aa ?_
 refine Wk 1 (Cb rfl rfl Jb8 (fun u hu=>Nj _ _ _ _ u (hg1.st hu))) ?_;refine Nf ?_;refine Cm ?_ ?_<;>intro hc1
 ·exact out2 rfl rfl rfl (Af (by simp[GV,hc1]))
 refine Aa ?_;refine Wk 1 (Cb rfl rfl Jdi (fun u hu=>H2 _ _ _ _ u (h1.st hu))) ?_;refine Nf ?_;refine Cm ?_ ?_<;>intro hc2
 ·exact out2 rfl rfl rfl (Af (by simp[GV,hc1,hc2]))
 have hU:=Rh hc1 hc2;have hae:GV lw ls c xs=0:=by simp[GV,hc1,hc2]
 refine Aa ?_;refine Wk 2 (Cb rfl rfl Yj (fun u hu=>S8 _ _ _ _ _ _ u hU (hg1.st hu) (h1.st hu))) ?_;refine Nf ?_;exact out2 rfl rfl rfl (Af (by simp[hae]))
theorem Xi (lw ls:Int) (w0:World) (b:Nat) (hL:Bg lw ls=true):
  Iter prog w0 344 [.pointer (some ⟨b,0,none⟩)] [blk b [.int .i64 lw,.int .i64 ls] 247] (fun v x=>oints 3 v x) (allC lw ls):=by
 intro lp C Cx hy u hu;have hl:=Dc hL;have hp:=Ug (w:=lw) hl.2.2.1;refine Ei hu func344 ?_;refine Nf ?_;refine Aa ?_;refine WS.makeInts sl48 rfl rfl zv3 (by omega) (by omega) (by omega) (fun _=>rfl) ?_;intro v7;refine Nr ?_;refine CS.loopM (σ:=Nat) (rsL [4,4,8,39]) (fun s=>[]) (fun s=>[oints 3 v7 (Fd lw ls s),C ((allC lw ls).take s),blk b [.int .i64 lw,.int .i64 ls] 247]) (fun s=>s<Hl lw ls) (fun s=>Hl lw ls-s) 0 (fun _ _=>rfl) rfl (by simp[M6]) (Sj hL) ?_;intro n t hs;have hn:=hs;refine Nf ?_;refine WS.yield (L':=fun b'=>[oints 3 v7 (Fd lw ls n),cond b' (C ((allC lw ls).take (n+1))) (Cx ((allC lw ls).take (n+1))),blk b [.int .i64 lw,.int .i64 ls] 247]) rfl rfl rfl (fun u hu=>by rw[Mq hn];exact P5 (hy _ _ _ (Jf hn) _ _ u (hu.perm (.swap _ _ _)))) (fun _=>rfl) ?_;intro b';refine Nr ?_;refine Cm ?_ ?_<;>intro hc1
 ·subst hc1;exact out0 (Or.inl rfl) rfl (fun u hu=>⟨⟨_,rfl⟩,.inr ⟨_,_,_,Jf hn,by rw[<-Mq hn];exact hu.tail⟩⟩)
 subst hc1
 iterate 2 refine Aa ?_
 refine CS.loopM (σ:=Int×Int×List Int) (rsL [15,31]) (fun s=>[(4,.int .i64 s.1)]) (fun s=>[oints 3 v7 s.2.2,C ((allC lw ls).take (n+1)),blk b [.int .i64 lw,.int .i64 ls] 247]) (fun s=>Odo lw.toNat ls n s.1 s.2.1 s.2.2) (fun s=>(s.1+1).toNat) (lw-1,n,Fd lw ls n) (fun _ _=>rfl) rfl rfl (Odo.start' (by omega) (by omega)) ?_;intro q t hs;have hq:=hs.len;have hq2:=hs.lo;have hq3:=hs.hi;refine Nf ?_;refine Dg mixed ?_
 iterate 2 refine Ad ?_
 refine Dt 0 rfl rfl (fun hg=>Xb 0 (eg_ hg rfl)) ?_;refine Dt 0 rfl rfl (fun hg=>Ib 0) ?_
 iterate 5 refine Ad ?_
 refine Cm ?_ ?_<;>intro hc2
 ·refine Wk 0 (Xb 0) ?_;refine WS.storeOI (j:=0) rfl rfl (by omega) rfl tk3 rfl ?_;refine Nf ?_;refine Aa ?_;exact QS.head ((q.1-1,q.2.1/ls,q.2.2.set q.1.toNat 0)) rfl rfl ⟨hs.back hc2.1 (by omega) hc2.2,by simp;omega⟩
 refine Cm ?_ ?_<;>intro hc3
 ·have he:=hs.end_ hc3 (by omega) (by omega);exact out0 (Or.inl rfl) rfl (fun u hu=>⟨⟨_,rfl⟩,.inl (by have e:=Xu (w:=lw) (s:=ls) (n:=n+1) (by omega);rw[e]at hu;exact hu.tail)⟩)
 have hd:¬nth q.2.2 q.1=ls-1:=by omega
 have hbd:=hs.bd (by omega) (by omega);refine Wk 0 (Xb 0) ?_;refine Wk 0 (Ib 0) ?_;refine Aa ?_;refine Wk 0 (Xb 0) ?_;refine WS.storeOI (j:=0) rfl rfl (by omega) rfl tk3 rfl ?_;refine Nf ?_;exact QS.head (n+1) rfl (by rw[hs.next (by omega) (by omega) hd];rfl) ⟨by have:=hs.more (by omega) (by omega) hd (by omega);omega,by omega⟩
theorem Zd (lw ls:Int) (w:World):
  Calls prog 331 #[.agg #[.int .i64 lw,.int .i64 ls]] w (fun e w'=>∃b:Nat,True/\RetF w (.func (.func 344) #[] #[.pointer (some ⟨b,0,none⟩)]) (blk b [.int .i64 lw,.int .i64 ls] 247) e w'):=by
 refine Eg func331 ?_;refine Wr 1 fun b1 hb1=>?_;refine Nf ?_;refine Wk 1 (Ax rfl) ?_;refine Nf ?_;exact out1 rfl rfl (fun u hu=>⟨b1,trivial,retF (j:=0) rfl u hu⟩)
theorem Q6 (lw ls:Int) (cs:List Clue) (gs:List Value) (cv:Value) (w:World) (hk:ClS w cv cs gs):
  Calls prog 291 #[.agg #[.int .i64 lw,.int .i64 ls],cv] w (fun e w'=>∃b:Nat×Nat,True/\RetF w (.func (.func 330) #[] #[.pointer (some ⟨b.1,0,none⟩),.pointer (some ⟨b.2,0,none⟩)]) (star [blk b.1 [.int .i64 lw,.int .i64 ls] 247,blk b.2 [cv] 216]) e w'):=by
 obtain⟨_,p,cap,rfl,_⟩:=hk.sp;refine Eg func291 ?_;refine Wr 0 fun b2 hb2=>?_;refine Wr 1 fun b3 hb3=>?_;refine Nf ?_;refine Wk 1 (Ax rfl) ?_;refine Nf ?_;exact out1 rfl rfl (fun u hu=>⟨(b2,b3),trivial,Mu hu (.swap _ _ _)⟩)
theorem Nd (lw ls:Int) (cs:List Clue) (gs:List Value) (cv:Value) (w0:World) (b1 b2:Nat) (hL:Bg lw ls=true) (hk:ClS w0 cv cs gs) (hC:∀c∈cs,Bd lw ls c=true):
  Iter prog w0 330 [.pointer (some ⟨b1,0,none⟩),.pointer (some ⟨b2,0,none⟩)] [blk b1 [.int .i64 lw,.int .i64 ls] 247,blk b2 [cv] 216] (fun v x=>oints 3 v x) (NE lw ls cs):=by
 obtain⟨hkl,pp,cap,hpv,hkr⟩:=hk.sp;subst hpv;replace hk:ClS w0 (.slice pp cs.length cap) cs gs:=⟨⟨hkl,_,_,rfl,hkr⟩,hk.len,hk.el⟩;clear hkl hkr;obtain⟨cv,hcv⟩:∃cv,cv=Value.slice pp cs.length cap:=⟨_,rfl⟩;rw[<-hcv]at hk⊢;intro lp C Cx hy u hu;refine Ri hu func330 rfl rfl (Nat.le_of_ble_eq_true rfl) ?_;refine Nf ?_;refine Wr 0 fun b3 hb3=>?_;refine Nf ?_;refine Aa ?_;refine Wc rfl rfl Jeq (fun u hu=>Zd _ _ u) (fun _=>rfl) ?_;intro bc _;refine Nf ?_;refine CS.perm (L':=[C [],blk b3 [.func (.yield lp) #[] #[]] 316,blk b1 [.int .i64 lw,.int .i64 ls] 247,blk b2 [cv] 216]++[blk bc [.int .i64 lw,.int .i64 ls] 247]) ((List.perm_append_comm (l₁:=[_]) (l₂:=[_,_,_,_])).trans (.swap _ _ _)) ?_;refine CS.rangeA (A:=[blk bc [.int .i64 lw,.int .i64 ls] 247]) rfl Je2 (Xi lw ls w0 bc hL) (fun pre=>[C (pre.filter (fitB cs)),blk b3 [.func (.yield lp) #[] #[]] 316,blk b1 [.int .i64 lw,.int .i64 ls] 247,blk b2 [cv] 216]) (fun c pre=>match c with| .ret=>[Cx (pre.filter (fitB cs)),fact (∀q z,pre=q++[z]->fitB cs z=true),blk b1 [.int .i64 lw,.int .i64 ls] 247,blk b2 [cv] 216]|_=>[fact False]) (fun _=>rfl) (Nat.le_of_ble_eq_true rfl) (fun _=>rfl) ?_ ?_ ?_
 ·intro lr pre x post v F hall;have hx:Cd lw ls x=true:=VF hL (by rw[hall];simp);refine Nf ?_;refine Aa ?_;refine Wk 2 (Cb rfl rfl Jd1 (fun u hu=>YN lw ls cs gs cv x v u (fun c hc=>⟨hL,hC c hc,hx⟩) (hk.st hu) (AK hu (j:=0) rfl))) ?_;rcases hB:decide (Oz cs x<0)with _|_
  ·refine WS.unwanted rfl rfl rfl ?_;refine WS.unwanted rfl rfl rfl ?_;refine WS.unwanted rfl rfl rfl ?_;refine WS.unwanted rfl rfl rfl ?_;refine WS.det rfl rfl rfl (KM rfl) rfl ?_;refine Nf ?_;refine CS.cond rfl (fun h=>nomatch h) (fun _=>?_);refine Nf ?_;exact fun u hu=>by simp only[FK,Jdh hB];exact hu
  refine WS.guardT rfl rfl rfl rfl (fun _=>AP (j:=2) rfl rfl rfl Jhz) rfl ?_;refine WS.guardT rfl rfl rfl rfl (fun _=>AR rfl) rfl ?_;refine WS.yield (L':=fun b'=>oints 3 v x::cond b' (C (pre.filter (fitB cs)++[x])) (Cx (pre.filter (fitB cs)++[x]))::[blk b3 [.func (.yield lp) #[] #[]] 316,blk b1 [.int .i64 lw,.int .i64 ls] 247,blk b2 [cv] 216,F]) rfl rfl rfl (fun u hu=>It (fun F' u' hu'=>hy _ x _ (Ig hall hB) F' v u' hu') hu) (fun _=>rfl) ?_;intro b';refine WS.guardT rfl rfl rfl rfl (fun _=>N4 rfl) rfl ?_;refine WS.det rfl rfl rfl (AW rfl rfl rfl) rfl ?_
  skip
  skip
  skip
  skip
  refine Nf ?_;refine Cm ?_ ?_<;>intro hc1
  ·obtain rfl:b'=false:=by simpa using hc1
   exact fun u hu=>by
    simp only[FK,ME hB];have h:=St.factI (p:=∀q z,pre++[x]=q++[z]->fitB cs z=true) (fun q z e=>by obtain⟨_,e2⟩:=List.append_inj' e rfl;simp at e2;rw[<-e2];exact hB) hu;exact(h.perm (.swap _ _ _)).perm (.cons _ (.swap _ _ _)) |>.sub (.cons_cons _ (.cons_cons _ (.cons_cons _ (.cons _ (.cons_cons _ (.cons_cons _ (.cons_cons _ .slnil)))))))
  obtain rfl:b'=true:=by simpa using hc1
  exact fun u hu=>by simp only[FK,ME hB];exact hu
 ·intro D;refine Nf ?_;exact outM (j:=0) (Or.inr rfl) rfl (res0 rfl) (fun u hu=>⟨⟨_,rfl⟩,.inl (hu.sub (.cons _ (.cons_cons _ (.cons _ (.cons_cons _ (.cons_cons _ (.cons _ .slnil)))))))⟩)
 intro D c pre x post hall;cases c with
 |ret=>
  refine Cr (Qs ?_);exact outM (j:=0) (Or.inl rfl) rfl (res0 rfl) (fun u hu=>⟨⟨_,rfl⟩,.inr ⟨_,x,_,Ig hall (hu.factE (j:=2) rfl pre x rfl),by rw[<-ME (hu.factE (j:=2) rfl pre x rfl)];exact hu.sub (.cons _ (.cons_cons _ (.cons _ (.cons_cons _ (.cons_cons _ (.cons _ .slnil))))))⟩⟩)
 |_=>exact fun u hu=>(hu.factE (j:=1) rfl).elim
theorem Zi (lw ls:Int) (cs:List Clue) (gs:List Value) (cv:Value) (w:World) (hL:Bg lw ls=true) (hC:∀c∈cs,Bd lw ls c=true) (hk:ClS w cv cs gs):
  Calls prog 222 #[.agg #[.int .i64 lw,.int .i64 ls],cv] w (RetB w (.int .i64 (NE lw ls cs).length)):=by
 refine Ri St.nil func222 rfl rfl (Nat.le_of_ble_eq_true rfl) ?_;refine Nf ?_;refine Wr 0 fun b2 hb2=>?_;refine Wq 0 zv3 fun b4 hb4=>?_;refine Nf ?_;refine Aa ?_;refine Wc rfl rfl Jfn (fun u hu=>Q6 _ _ _ _ _ u (hk.st hu)) (fun _=>rfl) ?_;intro br _;refine WS.unpack ?_;refine Nf ?_;refine CS.perm (L':=[blk b4 [.int .i64 0] 3,blk b2 [.int .i64 lw,.int .i64 ls] 247]++[blk br.1 [.int .i64 lw,.int .i64 ls] 247,blk br.2 [cv] 216]) (List.perm_append_comm (l₁:=[_,_]) (l₂:=[_,_])) ?_;refine CS.rangeS (A:=[blk br.1 [.int .i64 lw,.int .i64 ls] 247,blk br.2 [cv] 216]) rfl Ja0 (Nd lw ls cs gs cv w br.1 br.2 hL hk hC) (fun pre=>[blk b4 [.int .i64 pre.length] 3,blk b2 [.int .i64 lw,.int .i64 ls] 247]) (fun c pre=>match c with|_=>[fact False]) (fun _=>rfl) ?_ ?_ ?_
 ·intro lr pre x post v F hall;have hb:=WJ hL cs;rw[hall]at hb;simp at hb;refine Nf ?_
  iterate 2 refine Aa ?_
  refine Ws 0 1 ?_;refine Nf ?_;exact fun u hu=>by simp only[FK,List.length_append,List.length_singleton];exact hu
 ·intro D;refine Nf ?_;refine Aa ?_;refine Ws 0 1 ?_;refine Nf ?_;exact outM (j:=0) (Or.inl rfl) rfl (resc rfl (JX (j:=1) rfl rfl rfl tk3)) (retB)
 intro D c pre x post hall;cases c with
 |_=>exact fun u hu=>(hu.factE (j:=1) rfl).elim
theorem Zx (lw ls:Int) (cs:List Clue) (gs:List Value) (cv:Value) (w:World) (hk:ClS w cv cs gs):
  Calls prog 144 #[.agg #[.int .i64 lw,.int .i64 ls],cv] w (RetB w (.tuple #[.int .i64 (if DE lw ls cs=0 then((NE lw ls cs).length:Int)else 0),.int .i64 (DE lw ls cs)])):=by
 refine Eg func144 ?_;refine Wr 2 fun b2 hb2=>?_;refine Nf ?_;refine Aa ?_;refine Wk 1 (Cb rfl rfl Jer (fun u hu=>Lt _ _ _ _ _ u (hk.st hu))) ?_;refine Nf ?_;refine Cm ?_ ?_<;>intro hc1
 ·exact out2 rfl rfl rfl (Af (by simp[hc1]))
 refine Aa ?_;refine Wk 2 (Cb rfl rfl Jde (fun u hu=>Zi _ _ _ _ _ u (MC hc1) (MQ hc1) (hk.st hu))) ?_;refine Nf ?_;exact out2 rfl rfl rfl (Af (by simp[hc1]))
end Go.Proofs.YtllebkdchemabaaGreatDoor
