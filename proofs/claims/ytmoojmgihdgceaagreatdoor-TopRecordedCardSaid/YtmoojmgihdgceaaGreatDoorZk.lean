/- Merged texts of this proof (walks and plain laws), printed by a program of the prover. -/
import Derived.Test.YtmoojmgihdgceaaGreatDoorZj
import Derived.Test.YtmoojmgihdgceaaGreatDoorZb
import Derived.Test.YtmoojmgihdgceaaGreatDoorZc
import Derived.Test.YtmoojmgihdgceaaGreatDoorZh
import Derived.Test.YtmoojmgihdgceaaGreatDoorZg
set_option maxHeartbeats 8000000
namespace Go.Proofs.YtmoojmgihdgceaaGreatDoor
open Go.RowKit Go.Proofs Tryz
set_option maxRecDepth 100000
set_option linter.unusedVariables false
set_option linter.unusedSimpArgs false
theorem St.out4 {n0:Nat} {w0 u:World} {A B:List SA} {t a b c:SA} (h:St n0 w0 (A++[t,a,b,c]++B) u):St n0 w0 [t,a,b,c,YtmoojmgihdgceaaGreatDoor.star (A++B)] u:=by
 have h1:St n0 w0 ((A++B)++[t,a,b,c]) u:=h.perm (by
  rw[List.append_assoc,List.append_assoc]
  exact List.Perm.append_left A List.perm_append_comm)
 have h2:=h1.pack
 exact h2.perm (by
  show([YtmoojmgihdgceaaGreatDoor.star (A++B)]++[t,a,b,c]).Perm ([t,a,b,c]++[YtmoojmgihdgceaaGreatDoor.star (A++B)])
  exact List.perm_append_comm)
theorem St.in4 {n0:Nat} {w0 u:World} {A B:List SA} {t a b c:SA} (h:St n0 w0 [t,a,b,c,YtmoojmgihdgceaaGreatDoor.star (A++B)] u):St n0 w0 (A++[t,a,b,c]++B) u:=by
 have h1:St n0 w0 (YtmoojmgihdgceaaGreatDoor.star (A++B)::[t,a,b,c]) u:=h.perm (by
  show([t,a,b,c]++[YtmoojmgihdgceaaGreatDoor.star (A++B)]).Perm ([YtmoojmgihdgceaaGreatDoor.star (A++B)]++[t,a,b,c])
  exact List.perm_append_comm)
 have h2:=h1.unpack
 exact h2.perm (by
  rw[List.append_assoc,List.append_assoc]
  exact List.Perm.append_left A List.perm_append_comm)
theorem N1 {w u:World} (A B:List SA) (r:Room) (hr:RoomOk w r) (tb:Nat) (va vb vc:Value) (ths prs pls:List Int) (ha:DY r.aus.l ths.length) (hu:St w.heap.size w (A++[blk tb [r.pls.v,r.ths.v,r.prs.v,r.wys.v,r.acs.v,r.aus.v,.int .i64 r.ply,r.gl.v,va,vb,vc] 246,oints 3 va ths,oints 3 vb prs,oints 3 vc pls]++B) u):
  Calls prog 189 #[.pointer (some ⟨tb,0,none⟩)] u (fun e u'=>∃o:List Int,((∀t,settleN r.aus.l 101 ths=some t→o=t)∧o.length=ths.length)∧e = .returned (.bool (settleN r.aus.l 101 ths).isSome)∧St w.heap.size w (A++[blk tb [r.pls.v,r.ths.v,r.prs.v,r.wys.v,r.acs.v,r.aus.v,.int .i64 r.ply,r.gl.v,va,vb,vc] 246,oints 3 va o,oints 3 vb prs,oints 3 vc pls]++B) u'):=by
 refine Calls.mono (OG (star (A++B)) r hr tb va vb vc ths prs pls ha hu.out4) ?_;rintro e u' ⟨o,h1,h2,h3⟩;exact⟨o,h1,h2,h3.in4⟩
theorem RW {w u:World} (A B:List SA) (r:Room) (hr:RoomOk w r) (hR:Ready r) (tb:Nat) (va vb vc:Value) (x:P3) (hI:StIn r x) (m:Move) (hL:legalB r x m=true) (hu:St w.heap.size w (A++[blk tb [r.pls.v,r.ths.v,r.prs.v,r.wys.v,r.acs.v,r.aus.v,.int .i64 r.ply,r.gl.v,va,vb,vc] 246,oints 3 va x.1,oints 3 vb x.2.1,oints 3 vc x.2.2]++B) u):
  Calls prog 192 #[.pointer (some ⟨tb,0,none⟩),.agg #[.int .i64 m.p,.int .i64 m.k,.int .i64 m.n]] u (fun e u'=>∃_q:Unit,True∧e = .returned (.tuple #[])∧St w.heap.size w (A++[blk tb [r.pls.v,r.ths.v,r.prs.v,r.wys.v,r.acs.v,r.aus.v,.int .i64 r.ply,r.gl.v,va,vb,vc] 246,oints 3 va (moveX r x m).1,oints 3 vb (moveX r x m).2.1,oints 3 vc (moveX r x m).2.2]++B) u'):=by
 refine Calls.mono (Wa (star (A++B)) r hr hR tb va vb vc x hI m hL hu.out4) ?_;rintro e u' ⟨o,h1,h2,h3⟩;exact⟨o,h1,h2,h3.in4⟩
def sres (va vb vc:Value):Bool→Value
 |true=>.tuple #[.agg #[va,vb,vc],.int .i64 0]
 |false=>.tuple #[.agg #[.slice none 0 0,.slice none 0 0,.slice none 0 0],.int .i64 27]
theorem JH {r:Room} {x:P3} {o:List Int} (h:(settleN r.aus.l 101 x.1).isSome=true) (ho:∀t,settleN r.aus.l 101 x.1=some t→o=t):settleV r x=some (o,x.2.1,x.2.2):=by
 unfold settleV;obtain⟨t,ht⟩:=Option.isSome_iff_exists.1 h;rw[ho t ht,ht];rfl
theorem JB {r:Room} {x:P3} (h:(settleN r.aus.l 101 x.1).isSome=false):settleV r x=none:=by
 unfold settleV;rw[Option.isSome_eq_false_iff,Option.isNone_iff_eq_none]at h;rw[h];rfl
theorem NI {w u:World} (R:SA) (r:Room) (hr:RoomOk w r) (tb:Nat) (va vb vc:Value) (hva:va.oneCell'=true) (hvb:vb.oneCell'=true) (hvc:vc.oneCell'=true) (ths prs pls:List Int) (ha:DY r.aus.l ths.length) (hu:St w.heap.size w [blk tb [r.pls.v,r.ths.v,r.prs.v,r.wys.v,r.acs.v,r.aus.v,.int .i64 r.ply,r.gl.v,va,vb,vc] 246,oints 3 va (ths),oints 3 vb prs,oints 3 vc pls,R] u):
  Calls prog 143 #[.pointer (some ⟨tb,0,none⟩)] u (fun e u'=>∃o:List Int,((∀t,settleN r.aus.l 101 ths=some t→o=t)∧o.length=ths.length)∧e = .returned (sres va vb vc (settleN r.aus.l 101 ths).isSome)∧St w.heap.size w [blk tb [r.pls.v,r.ths.v,r.prs.v,r.wys.v,r.acs.v,r.aus.v,.int .i64 r.ply,r.gl.v,va,vb,vc] 246,oints 3 va (o),oints 3 vb prs,oints 3 vc pls,R] u'):=by
 refine Ei hu func143 ?_;refine Nz 0 ?_;refine Wq 1 zv95 fun b2 hb2=>?_;refine Nv 1 ?_;refine WS.callS rfl rfl Xp (fun u hu=>N1 [blk b2 [.slice none 0 0,.slice none 0 0,.slice none 0 0] 95] [R] r hr tb va vb vc ths prs pls ha hu) (fun _=>rfl) ?_;rintro o ⟨ho,hol⟩;refine Wz 1 ?_;refine Wp ?_ ?_<;>intro hc1
 ·refine Nz 0 ?_;refine Wk 0 (Db Ew zv95) ?_;refine Wv 1 0 ?_;exact Wd (Qc (Cr (Qr (outR (Bx rfl (Au (j:=0) rfl rfl tk95) rfl) (fun u hu=>⟨o,⟨ho,hol⟩,by rw[hc1];rfl,hu.sel [1,1,1,1,1] rfl⟩)))))
 refine Ck (Qc (Nz 3 ?_));refine Wk 0 (Bc 1) ?_;refine Wv 1 0 ?_;exact Wd (Qc (Cr (outR (Bx rfl (Au (j:=0) rfl rfl tk95) rfl) (fun u hu=>⟨o,⟨ho,hol⟩,by rw[hc1];rfl,hu.sel [1,1,1,1,1] rfl⟩))))
theorem Dy {w u:World} (A B:List SA) (r:Room) (hr:RoomOk w r) (tb:Nat) (va vb vc:Value) (hva:va.oneCell'=true) (hvb:vb.oneCell'=true) (hvc:vc.oneCell'=true) (ths prs pls:List Int) (ha:DY r.aus.l ths.length) {q:Bool} (hq:(settleN r.aus.l 101 ths).isSome=q) (hu:St w.heap.size w (A++[blk tb [r.pls.v,r.ths.v,r.prs.v,r.wys.v,r.acs.v,r.aus.v,.int .i64 r.ply,r.gl.v,va,vb,vc] 246,oints 3 va ths,oints 3 vb prs,oints 3 vc pls]++B) u):
  Calls prog 143 #[.pointer (some ⟨tb,0,none⟩)] u (fun e u'=>∃o:List Int,((∀t,settleN r.aus.l 101 ths=some t→o=t)∧o.length=ths.length)∧e = .returned (sres va vb vc q)∧St w.heap.size w (A++[blk tb [r.pls.v,r.ths.v,r.prs.v,r.wys.v,r.acs.v,r.aus.v,.int .i64 r.ply,r.gl.v,va,vb,vc] 246,oints 3 va o,oints 3 vb prs,oints 3 vc pls]++B) u'):=by
 subst hq;refine Calls.mono (NI (star (A++B)) r hr tb va vb vc hva hvb hvc ths prs pls ha hu.out4) ?_;rintro e u' ⟨o,h1,h2,h3⟩;exact⟨o,h1,h2,h3.in4⟩
theorem B5 (r:Room) (w:World) (hr:RoomOk w r) (g:Sl ByteArray) (hG:GOk w g) (hn:Near r) (z:Stt) (hz:SttOk w z):
  Calls prog 135 #[.agg (rcl r).toArray,.agg #[z.ths.v,z.prs.v,z.pls.v]] w (RetB w (.int .i64 (CX r z))):=by
 have kpl:=hr.pls;have lpl:=hr.pls.le;have kth:=hr.ths;have lth:=hr.ths.le;have kpr:=hr.prs;have lpr:=hr.prs.le;have kwy:=hr.wys;have lwy:=hr.wys.le;have kac:=hr.acs;have lac:=hr.acs.le;have kau:=hr.aus;have lau:=hr.aus.le;have kgl:=hr.gl;have lgl:=hr.gl.le;have zth:=hz.ths.ints;have zpr:=hz.prs.ints;have zpl:=hz.pls.ints;have mth:=zth.le;have mpr:=zpr.le;have mpl:=zpl.le;refine En func135 ?_;refine Nz 0 ?_;refine Wr 0 fun b2 hb2=>?_;refine Wr 1 fun b3 hb3=>?_;refine Nv 0 ?_;refine Wk 0 (Bb 1) ?_;refine Wk 1 (Cb rfl rfl RL (fun u hu=>Ir r u (hr.st hu) g (hG.st hu) hn)) ?_;refine Nx 2 ?_;refine Wp ?_ ?_<;>intro hc1
 ·have e0:CX r z=checkE r:=Bn rfl hc1;refine Nz 2 ?_;exact Wd (Qc (Cr (Qr (out1 rfl rfl (Ab (by rw[e0]))))))
 have e0:CX r z=stE r z.ths.l z.prs.l z.pls.l:=Bm (by omega);have hpy:1≤r.ply∧r.ply≤4:=Em (by omega);have hln:=(Cq (show checkE r=0 by omega)).lens;refine Ck (Qc (Cs (Nz 1 ?_)));refine Wk 0 (Ba 0) ?_;refine Wk 1 Na ?_;refine Wk 0 (Ba 1) ?_;refine Wk 2 Nc ?_;refine We 0 ?_;refine We 0 ?_;refine We 0 ?_;refine We 0 ?_;refine We 0 ?_;refine We 0 ?_;refine We 0 ?_;refine Wk 1 Po ?_;refine We 0 ?_;refine We 0 ?_;refine We 0 ?_;refine We 0 ?_;refine We 0 ?_;refine We 0 ?_;refine Wk 0 Po ?_;refine Wp ?_ ?_<;>intro hc2
 ·refine Nz 1 ?_;exact Wd (Qc (Cr (Qr (out1 rfl rfl (Ab (by rw[e0,show stE r z.ths.l z.prs.l z.pls.l=28 from if_neg (by simp only[Bool.and_eq_true,decide_eq_true_eq];omega)]))))))
 have e1:stE r z.ths.l z.prs.l z.pls.l=or0 (AV (ED r z.ths.l) z.ths.l.length) (or0 (AV (EQ r z.prs.l) z.prs.l.length) (AV (EN r z.pls.l) z.pls.l.length)):=if_pos (by simp only[Bool.and_eq_true,decide_eq_true_eq];omega);refine Ck (Qc (Cs (Nz 1 ?_)));refine Wk 0 (Ba 0) ?_;refine Wk 1 Na ?_;refine Nu ?_;refine CS.loopM (σ:=Int) (rsL [4,4,6,7,45,54]) (fun s=>[(44,.int .i64 s)]) (fun _=>_) (fun s=>0≤s∧s≤z.ths.l.length∧∀j:Int,0≤j→j<s→ED r z.ths.l j=0) (fun s=>(z.ths.l.length-s).toNat) 0 (fun _ _=>rfl) rfl rfl ⟨by omega,by omega,fun j _ _=>by omega⟩ ?_;intro a t hs;obtain⟨ha1,ha2,ha3⟩:=hs;refine Nz 1 ?_;refine Wd (Qc (Cs (Cn ?_ ?_)))<;>intro hc3
 ·refine Ck (Qc (Cs (Ce (Nz 1 ?_))));refine Wk 0 Xa ?_;refine Wk 2 Ia ?_;refine Nx 0 ?_;refine Wk 2 (Bb 1) ?_;refine Wk 1 (Cb rfl rfl Mv (fun u hu=>Jn r u (hr.st hu) _ _)) ?_;refine Wp ?_ ?_<;>intro hc4
  ·refine Nz 1 ?_;refine Wd (Qc (Cr (Qs (Qr (Qr (Qs (Qr ?_)))))))
   exact out1 rfl rfl (Ab (by
      have hE:ED r z.ths.l a=28:=by(unfold ED;grind)
      rw[e0,e1,Bn ((Aq ha1 (by omega) ha3 (by rw[hE];decide)).trans hE) (by decide)]))
  refine Ck (Qb (Qc (Ny 0 ?_)));refine Wk 1 Za ?_;refine Wd ?_
  exact QS.head (a+1) rfl rfl ⟨⟨by omega,by omega,fun j h0 h1=>by
     rcases(show j<a∨j=a by omega)with h|h
     ·exact ha3 j h0 h
     rw[h];unfold ED;exact if_pos hc4⟩,by omega⟩
 have e2:=(e0.trans e1).trans (Bm (As fun j a b=>ha3 j a (by omega)));refine Cv (Qe (Qe (Qx (Qc (Cs (Nz 1 ?_))))));refine Wk 0 (Ba 0) ?_;refine Wk 1 Na ?_;refine Nu ?_;refine CS.loopM (σ:=Int) (rsL [4,4,9,9,59,73]) (fun s=>[(58,.int .i64 s)]) (fun _=>_) (fun s=>0≤s∧s≤z.prs.l.length∧∀j:Int,0≤j→j<s→EQ r z.prs.l j=0) (fun s=>(z.prs.l.length-s).toNat) 0 (fun _ _=>rfl) rfl rfl ⟨by omega,by omega,fun j _ _=>by omega⟩ ?_;intro b t hs;obtain⟨hb1,hb2,hb3⟩:=hs;refine Nz 1 ?_;refine Wd (Qc (Cs (Cn ?_ ?_)))<;>intro hc5
 ·refine Ck (Qc (Cs (Ce (Nz 0 ?_))));refine Wk 0 Xa ?_;refine Wk 1 Ia ?_;refine Nx 2 ?_;refine Wk 0 (Ba 1) ?_;refine Wk 0 Zb ?_;refine Wk 1 Za ?_;refine Wk 0 (Ba 1) ?_;refine Wk 0 Nc ?_;refine Wk 0 Zb ?_;refine Wk 1 (Cb rfl rfl CA (fun u hu=>Bq _ _ _ u)) ?_;refine Wp ?_ ?_<;>intro hc6
  ·refine Nz 1 ?_;refine Wd (Qc (Cr (Qs (Qr (Qr (Qs (Qr ?_)))))))
   exact out1 rfl rfl (Ab (by
      have hE:EQ r z.prs.l b=28:=by(unfold EQ placeB;exact if_neg (by simp only[Bool.or_eq_true,Bool.and_eq_true,decide_eq_true_eq];omega))
      rw[e2,Bn ((Aq hb1 (by omega) hb3 (by rw[hE];decide)).trans hE) (by decide)]))
  refine Ck (Qb (Qc (Ny 0 ?_)));refine Wk 1 Za ?_;refine Wd ?_
  exact QS.head (b+1) rfl rfl ⟨⟨by omega,by omega,fun j h0 h1=>by
     rcases(show j<b∨j=b by omega)with h|h
     ·exact hb3 j h0 h
     rw[h];unfold EQ placeB;exact if_pos (by simp only[Bool.or_eq_true,Bool.and_eq_true,decide_eq_true_eq];omega)⟩,by omega⟩
 have e3:=e2.trans (Bm (As fun j a b=>hb3 j a (by omega)));refine Cv (Qe (Qe (Qx (Qc (Cs (Nz 1 ?_))))));refine Wk 0 (Ba 0) ?_;refine Wk 1 Na ?_;refine Nu ?_;refine CS.loopM (σ:=Int) (rsL [4,4,11,11,78,88]) (fun s=>[(77,.int .i64 s)]) (fun _=>_) (fun s=>0≤s∧s≤z.pls.l.length∧∀j:Int,0≤j→j<s→EN r z.pls.l j=0) (fun s=>(z.pls.l.length-s).toNat) 0 (fun _ _=>rfl) rfl rfl ⟨by omega,by omega,fun j _ _=>by omega⟩ ?_;intro d t hs;obtain⟨hd1,hd2,hd3⟩:=hs;refine Nz 1 ?_;refine Wd (Qc (Cs (Cn ?_ ?_)))<;>intro hc7
 ·refine Ck (Qc (Cs (Ce (Nz 0 ?_))));refine Wk 0 Xa ?_;refine Wk 1 Ia ?_;refine Nx 2 ?_;refine Wk 0 (Ba 1) ?_;refine Wk 0 Nc ?_;refine Wk 0 Zb ?_;refine Wk 1 (Cb rfl rfl CA (fun u hu=>Bq _ _ _ u)) ?_;refine Wp ?_ ?_<;>intro hc8
  ·refine Nz 1 ?_;refine Wd (Qc (Cr (Qs (Qr (Qr (Qs (Qr ?_)))))))
   exact out1 rfl rfl (Ab (by
      have hE:EN r z.pls.l d=28:=by(unfold EN placeB;exact if_neg (by simp only[Bool.and_eq_true,decide_eq_true_eq];omega))
      rw[e3,(Aq hd1 (by omega) hd3 (by rw[hE];decide)).trans hE]))
  refine Ck (Qb (Qc (Ny 0 ?_)));refine Wk 1 Za ?_;refine Wd ?_
  exact QS.head (d+1) rfl rfl ⟨⟨by omega,by omega,fun j h0 h1=>by
     rcases(show j<d∨j=d by omega)with h|h
     ·exact hd3 j h0 h
     rw[h];unfold EN placeB;exact if_pos (by simp only[Bool.and_eq_true,decide_eq_true_eq];omega)⟩,by omega⟩
 have e4:=e3.trans (As fun j a b=>hd3 j a (by omega));refine Cv (Qe (Qe (Qx (Qc (Nz 1 ?_)))));exact Wd (Qc (Cr (out1 rfl rfl (Ab (by rw[e4])))))
theorem Oh {n:Int} (h: -9223372036854775808≤n∧n≤9223372036854775807):IntKind.i64.wrap n=n:=by
 simp[IntKind.wrap,IntKind.bits,IntKind.signed];omega
theorem LU {α β:Type} [Inhabited α] [Inhabited β] (f:α→β) {l:List α} {i:Int} (h0:0≤i) (h1:i<l.length):nth (l.map f) i=f (nth l i):=by
 have h2:i.toNat<l.length:=by omega
 simp[nth,List.getD,h2]
theorem Mr {r:Room} (hR:Ready r):StIn r (Cf r):=by
 have hl:=hR.lens;have hp:=hR.ply;refine⟨by simp[Cf],by simp[Cf],by simp[Cf];omega,fun i h0 h1=>?_,fun i h0 h1=>?_,fun i h0 h1=>?_⟩
 ·simp only[Cf,List.length_map]at h1;have h2:=hR.ths _ (Ad h0 h1);simp only[thB,Bool.and_eq_true,decide_eq_true_eq]at h2;simp only[Cf];rw[LU _ h0 h1,putB,Oh (by omega)];simp only[Bool.and_eq_true,decide_eq_true_eq];omega
 ·simp only[Cf,List.length_map]at h1;have h2:=(hR.prs _ (Ad h0 h1)).2;have e:nth (Cf r).2.1 i=(nth r.prs.l i).pl:=LU Pro.pl h0 h1;simp only[e];rcases h2 with h|h<;>simp[h]
 simp only[Cf,List.length_replicate]at h1
 have:nth (List.replicate r.ply.toNat (0:Int)) i=0:=by
  have h2:i.toNat<r.ply.toNat:=by omega
  simp[nth,List.getD,h2]
 simp only[Cf,this,placeB,Bool.and_eq_true,decide_eq_true_eq];omega
theorem RN (r:Room) (w:World) (hr:RoomOk w r) (g:Sl ByteArray) (hG:GOk w g) (hn:Near r) (z:Stt) (hz:SttOk w z) (c:Sl Lit) (hk:SlT cLit w c):
  Calls prog 144 #[.agg (rcl r).toArray,.agg #[z.ths.v,z.prs.v,z.pls.v],c.v] w (RetB w (.tuple #[.bool (HoldsV r z.x c.l).2,.int .i64 (HoldsV r z.x c.l).1])):=by
 refine En func144 ?_;refine Nz 0 ?_;refine Wr 0 fun b3 hb3=>?_;refine Wr 2 fun b4 hb4=>?_;refine Nv 0 ?_;refine Wk 0 (Bb 1) ?_;refine Wk 0 (Bb 0) ?_;refine Wk 1 (Cb rfl rfl J1 (fun u hu=>B5 r u (hr.st hu) g (hG.st hu) hn z (hz.st hu))) ?_;refine Nx 2 ?_;refine Wp ?_ ?_<;>intro hc1
 ·have hS:¬stL r z.x=0:=hc1;refine Nz 3 ?_;exact Wd (Qc (Cr (Qr (out2 rfl rfl rfl (Ab (by rw[show HoldsV r z.x c.l=(stL r z.x,false)from if_neg hS];rfl))))))
 have hc1:CX r z=0:=hc1;have hc1:stL r z.x=0:=hc1;have hS:stL r z.x=0:=by omega
 obtain⟨hC,hI⟩:=CR.1 hS;have hR:=Cq hC;have hlen:=hR.lens;have hply:=hR.ply;have hlt:z.ths.l.length=r.ths.l.length:=hI.lt;have hlp:z.prs.l.length=r.prs.l.length:=hI.lp;have hll:(z.pls.l.length:Int)=r.ply:=hI.ll;refine Ck (Qc (Cs (Nz 0 ?_)));refine Wk 1 (Bb 1) ?_;refine Wk 1 (Cb rfl rfl HV (fun u hu=>FU r u (hr.st hu) _ (hk.st hu))) ?_;refine Wp ?_ ?_<;>intro hc2
 ·refine Nz 2 ?_;exact Wd (Qc (Cr (Qr (out2 rfl rfl rfl (Ab (by rw[show HoldsV r z.x c.l=(25,false)from(if_pos hS).trans (if_neg (by rw[hc2];decide))]))))))
 refine Ck (Qc (Nz 0 ?_));refine Wk 0 (Bb 1) ?_;refine Wk 0 (Bb 0) ?_;refine Wc rfl rfl Ip (fun u hu=>Ns r u (hr.st hu) z (hz.st hu) (hI.small hR)) (fun _=>rfl) ?_;rintro⟨tb,va,vb,vc⟩ ⟨hva,hvb,hvc⟩;refine WS.unpack ?_;refine Wz 1 ?_;refine Wk 2 (Cb rfl rfl Hs (fun u hu=>EK tb r ⟨⟨va,z.ths.l⟩,⟨vb,z.prs.l⟩,⟨vc,z.pls.l⟩⟩ u ⟨AD hu (j:=0) rfl,hr.st hu,(Ah hu (j:=1) rfl).tree,(Ah hu (j:=2) rfl).tree,(Ah hu (j:=3) rfl).tree⟩ c (hk.st hu) (by show DM z.ths.l.length _;rw[hlt];exact EL hc2))) ?_;exact Wd (Qc (Cr (out2 rfl rfl rfl (Ab (by rw[show HoldsV r z.x c.l=(0,Bt z.ths.l c.l)from(if_pos hS).trans (if_pos hc2)])))))
theorem Qf (r:Room) (w:World) (hr:RoomOk w r) (g:Sl ByteArray) (hG:GOk w g) (hn:Near r) (z:Stt) (hz:SttOk w z):
  Calls prog 98 #[.agg (rcl r).toArray,.agg #[z.ths.v,z.prs.v,z.pls.v]] w (RetB w (.tuple #[.bool (HoldsV r z.x r.gl.l).2,.int .i64 (HoldsV r z.x r.gl.l).1])):=by
 have kgl:=hr.gl;refine En func98 ?_;refine Nz 0 ?_;refine Wr 0 fun b2 hb2=>?_;refine Wr 2 fun b3 hb3=>?_;refine Nv 0 ?_;refine Wk 0 (Bb 1) ?_;refine Wk 0 (Bb 0) ?_;refine Wk 1 (Cb rfl rfl J1 (fun u hu=>B5 r u (hr.st hu) g (hG.st hu) hn z (hz.st hu))) ?_;refine Nx 2 ?_;refine Wp ?_ ?_<;>intro hc1
 ·have hS:¬stL r z.x=0:=hc1;refine Nz 3 ?_;exact Wd (Qc (Cr (Qr (out2 rfl rfl rfl (Ab (by rw[show HoldsV r z.x r.gl.l=(stL r z.x,false)from if_neg hS];rfl))))))
 have hc1:CX r z=0:=hc1;have hc1:stL r z.x=0:=hc1;have hS:stL r z.x=0:=by omega
 obtain⟨hC,hI⟩:=CR.1 hS;have hR:=Cq hC;have hlen:=hR.lens;have hply:=hR.ply;have hlt:z.ths.l.length=r.ths.l.length:=hI.lt;have hlp:z.prs.l.length=r.prs.l.length:=hI.lp;have hll:(z.pls.l.length:Int)=r.ply:=hI.ll;have hgc:D6 r.ths.l r.gl.l=true:=Jk (BH (Fu hC)).2;refine Ck (Qc (Cs ?_));refine CS.drawnAll (k:=8) mixed rfl rfl ?_;refine Ak 0 [] rfl (Bb 1) ?_;refine Ak 1 [3] rfl (Bb 0) ?_;refine Ak 4 [] rfl (Ba 1) ?_;refine Ao 2 rfl ?_;refine Wc rfl rfl Ip (fun u hu=>Ns r u (hr.st hu) z (hz.st hu) (hI.small hR)) (fun _=>rfl) ?_;rintro⟨tb,va,vb,vc⟩ ⟨hva,hvb,hvc⟩;refine WS.unpack ?_;refine Wd (Qa ?_);refine Ao 5 rfl ?_;refine Wk 0 (Cb rfl rfl Hs (fun u hu=>EK tb r ⟨⟨va,z.ths.l⟩,⟨vb,z.prs.l⟩,⟨vc,z.pls.l⟩⟩ u ⟨AD hu (j:=0) rfl,hr.st hu,(Ah hu (j:=1) rfl).tree,(Ah hu (j:=2) rfl).tree,(Ah hu (j:=3) rfl).tree⟩ r.gl (kgl.st hu) (by show DM z.ths.l.length _;rw[hlt];exact hR.gl))) ?_;refine Wd (Qa ?_);refine Ar [6,7] ?_;refine Ae ?_;exact Qc (Cr (out2 rfl rfl rfl (Ab (by rw[show HoldsV r z.x r.gl.l=(0,Bt z.ths.l r.gl.l)from(if_pos hS).trans (if_pos hgc)]))))
theorem RM (r:Room) (w:World) (hr:RoomOk w r) (g:Sl ByteArray) (hG:GOk w g) (hn:Near r):
  Calls prog 101 #[.agg (rcl r).toArray] w (RetS w (BeginV r).2 fun v=>.tuple #[v,.int .i64 (BeginV r).1]):=by
 have kpl:=hr.pls;have lpl:=hr.pls.le;have kth:=hr.ths;have lth:=hr.ths.le;have kpr:=hr.prs;have lpr:=hr.prs.le;have kwy:=hr.wys;have lwy:=hr.wys.le;have kac:=hr.acs;have lac:=hr.acs.le;have kau:=hr.aus;have lau:=hr.aus.le;have kgl:=hr.gl;have lgl:=hr.gl.le;refine En func101 ?_;refine Nz 0 ?_;refine Wr 0 fun b1 hb1=>?_;refine Wq 1 zv95 fun b2 hb2=>?_;refine Nv 0 ?_;refine Wk 0 (Bb 1) ?_;refine Wk 1 (Cb rfl rfl RL (fun u hu=>Ir r u (hr.st hu) g (hG.st hu) hn)) ?_;refine Nx 2 ?_;refine Wp ?_ ?_<;>intro hc1
 ·refine Nz 0 ?_;refine Wk 1 (Db Ew zv95) ?_;refine Wv 1 0 ?_;refine Wd (Qc (Cr (Qr ?_)))
  exact outR (Bx rfl (Au (j:=0) rfl rfl tk95) rfl) (by
    have hv:BeginV r=(checkE r,no3):=if_neg hc1;rw[hv]
    exact fun u hu=>IF (f:=fun v=>.tuple #[v,.int .i64 (checkE r)]) hu)
 have hc1:checkE r=0:=hc1;have hR:=Cq hc1;have hlen:=hR.lens;have hply:=hR.ply;refine Ck (Qc (Nz 1 ?_));refine Wk 0 (Ba 1) ?_;refine WS.makeInts sl37 rfl rfl zv3 (by omega) (by omega) (by omega) (fun _=>rfl) ?_;intro v18;refine WS.oc (j:=0) rfl (fun hv18=>?_);refine Wk 0 (Db Ew zv95) ?_;refine Wq 0 zv95 fun b5 hb5=>?_;refine Wv 0 0 ?_;refine Nv 1 ?_;refine Wk 0 (Ba 3) ?_;refine Wk 1 Nc ?_;refine Nu ?_;refine CS.weak (fun _ hu=>hu.osl0 (e:=3) (size:=1)) ?_;refine CS.loopM (σ:=Int×Value) (rsL [7,7,24,34]) (fun s=>[(23,.int .i64 s.1)]) (fun s=>[oints 3 s.2 ((r.ths.l.take s.1.toNat).map Thing.sr),blk b5 [s.2,.slice none 0 0,v18] 95,oints 3 v18 (List.replicate r.ply.toNat 0),blk b2 [.slice none 0 0,.slice none 0 0,.slice none 0 0] 95,blk b1 (rcl r) 31]) (fun s=>0≤s.1∧s.1≤r.ths.l.length) (fun s=>(r.ths.l.length-s.1).toNat) (0,.slice none 0 0) (fun _ _=>rfl) rfl rfl ⟨by simp,by simp⟩ ?_;intro a t hs;obtain⟨ha1,ha2⟩:=hs;have htl:=List.length_take_le a.1.toNat r.ths.l;refine Nz 1 ?_;refine Wd (Qc (Cs (Cn ?_ ?_)))<;>intro hc2
 ·refine Ck (Qc (Cs (Ce (Nz 0 ?_))));refine Wk 0 Xc ?_;refine Wk 0 Ua ?_;refine Wq 0 PL fun b7 hb7=>?_;refine Wv 0 0 ?_;refine Nw 1 ?_;refine Wk 1 (Ba 2) ?_;refine Wk 0 (Ba 0) ?_;refine WS.buildI1 sl37 zv3 rfl (fun _=>rfl) ?_;intro v31;refine WS.appendI (j:=2) sl37 zv3 rfl rfl rfl (fun u hu=>Ah hu (j:=0) rfl) (by first|omega|(simp;omega)|(simp only[List.length_append,List.length_singleton,List.length_map,List.length_cons,List.length_nil]at*;omega)) (by first|omega|(simp;omega)|(simp only[List.length_append,List.length_singleton,List.length_map,List.length_cons,List.length_nil]at*;omega)) (fun _=>rfl) (fun _=>rfl) ?_;intro v32;refine WS.oc (j:=2) rfl (fun hv32=>?_);refine Wz 1 ?_;refine Ws 0 3 ?_;refine Wd (Qb (Qc (Ny 0 ?_)));refine Wk 1 Za ?_;refine Wd ?_;refine QS.sel [2,2,2,2,2] rfl ?_;exact QS.head ((a.1+1,v32)) rfl (by simp only[←Dq Thing.sr ha1 (by omega:a.1<r.ths.l.length)]) ⟨⟨by simp;omega,by simp;omega⟩,by simp;omega⟩
 have hta:r.ths.l.take a.1.toNat=r.ths.l:=List.take_of_length_le (by omega);rw[hta];refine Cv (Qe (Qe (Qx (Qc (Cs (Nz 1 ?_))))));refine Wk 0 (Ba 4) ?_;refine Wk 1 Nc ?_;refine Nu ?_;refine CS.weak (fun _ hu=>hu.osl0 (e:=3) (size:=1)) ?_;refine CS.loopM (σ:=Int×Value) (rsL [9,9,39,49]) (fun s=>[(38,.int .i64 s.1)]) (fun s=>[oints 3 s.2 ((r.prs.l.take s.1.toNat).map Pro.pl),oints 3 a.2 (r.ths.l.map Thing.sr),blk b5 [a.2,s.2,v18] 95,oints 3 v18 (List.replicate r.ply.toNat 0),blk b2 [.slice none 0 0,.slice none 0 0,.slice none 0 0] 95,blk b1 (rcl r) 31]) (fun s=>0≤s.1∧s.1≤r.prs.l.length) (fun s=>(r.prs.l.length-s.1).toNat) (0,.slice none 0 0) (fun _ _=>rfl) rfl rfl ⟨by simp,by simp⟩ ?_;intro d t hs;obtain⟨hd1,hd2⟩:=hs;have htl:=List.length_take_le d.1.toNat r.prs.l;refine Nz 1 ?_;refine Wd (Qc (Cs (Cn ?_ ?_)))<;>intro hc3
 ·have hwh:SlT cLit w (nth r.prs.l d.1).wh:=hr.prs.at hd1 (by omega);refine Ck (Qc (Cs (Ce (Nz 0 ?_))));refine Wk 0 Xc ?_;refine Wk 0 Ua ?_;refine Wq 0 P2 fun b9 hb9=>?_;refine Wv 0 0 ?_;refine Nw 1 ?_;refine Wk 1 (Ba 3) ?_;refine Wk 0 (Ba 0) ?_;refine WS.buildI1 sl37 zv3 rfl (fun _=>rfl) ?_;intro v46;refine WS.appendI (j:=2) sl37 zv3 rfl rfl rfl (fun u hu=>Ah hu (j:=0) rfl) (by first|omega|(simp;omega)|(simp only[List.length_append,List.length_singleton,List.length_map,List.length_cons,List.length_nil]at*;omega)) (by first|omega|(simp;omega)|(simp only[List.length_append,List.length_singleton,List.length_map,List.length_cons,List.length_nil]at*;omega)) (fun _=>rfl) (fun _=>rfl) ?_;intro v47;refine WS.oc (j:=2) rfl (fun hv47=>?_);refine Wz 1 ?_;refine Ws 0 4 ?_;refine Wd (Qb (Qc (Ny 0 ?_)));refine Wk 1 Za ?_;refine Wd ?_;refine QS.sel [2,2,2,2,2,2] rfl ?_;exact QS.head ((d.1+1,v47)) rfl (by simp only[←Dq Pro.pl hd1 (by omega:d.1<r.prs.l.length)]) ⟨⟨by simp;omega,by simp;omega⟩,by simp;omega⟩
 have hta:r.prs.l.take d.1.toNat=r.prs.l:=List.take_of_length_le (by omega);rw[hta];refine Cv (Qe (Qe (Qx (Qc (Cs ?_)))));rcases Bool.eq_false_or_eq_true ((settleN r.aus.l 101 (r.ths.l.map Thing.sr)).isSome)with hb|hb
 ·refine Ny 0 ?_;refine Wk 0 (Bb 5) ?_;refine Wk 0 (Bb 2) ?_;refine Wc rfl rfl Ip (fun u hu=>Ns r u (hr.st hu) ⟨⟨a.2,r.ths.l.map Thing.sr⟩,⟨d.2,r.prs.l.map Pro.pl⟩,⟨v18,List.replicate r.ply.toNat 0⟩⟩ ⟨(Ah hu (j:=1) rfl).tree,(Ah hu (j:=0) rfl).tree,(Ah hu (j:=3) rfl).tree⟩ (by simp;omega)) (fun _=>rfl) ?_;rintro⟨tb,va,vb,vc⟩ ⟨hva,hvb,hvc⟩;refine WS.unpack ?_;refine WS.callS rfl rfl M3 (fun u hu=>Dy [] _ r hr tb va vb vc hva hvb hvc (r.ths.l.map Thing.sr) (r.prs.l.map Pro.pl) (List.replicate r.ply.toNat 0) (by rw[List.length_map];exact hR.aus) hb hu) (fun _=>rfl) ?_;rintro o ⟨ho,hol⟩;refine Wz 2 ?_;refine Wv 1 8 ?_;refine Wd (Qc (Cr ?_))
  exact outR (Bx rfl (Au (j:=8) rfl rfl tk95) rfl) (by
    have hv:BeginV r=(0,(o,r.prs.l.map Pro.pl,List.replicate r.ply.toNat 0)):=(if_pos hc1).trans ((if_pos (CR.2 ⟨hc1,Mr hR⟩)).trans (by rw[JH (r:=r) (x:=Cf r) hb ho];rfl));rw[hv]
    exact fun u hu=>retS (f:=fun v=>.tuple #[v,.int .i64 0]) (is:=[1,1,1]) rfl hu)
 refine Ny 0 ?_;refine Wk 0 (Bb 5) ?_;refine Wk 0 (Bb 2) ?_;refine Wc rfl rfl Ip (fun u hu=>Ns r u (hr.st hu) ⟨⟨a.2,r.ths.l.map Thing.sr⟩,⟨d.2,r.prs.l.map Pro.pl⟩,⟨v18,List.replicate r.ply.toNat 0⟩⟩ ⟨(Ah hu (j:=1) rfl).tree,(Ah hu (j:=0) rfl).tree,(Ah hu (j:=3) rfl).tree⟩ (by simp;omega)) (fun _=>rfl) ?_;rintro⟨tb,va,vb,vc⟩ ⟨hva,hvb,hvc⟩;refine WS.unpack ?_;refine WS.callS rfl rfl M3 (fun u hu=>Dy [] _ r hr tb va vb vc hva hvb hvc (r.ths.l.map Thing.sr) (r.prs.l.map Pro.pl) (List.replicate r.ply.toNat 0) (by rw[List.length_map];exact hR.aus) hb hu) (fun _=>rfl) ?_;rintro o ⟨ho,hol⟩;refine Wz 2 ?_;refine Wv 1 8 ?_;refine Wd (Qc (Cr ?_))
 exact outR (Bx rfl (Au (j:=8) rfl rfl tk95) rfl) (by
   have hv:BeginV r=(27,no3):=(if_pos hc1).trans ((if_pos (CR.2 ⟨hc1,Mr hR⟩)).trans (by rw[JB (r:=r) (x:=Cf r) hb];rfl));rw[hv]
   exact fun u hu=>IF (f:=fun v=>.tuple #[v,.int .i64 (27)]) hu)
theorem Ji (r:Room) (w:World) (hr:RoomOk w r) (g:Sl ByteArray) (hG:GOk w g) (hn:Near r) (z:Stt) (hz:SttOk w z) (m:Move):
  Calls prog 149 #[.agg (rcl r).toArray,.agg #[z.ths.v,z.prs.v,z.pls.v],.agg #[.int .i64 m.p,.int .i64 m.k,.int .i64 m.n]] w (RetS w (StepV r z.x m).2 fun v=>.tuple #[v,.int .i64 (StepV r z.x m).1]):=by
 refine En func149 ?_;refine Nz 0 ?_;refine Wr 0 fun b3 hb3=>?_;refine Wr 0 fun b4 hb4=>?_;refine Wr 0 fun b5 hb5=>?_;refine Wq 1 zv95 fun b6 hb6=>?_;refine Nv 0 ?_;refine Wk 0 (Bb 3) ?_;refine Wk 0 (Bb 2) ?_;refine Wk 1 (Cb rfl rfl J1 (fun u hu=>B5 r u (hr.st hu) g (hG.st hu) hn z (hz.st hu))) ?_;refine Nx 2 ?_;refine Wp ?_ ?_<;>intro hc1
 ·have hS:¬stL r z.x=0:=hc1;refine Nz 0 ?_;refine Wk 1 (Db Ew zv95) ?_;refine Wv 1 0 ?_;refine Wd (Qc (Cr (Qr ?_)))
  exact outR (Bx rfl (Au (j:=0) rfl rfl tk95) rfl) (by
    have hv:StepV r z.x m=(stL r z.x,no3):=if_neg hS;rw[hv]
    exact fun u hu=>IF (f:=fun v=>.tuple #[v,.int .i64 (stL r z.x)]) hu)
 have hc1:CX r z=0:=hc1;have hc1:stL r z.x=0:=hc1;have hS:stL r z.x=0:=by omega
 obtain⟨hC,hI⟩:=CR.1 hS;have hR:=Cq hC;have hlen:=hR.lens;have hply:=hR.ply;have hlt:z.ths.l.length=r.ths.l.length:=hI.lt;have hlp:z.prs.l.length=r.prs.l.length:=hI.lp;have hll:(z.pls.l.length:Int)=r.ply:=hI.ll;refine Ck (Qc (Nz 0 ?_));refine Wk 0 (Bb 3) ?_;refine Wk 0 (Bb 2) ?_;refine Wc rfl rfl Ip (fun u hu=>Ns r u (hr.st hu) z (hz.st hu) (hI.small hR)) (fun _=>rfl) ?_;rintro⟨tb,va,vb,vc⟩ ⟨hva,hvb,hvc⟩;refine WS.unpack ?_;refine Wz 1 ?_;refine Nv 1 ?_;refine Wk 0 (Bb 5) ?_;refine Wk 1 (Cb rfl rfl UA (fun u hu=>MJ tb r ⟨⟨va,z.ths.l⟩,⟨vb,z.prs.l⟩,⟨vc,z.pls.l⟩⟩ u ⟨AD hu (j:=0) rfl,hr.st hu,(Ah hu (j:=1) rfl).tree,(Ah hu (j:=2) rfl).tree,(Ah hu (j:=3) rfl).tree⟩ hR hI m)) ?_;refine Wp ?_ ?_<;>intro hc2
 ·refine Nz 0 ?_;refine Wk 0 (Db Ew zv95) ?_;refine Wv 1 4 ?_;refine Wd (Qc (Cr (Qr ?_)))
  exact outR (Bx rfl (Au (j:=4) rfl rfl tk95) rfl) (by
    have hv:StepV r z.x m=(29,no3):=(if_pos hS).trans (if_neg (by rw[show legalB r z.x m=false from hc2];decide));rw[hv]
    exact fun u hu=>IF (f:=fun v=>.tuple #[v,.int .i64 (29)]) hu)
 refine Ck (Qc (Nz 1 ?_));refine Wk 0 (Bb 5) ?_;refine WS.callS rfl rfl Yn (fun u hu=>RW [] _ r hr hR tb va vb vc z.x hI m hc2 hu) (fun _=>rfl) ?_;rintro _ _;refine Wd (Qc (Cs ?_));rcases Bool.eq_false_or_eq_true ((settleN r.aus.l 101 (moveX r z.x m).1).isSome)with hb|hb
 ·refine Ny 1 ?_;refine WS.callS rfl rfl M3 (fun u hu=>Dy [] _ r hr tb va vb vc hva hvb hvc (moveX r z.x m).1 (moveX r z.x m).2.1 (moveX r z.x m).2.2 (by rw[Hr.1];exact hI.autos hR) hb hu) (fun _=>rfl) ?_;rintro o ⟨ho,hol⟩;refine Wz 2 ?_;refine Wv 1 4 ?_;refine Wd (Qc (Cr ?_))
  exact outR (Bx rfl (Au (j:=4) rfl rfl tk95) rfl) (by
    have hv:StepV r z.x m=(0,(o,(moveX r z.x m).2.1,(moveX r z.x m).2.2)):=(if_pos hS).trans ((if_pos hc2).trans (by rw[JH (r:=r) (x:=moveX r z.x m) hb ho];rfl));rw[hv]
    exact fun u hu=>retS (f:=fun v=>.tuple #[v,.int .i64 0]) (is:=[1,1,1]) rfl hu)
 refine Ny 1 ?_;refine WS.callS rfl rfl M3 (fun u hu=>Dy [] _ r hr tb va vb vc hva hvb hvc (moveX r z.x m).1 (moveX r z.x m).2.1 (moveX r z.x m).2.2 (by rw[Hr.1];exact hI.autos hR) hb hu) (fun _=>rfl) ?_;rintro o ⟨ho,hol⟩;refine Wz 2 ?_;refine Wv 1 4 ?_;refine Wd (Qc (Cr ?_))
 exact outR (Bx rfl (Au (j:=4) rfl rfl tk95) rfl) (by
   have hv:StepV r z.x m=(27,no3):=(if_pos hS).trans ((if_pos hc2).trans (by rw[JB (r:=r) (x:=moveX r z.x m) hb];rfl));rw[hv]
   exact fun u hu=>IF (f:=fun v=>.tuple #[v,.int .i64 (27)]) hu)
def mvV (x:Move):Value:=.agg #[.int .i64 x.p,.int .i64 x.k,.int .i64 x.n]
theorem Tg (r:Room) (w:World) (hr:RoomOk w r) (hR:Ready r) (b:Nat):
  Iter prog w 203 [.pointer (some ⟨b,0,none⟩)] [blk b (rcl r) 31] (fun v x=>fact (v=mvV x)) (allM r r.ply.toNat):=by
 intro lp C Cx hy u hu;have kpl:=hr.pls;have lpl:=hr.pls.le;have kth:=hr.ths;have lth:=hr.ths.le;have kpr:=hr.prs;have lpr:=hr.prs.le;have kwy:=hr.wys;have lwy:=hr.wys.le;have kac:=hr.acs;have lac:=hr.acs.le;have kau:=hr.aus;have lau:=hr.aus.le;have kgl:=hr.gl;have lgl:=hr.gl.le;have hply:=hR.ply;have hlen:=hR.lens;have hc5:(cntL r).length=5:=rfl;refine Ei hu func203 ?_;refine Nz 1 ?_;refine Wk 1 (Ba 1) ?_;refine Nu ?_;refine CS.loopM (σ:=Int) (rsL [3,6,10,44]) (fun s=>[(9,.int .i64 s)]) (fun s=>[C (upM r s 0 0),blk b (rcl r) 31]) (fun s=>0≤s∧s≤r.ply) (fun s=>(r.ply-s).toNat) 0 (fun _ _=>rfl) rfl rfl ⟨by omega,by omega⟩ ?_;intro p t hs;obtain⟨hp1,hp2⟩:=hs;refine Nz 1 ?_;refine Wd (Qc (Cs (Cn ?_ ?_)))<;>intro hc1
 ·refine Ck (Qc (Cs (Ce (Nz 2 ?_))));refine Nx 1 ?_;refine Wk 0 (Ba 1) ?_;refine Wk 1 Nc ?_;refine Wk 0 (Ba 1) ?_;refine Wk 1 Nc ?_;refine Wk 0 (Ba 1) ?_;refine Wk 1 Nc ?_;refine Wk 0 (Ba 1) ?_;refine Wk 0 Nc ?_;refine WS.buildHole sl37 zv3 rfl rfl rfl rfl (fun _=>rfl) ?_;intro v24;refine Wk 1 (Km (xs:=cntL r) (j:=0) sl37 rfl rfl) ?_;refine Nu ?_;refine CS.sel [1,0,0] rfl ?_;refine CS.loopM (σ:=Int) (rsL [4,6,27,43]) (fun s=>[(26,.int .i64 s)]) (fun s=>[C (upM r p s 0),oints 3 v24 (cntL r),blk b (rcl r) 31]) (fun s=>0≤s∧s≤5) (fun s=>(5-s).toNat) 0 (fun _ _=>rfl) rfl rfl ⟨by omega,by omega⟩ ?_;intro k t hs;obtain⟨hk1,hk2⟩:=hs;refine Nz 1 ?_;refine Wd (Qc (Cs (Cn ?_ ?_)))<;>intro hc2
  ·have hca:=Qm r hk1 (by omega)
   have hcm:0≤nth (cntL r) k∧nth (cntL r) k≤24:=by
      have hbig:(cntM r k.toNat:Int)≤24:=by
       rcases(show k=0∨k=1∨k=2∨k=3∨k=4 by omega)with h|h|h|h|h<;>subst h<;>simp[cntM]<;>omega
      omega
   refine Ck (Qc (Cs (Ce (Nz 1 ?_))));refine Wk 0 (Xb 1) ?_;refine Wk 2 (Ib 1) ?_;refine Nx 2 ?_;refine Nu ?_;refine CS.loopM (σ:=Int) (rsL [6,6,33,42]) (fun s=>[(32,.int .i64 s)]) (fun s=>[C (upM r p k s),oints 3 v24 (cntL r),blk b (rcl r) 31]) (fun s=>0≤s∧s≤nth (cntL r) k) (fun s=>(nth (cntL r) k-s).toNat) 0 (fun _ _=>rfl) rfl rfl ⟨by omega,by omega⟩ ?_;intro n t hs;obtain⟨hn1,hn2⟩:=hs;refine Nz 1 ?_;refine Wd (Qc (Cs (Cn ?_ ?_)))<;>intro hc3
   ·obtain⟨post,hspl⟩:=P9 (r:=r) (p:=p) (j:=k) (n:=n) ⟨hp1,by omega⟩ ⟨hk1,by omega⟩ ⟨hn1,by omega⟩;refine Ck (Qc (Cs (Ce (Nz 2 ?_))));refine Nx 4 ?_;refine Wk 0 (Db W3 zv49) ?_;refine WS.yield (L':=fun b'=>[cond b' (C (upM r p k n++[(⟨p,k,n⟩:Move)])) (Cx (upM r p k n++[(⟨p,k,n⟩:Move)])),oints 3 v24 (cntL r),blk b (rcl r) 31]) rfl rfl rfl (fun u hu=>(EO (B:=fact (mvV ⟨p,k,n⟩=mvV ⟨p,k,n⟩)) (fun F' u' hu'=>hy _ _ _ hspl F' _ u' hu') (hu.factI rfl)).mono (fun e u' h=>let⟨b',he,hs⟩:=h;⟨b',he,hs.tail⟩)) (fun _=>rfl) ?_;intro b';refine Wz 1 ?_;refine Wp ?_ ?_<;>intro hc4
    ·obtain rfl:b'=false:=by simpa using hc4
     exact Cr (Qs (Qr (Qr (Qs (Qs (Qr (Qr (Qs (Qs (Qr (Qr (Qs (out0 (Or.inl rfl) rfl (fun u hu=>⟨⟨_,rfl⟩,.inr ⟨_,_,_,hspl,hu.sel [0,1] rfl⟩⟩))))))))))))))
    obtain rfl:b'=true:=by simpa using hc4
    refine Ck (Qb (Qc (Ny 0 ?_)));refine Wk 1 Za ?_;exact Wd (QS.head (n+1) rfl (by rw[←MN hn1];rfl) ⟨⟨by omega,by omega⟩,by omega⟩)
   refine Cv (Qe (Qe (Qx (Qb (Qc (Ny 0 ?_))))));refine Wk 1 Za ?_;exact Wd (QS.head (k+1) rfl (by rw[←Ja5 hk1,←Qm r hk1 (by omega),show n=nth (cntL r) k by omega]) ⟨⟨by omega,by omega⟩,by omega⟩)
  refine Cv (Qe (Qe (Qx (Qb (Qc (Ny 0 ?_))))));refine Wk 1 Za ?_;refine Wd ?_;refine QS.sel [0,1] rfl ?_;exact QS.head (p+1) rfl (by simp only[←Jbe hp1,show k=5 by omega]) ⟨⟨by omega,by omega⟩,by omega⟩
 exact Cv (Qe (Qe (Qx (out0 (Or.inr rfl) rfl (fun u hu=>⟨⟨_,rfl⟩,.inl (by rw[←WM r (p:=p) (by omega)];exact hu)⟩)))))
theorem VK (r:Room) (w:World):
  Calls prog 165 #[.agg (rcl r).toArray] w (fun e w'=>∃b:Nat,True∧RetF w (.func (.func 203) #[] #[.pointer (some ⟨b,0,none⟩)]) (blk b (rcl r) 31) e w'):=by
 refine En func165 ?_;refine Nz 0 ?_;refine Wr 1 fun b1 hb1=>?_;refine Nx 0 ?_;refine Wk 1 (Al rfl) ?_;exact Wd (Qc (Cr (out1 rfl rfl (fun u hu=>⟨b1,trivial,retF (j:=0) rfl u hu⟩))))
theorem Sp (r:Room) (w:World) (hr:RoomOk w r) (g:Sl ByteArray) (hG:GOk w g) (hn:Near r) (z:Stt) (hz:SttOk w z):
  Calls prog 132 #[.agg (rcl r).toArray,.agg #[z.ths.v,z.prs.v,z.pls.v]] w (RetM w (LegalV r z.x).2 fun v=>.tuple #[v,.int .i64 (LegalV r z.x).1]):=by
 refine L4 St.nil func132 rfl rfl (Nat.le_of_ble_eq_true rfl) ?_;refine Nz 0 ?_;refine Wr 0 fun b2 hb2=>?_;refine Wr 0 fun b3 hb3=>?_;refine Wq 1 zv42 fun b4 hb4=>?_;refine Nv 0 ?_;refine Wk 0 (Bb 2) ?_;refine Wk 0 (Bb 1) ?_;refine Wk 1 (Cb rfl rfl J1 (fun u hu=>B5 r u (hr.st hu) g (hG.st hu) hn z (hz.st hu))) ?_;refine Nx 2 ?_;refine Wp ?_ ?_<;>intro hc1
 ·have hS:¬stL r z.x=0:=hc1;refine Nz 1 ?_;refine Ws 1 0 ?_;refine Wd (Qc (Cr (Qr ?_)))
  exact outE (Or.inl rfl) (Bx rfl (IY (j:=0) rfl rfl rfl tk42) rfl) (by
    have hv:LegalV r z.x=(stL r z.x,[]):=if_neg hS;rw[hv]
    exact fun u hu=>Yu (f:=fun v=>.tuple #[v,.int .i64 (stL r z.x)]) hu)
 have hc1:CX r z=0:=hc1;have hc1:stL r z.x=0:=hc1;have hS:stL r z.x=0:=by omega
 obtain⟨hC,hI⟩:=CR.1 hS;have hR:=Cq hC;have hlen:=hR.lens;have hply:=hR.ply;have hlt:z.ths.l.length=r.ths.l.length:=hI.lt;have hlp:z.prs.l.length=r.prs.l.length:=hI.lp;have hll:(z.pls.l.length:Int)=r.ply:=hI.ll;refine Ck (Qc (Nz 0 ?_));refine Wk 0 (Bb 2) ?_;refine Wk 0 (Bb 1) ?_;refine Wc rfl rfl Ip (fun u hu=>Ns r u (hr.st hu) z (hz.st hu) (hI.small hR)) (fun _=>rfl) ?_;rintro⟨tb,va,vb,vc⟩ ⟨hva,hvb,hvc⟩;refine WS.unpack ?_;refine Wq 0 Jay fun b7 hb7=>?_;refine Ws 0 0 ?_;refine Nv 0 ?_;refine Wk 0 (Bb 7) ?_;refine Wc rfl rfl ZH (fun u hu=>VK r u) (fun _=>rfl) ?_;intro bm _;refine Nu ?_;refine CS.sel [6,2,2,2,2,1,0] rfl ?_;refine CS.weak (L':=[exS fun q:Value=>star [blk b4 [q] 42,oT cMove 49 q ([])],blk tb [r.pls.v,r.ths.v,r.prs.v,r.wys.v,r.acs.v,r.aus.v,.int .i64 r.ply,r.gl.v,va,vb,vc] 246,oints 3 va (z.ths.l),oints 3 vb (z.prs.l),oints 3 vc (z.pls.l),blk b7 [.pointer (some ⟨tb,0,none⟩)] 221]++[blk bm (rcl r) 31]) (fun u hu=>St.exI (Value.slice none 0 0) (St.pack (L1:=[_,_]) ((hu.osl0 (e:=49) (size:=3)).sel [1,0,0,0,0,0,0,0] rfl))) ?_;refine CS.rangeB (V:=mvV) (cMove.cells) (fun _=>rfl) (fun _=>rfl) (fun x=>cMove.one w x trivial) zv49 rfl tk49 (by decide) (A:=[blk bm (rcl r) 31]) rfl YA (Tg r w hr hR bm) (fun pre=>[exS fun q:Value=>star [blk b4 [q] 42,oT cMove 49 q (pre.filter (legalB r z.x))],blk tb [r.pls.v,r.ths.v,r.prs.v,r.wys.v,r.acs.v,r.aus.v,.int .i64 r.ply,r.gl.v,va,vb,vc] 246,oints 3 va (z.ths.l),oints 3 vb (z.prs.l),oints 3 vc (z.pls.l),blk b7 [.pointer (some ⟨tb,0,none⟩)] 221]) (fun kd pre=>match kd with|_=>[fact False]) (fun _=>rfl) (Nat.le_of_ble_eq_true rfl) (fun _ _=>rfl) (fun _=>Nat.le_of_ble_eq_true rfl) ?_ ?_ ?_
 ·intro lr pre x post v b8 F hall;have hal:=M0 hR r.ply.toNat;rw[hall]at hal;simp only[List.length_append,List.length_cons]at hal;have hfl:=List.length_filter_le (legalB r z.x) pre;refine CS.factE (j:=1) rfl (fun hv=>?_);subst hv;refine CS.sel [2,0,0,0,0,0,0,0,0] rfl ?_;refine CS.ex ?_;intro q;refine CS.unpack ?_;refine Ce (Nz 0 ?_);refine Wk 0 (Ba 8) ?_;refine Wk 0 (Bb 2) ?_;refine Wk 0 (Cb rfl rfl UA (fun u hu=>MJ tb r ⟨⟨va,z.ths.l⟩,⟨vb,z.prs.l⟩,⟨vc,z.pls.l⟩⟩ u ⟨AD hu (j:=4) rfl,hr.st hu,(Ah hu (j:=5) rfl).tree,(Ah hu (j:=6) rfl).tree,(Ah hu (j:=7) rfl).tree⟩ hR hI x)) ?_;refine Wp ?_ ?_<;>intro hc2
  ·have hc2:legalB r z.x x=true:=hc2;refine Ny 0 ?_;refine Wk 0 (Ba 0) ?_;refine Wk 0 (Bb 2) ?_;refine WS.buildT1 cMove (a:=x) sl42 zv49 rfl (by decide) (fun _=>rfl) ?_;intro v26;refine WS.appendT1 (j:=2) (jz:=0) sl42 zv49 rfl (by decide) rfl rfl rfl rfl (w:=w) trivial (by omega) (by omega) (fun _=>rfl) (fun _=>rfl) ?_;intro v27 hv27;refine Ws 0 1 ?_;refine Wd (Qb ?_);refine QS.sel [1,1,2,2,2,2,2,2,2] rfl ?_
   exact fun u hu=>by
    change St _ _ (_::(_++[_])) u
    dsimp only;rw[List.filter_append,show[x].filter (legalB r z.x)=[x] by simp[hc2]];exact St.perm (St.exI (f:=fun q:Value=>star [blk b4 [q] 42,oT cMove 49 q (pre.filter (legalB r z.x)++[x])]) v27 (St.pack (L1:=[_,_]) hu)) (List.Perm.swap _ _ _)
  have hc2:legalB r z.x x=false:=hc2;refine Ck (Qb ?_);refine QS.sel [0,0,1,1,1,1,1,1,1] rfl ?_
  exact fun u hu=>by
   change St _ _ (_::(_++[_])) u
   dsimp only;rw[List.filter_append,show[x].filter (legalB r z.x)=[] by simp[hc2],List.append_nil];exact St.perm (St.exI (f:=fun q:Value=>star [blk b4 [q] 42,oT cMove 49 q (pre.filter (legalB r z.x))]) q (St.pack (L1:=[_,_]) hu)) (List.Perm.swap _ _ _)
 ·intro D;refine QS.sel [1,0] rfl ?_;refine QS.ex ?_;intro q;refine QS.unpack ?_;refine QS.oc (j:=1) rfl (fun hq=>?_);refine Qb (Qc (Nz 0 ?_));refine Wk 0 (Ba 0) ?_;refine Ws 1 0 ?_;refine Wd (Qc (Cr ?_))
  exact outM (j:=2) (Or.inl rfl) rfl (Bx rfl (IY (j:=0) rfl rfl rfl tk42) rfl) (by
    have hv:LegalV r z.x=(0,(allM r r.ply.toNat).filter (legalB r z.x)):=(if_pos hS).trans (by rw[Hg hR];rfl);rw[hv]
    exact fun u hu=>retM (f:=fun v=>.tuple #[v,.int .i64 0]) (j:=1) rfl hu)
 intro D kd pre x post hall;cases kd with
 |_=>exact fun u hu=>(hu.factE (j:=1) rfl).elim
theorem ZX (r:Room) (w:World) (hr:RoomOk w r):
  Calls prog 44 #[.agg (rcl r).toArray] w (RetB w (.bool (!clB (Near r)))):=by
 have kpl:=hr.pls;have lpl:=hr.pls.le;have kth:=hr.ths;have lth:=hr.ths.le;have kpr:=hr.prs;have lpr:=hr.prs.le;have kwy:=hr.wys;have lwy:=hr.wys.le;have kac:=hr.acs;have lac:=hr.acs.le;have kau:=hr.aus;have lau:=hr.aus.le;have kgl:=hr.gl;have lgl:=hr.gl.le;refine En func44 ?_;refine Nz 0 ?_;refine Wr 1 fun b1 hb1=>?_;refine Nv 1 ?_;refine Wk 0 (Ba 0) ?_;refine Wk 2 Nc ?_;refine We 0 ?_;refine We 0 ?_;refine We 0 ?_;refine We 0 ?_;refine Wk 1 Po ?_;refine We 0 ?_;refine We 0 ?_;refine We 0 ?_;refine We 0 ?_;refine Wk 1 Po ?_;refine We 0 ?_;refine We 0 ?_;refine We 0 ?_;refine We 0 ?_;refine Wk 1 Po ?_;refine We 0 ?_;refine We 0 ?_;refine We 0 ?_;refine We 0 ?_;refine Wk 1 Po ?_;refine We 0 ?_;refine We 0 ?_;refine We 0 ?_;refine We 0 ?_;refine Wk 1 Po ?_;refine We 0 ?_;refine We 0 ?_;refine We 0 ?_;refine We 0 ?_;refine Wk 0 Po ?_;refine Wp ?_ ?_<;>intro hc1
 ·refine Nz 1 ?_;exact Wd (Qc (Cr (Qr (out1 rfl rfl (Ab (by rw[Hc (fun h=>by have:=h.pls;have:=h.ths;have:=h.prs;have:=h.wys;have:=h.acs;have:=h.aus;have:=h.gl;omega)];rfl))))))
 refine Ck (Qc (Cs (Nz 1 ?_)));refine Nu ?_;refine CS.loopM (σ:=Int) (rsL [2,2,50,63]) (fun s=>[(3,.int .i64 s)]) (fun _=>_) (fun s=>0≤s∧s≤r.pls.l.length∧∀j:Int,0≤j→j<s→(nth r.pls.l j).size≤100) (fun s=>(r.pls.l.length-s).toNat) 0 (fun _ _=>rfl) rfl rfl ⟨by omega,by omega,fun j _ _=>by omega⟩ ?_;intro a t hs;obtain⟨ha1,ha2,ha3⟩:=hs;refine Cs (Nz 2 ?_);refine Wk 0 (Ba 0) ?_;refine Wk 1 Nc ?_;refine Wp ?_ ?_<;>intro hc2
 ·refine Ck (Qc (Cs (Ce (Nz 1 ?_))));refine Wk 1 (Ba 0) ?_;refine Wk 0 Xc ?_;refine Wk 0 Ub ?_;refine Wk 1 (A2 underlying9 rfl) ?_;refine Wp ?_ ?_<;>intro hc3
  ·refine Nz 1 ?_;exact Wd (Qc (Cr (Qs (Qr (Qr (Qs (Qr (out1 rfl rfl (Ab (by rw[Hc (fun h=>by have:=h.pl _ (Ad ha1 (by omega));omega)];rfl))))))))))
  refine Ck (Qb (Qc (Ny 1 ?_)));refine Wk 1 Za ?_;refine Wd ?_
  exact QS.head (a+1) rfl rfl ⟨⟨by omega,by omega,fun j h0 h1=>by
     rcases(show j<a∨j=a by omega)with h|h
     ·exact ha3 j h0 h
     rw[h];omega⟩,by omega⟩
 refine Cv (Qe (Qe (Qx (Qc (Cs (Nz 1 ?_))))));refine Nu ?_;refine CS.loopM (σ:=Int) (rsL [2,2,64,78]) (fun s=>[(4,.int .i64 s)]) (fun _=>_) (fun s=>0≤s∧s≤r.ths.l.length∧∀j:Int,0≤j→j<s→(nth r.ths.l j).nm.size≤100) (fun s=>(r.ths.l.length-s).toNat) 0 (fun _ _=>rfl) rfl rfl ⟨by omega,by omega,fun j _ _=>by omega⟩ ?_;intro b t hs;obtain⟨hb1,hb2,hb3⟩:=hs;refine Cs (Nz 2 ?_);refine Wk 0 (Ba 0) ?_;refine Wk 1 Nc ?_;refine Wp ?_ ?_<;>intro hc4
 ·refine Ck (Qc (Cs (Ce (Nz 1 ?_))));refine Wk 1 (Ba 0) ?_;refine Wk 1 Xc ?_;refine Wk 0 (Uc 4 0) ?_;refine Wk 1 (A2 underlying9 rfl) ?_;refine Wp ?_ ?_<;>intro hc5
  ·refine Nz 1 ?_;exact Wd (Qc (Cr (Qs (Qr (Qr (Qs (Qr (out1 rfl rfl (Ab (by rw[Hc (fun h=>by have:=h.th _ (Ad hb1 (by omega));omega)];rfl))))))))))
  refine Ck (Qb (Qc (Ny 1 ?_)));refine Wk 1 Za ?_;refine Wd ?_
  exact QS.head (b+1) rfl rfl ⟨⟨by omega,by omega,fun j h0 h1=>by
     rcases(show j<b∨j=b by omega)with h|h
     ·exact hb3 j h0 h
     rw[h];omega⟩,by omega⟩
 refine Cv (Qe (Qe (Qx (Qc (Cs (Nz 1 ?_))))));refine Nu ?_;refine CS.loopM (σ:=Int) (rsL [2,2,79,103]) (fun s=>[(5,.int .i64 s)]) (fun _=>_) (fun s=>0≤s∧s≤r.prs.l.length∧∀j:Int,0≤j→j<s→((nth r.prs.l j).nm.size≤100∧(nth r.prs.l j).wh.l.length≤20)) (fun s=>(r.prs.l.length-s).toNat) 0 (fun _ _=>rfl) rfl rfl ⟨by omega,by omega,fun j _ _=>by omega⟩ ?_;intro d t hs;obtain⟨hd1,hd2,hd3⟩:=hs;refine Cs (Nz 2 ?_);refine Wk 0 (Ba 0) ?_;refine Wk 1 Nc ?_;refine Wp ?_ ?_<;>intro hc6
 ·have hwh:SlT cLit w (nth r.prs.l d).wh:=hr.prs.at hd1 (by omega);refine Ck (Qc (Cs (Ce (Nz 1 ?_))));refine Wk 1 (Ba 0) ?_;refine Wk 1 Xc ?_;refine Wk 0 (Uc 3 0) ?_;refine Wk 2 (A2 underlying9 rfl) ?_;refine We 0 ?_;refine We 0 ?_;refine We 0 ?_;refine We 0 ?_;refine We 0 ?_;refine Wf 0 rfl rfl (fun hg=>Uc 3 2) ?_;refine We 0 ?_;refine We 0 ?_;refine Wk 0 Po ?_;refine Wp ?_ ?_<;>intro hc7
  ·refine Nz 1 ?_;exact Wd (Qc (Cr (Qs (Qr (Qr (Qs (Qr (out1 rfl rfl (Ab (by rw[Hc (fun h=>by have:=h.pr _ (Ad hd1 (by omega));omega)];rfl))))))))))
  refine Ck (Qb (Qc (Ny 1 ?_)));refine Wk 1 Za ?_;refine Wd ?_
  exact QS.head (d+1) rfl rfl ⟨⟨by omega,by omega,fun j h0 h1=>by
     rcases(show j<d∨j=d by omega)with h|h
     ·exact hd3 j h0 h
     rw[h];omega⟩,by omega⟩
 refine Cv (Qe (Qe (Qx (Qc (Cs (Nz 1 ?_))))));refine Nu ?_;refine CS.loopM (σ:=Int) (rsL [2,2,104,118]) (fun s=>[(6,.int .i64 s)]) (fun _=>_) (fun s=>0≤s∧s≤r.wys.l.length∧∀j:Int,0≤j→j<s→(nth r.wys.l j).wh.l.length≤20) (fun s=>(r.wys.l.length-s).toNat) 0 (fun _ _=>rfl) rfl rfl ⟨by omega,by omega,fun j _ _=>by omega⟩ ?_;intro e t hs;obtain⟨he1,he2,he3⟩:=hs;refine Cs (Nz 2 ?_);refine Wk 0 (Ba 0) ?_;refine Wk 1 Nc ?_;refine Wp ?_ ?_<;>intro hc8
 ·have hwh:SlT cLit w (nth r.wys.l e).wh:=hr.wys.at he1 (by omega);refine Ck (Qc (Cs (Ce (Nz 1 ?_))));refine Wk 1 (Ba 0) ?_;refine Wk 1 Xc ?_;refine Wk 0 (Uc 3 2) ?_;refine Wk 1 Nc ?_;refine Wp ?_ ?_<;>intro hc9
  ·refine Nz 1 ?_;exact Wd (Qc (Cr (Qs (Qr (Qr (Qs (Qr (out1 rfl rfl (Ab (by rw[Hc (fun h=>by have:=h.wy _ (Ad he1 (by omega));omega)];rfl))))))))))
  refine Ck (Qb (Qc (Ny 1 ?_)));refine Wk 1 Za ?_;refine Wd ?_
  exact QS.head (e+1) rfl rfl ⟨⟨by omega,by omega,fun j h0 h1=>by
     rcases(show j<e∨j=e by omega)with h|h
     ·exact he3 j h0 h
     rw[h];omega⟩,by omega⟩
 refine Cv (Qe (Qe (Qx (Qc (Cs (Nz 1 ?_))))));refine Nu ?_;refine CS.loopM (σ:=Int) (rsL [2,2,8,8,119,164]) (fun s=>[(7,.int .i64 s)]) (fun _=>_) (fun s=>0≤s∧s≤r.acs.l.length∧∀j:Int,0≤j→j<s→((nth r.acs.l j).nm.size≤100∧(nth r.acs.l j).wh.l.length≤20∧(nth r.acs.l j).us.l.length≤20∧(nth r.acs.l j).se.l.length≤20∧(nth r.acs.l j).sp.l.length≤20∧(nth r.acs.l j).br.l.length≤20)) (fun s=>(r.acs.l.length-s).toNat) 0 (fun _ _=>rfl) rfl rfl ⟨by omega,by omega,fun j _ _=>by omega⟩ ?_;intro f t hs;obtain⟨hf1,hf2,hf3⟩:=hs;refine Cs (Nz 2 ?_);refine Wk 0 (Ba 0) ?_;refine Wk 1 Nc ?_;refine Wp ?_ ?_<;>intro hc10
 ·have hak:ActOk w (nth r.acs.l f):=hr.acs.at hf1 (by omega);have a1:=hak.us.ints;have a2:=hak.wh;have a3:=hak.se;have a4:=hak.sp.ints;have a5:=hak.br.ints;refine Ck (Qc (Cs (Ce (Nz 1 ?_))));refine Wk 1 (Ba 0) ?_;refine Wk 0 Xc ?_;refine Wk 0 Ua ?_;refine Wq 0 G1 fun b8 hb8=>?_;refine Wv 0 0 ?_;refine Nx 1 ?_;refine Wk 0 (Ba 0) ?_;refine Wk 2 (A2 underlying9 rfl) ?_;refine We 0 ?_;refine We 0 ?_;refine We 0 ?_;refine We 0 ?_;refine Wk 1 Po ?_;refine We 0 ?_;refine We 0 ?_;refine We 0 ?_;refine We 0 ?_;refine Wk 1 Po ?_;refine We 0 ?_;refine We 0 ?_;refine We 0 ?_;refine We 0 ?_;refine Wk 1 Po ?_;refine We 0 ?_;refine We 0 ?_;refine We 0 ?_;refine We 0 ?_;refine Wk 1 Po ?_;refine We 0 ?_;refine We 0 ?_;refine We 0 ?_;refine We 0 ?_;refine Wk 0 Po ?_;refine Wp ?_ ?_<;>intro hc11
  ·refine Nz 1 ?_;exact Wd (Qc (Cr (Qs (Qr (Qr (Qs (Qr (out1 rfl rfl (Ab (by rw[Hc (fun h=>by have:=h.ac _ (Ad hf1 (by omega));omega)];rfl))))))))))
  refine Ck (Qb (Qc (Ny 1 ?_)));refine Wk 1 Za ?_;refine Wd ?_;refine QS.sel [1] rfl ?_
  exact QS.head (f+1) rfl rfl ⟨⟨by omega,by omega,fun j h0 h1=>by
     rcases(show j<f∨j=f by omega)with h|h
     ·exact hf3 j h0 h
     rw[h];omega⟩,by omega⟩
 refine Cv (Qe (Qe (Qx (Qc (Cs (Nz 1 ?_))))));refine Nu ?_;refine CS.loopM (σ:=Int) (rsL [2,2,165,179]) (fun s=>[(9,.int .i64 s)]) (fun _=>_) (fun s=>0≤s∧s≤r.aus.l.length∧∀j:Int,0≤j→j<s→(nth r.aus.l j).wh.l.length≤20) (fun s=>(r.aus.l.length-s).toNat) 0 (fun _ _=>rfl) rfl rfl ⟨by omega,by omega,fun j _ _=>by omega⟩ ?_;intro k t hs;obtain⟨hk1,hk2,hk3⟩:=hs;refine Cs (Nz 2 ?_);refine Wk 0 (Ba 0) ?_;refine Wk 1 Nc ?_;refine Wp ?_ ?_<;>intro hc12
 ·have hwh:SlT cLit w (nth r.aus.l k).wh:=hr.aus.at hk1 (by omega);refine Ck (Qc (Cs (Ce (Nz 1 ?_))));refine Wk 1 (Ba 0) ?_;refine Wk 1 Xc ?_;refine Wk 0 (Uc 3 0) ?_;refine Wk 1 Nc ?_;refine Wp ?_ ?_<;>intro hc13
  ·refine Nz 1 ?_;exact Wd (Qc (Cr (Qs (Qr (Qr (Qs (Qr (out1 rfl rfl (Ab (by rw[Hc (fun h=>by have:=h.au _ (Ad hk1 (by omega));omega)];rfl))))))))))
  refine Ck (Qb (Qc (Ny 1 ?_)));refine Wk 1 Za ?_;refine Wd ?_
  exact QS.head (k+1) rfl rfl ⟨⟨by omega,by omega,fun j h0 h1=>by
     rcases(show j<k∨j=k by omega)with h|h
     ·exact hk3 j h0 h
     rw[h];omega⟩,by omega⟩
 refine Cv (Qe (Qe (Qx (Qc (Nz 1 ?_)))));exact Wd (Qc (Cr (out1 rfl rfl (Ab (by rw[Vj ⟨by omega,by omega,by omega,by omega,by omega,by omega,by omega,DA hc2 ha3,DA hc4 hb3,DA hc6 hd3,DA hc8 he3,DA hc10 hf3,DA hc12 hk3⟩];rfl)))))
end Go.Proofs.YtmoojmgihdgceaaGreatDoor
