/- Merged texts of this proof. -/
import Derived.Test.YtllebkdchemabaaGreatDoorZh
import Derived.Test.YtllebkdchemabaaGreatDoorZb
set_option maxHeartbeats 8000000
namespace Go.Proofs.YtllebkdchemabaaGreatDoor
open Go.RowKit Go.Proofs Tryz
set_option maxRecDepth 100000
set_option linter.unusedVariables false
set_option linter.unusedSimpArgs false
variable {u:World}
theorem St.out4 {n0:Nat} {w0:World} {A B:List SA} {t a b c:SA} (h:St n0 w0 (A++[t,a,b,c]++B) u):St n0 w0 [t,a,b,c,YtllebkdchemabaaGreatDoor.star (A++B)] u:=by
 have h1:St n0 w0 ((A++B)++[t,a,b,c]) u:=h.perm (by
  rw[List.append_assoc,List.append_assoc]
  exact List.Perm.append_left A List.perm_append_comm)
 have h2:=h1.pack
 exact h2.perm (by
  show([YtllebkdchemabaaGreatDoor.star (A++B)]++[t,a,b,c]).Perm ([t,a,b,c]++[YtllebkdchemabaaGreatDoor.star (A++B)])
  exact List.perm_append_comm)
theorem St.in4 {n0:Nat} {w0:World} {A B:List SA} {t a b c:SA} (h:St n0 w0 [t,a,b,c,YtllebkdchemabaaGreatDoor.star (A++B)] u):St n0 w0 (A++[t,a,b,c]++B) u:=by
 have h1:St n0 w0 (YtllebkdchemabaaGreatDoor.star (A++B)::[t,a,b,c]) u:=h.perm (by
  show([t,a,b,c]++[YtllebkdchemabaaGreatDoor.star (A++B)]).Perm ([YtllebkdchemabaaGreatDoor.star (A++B)]++[t,a,b,c])
  exact List.perm_append_comm)
 have h2:=h1.unpack
 exact h2.perm (by
  rw[List.append_assoc,List.append_assoc]
  exact List.Perm.append_left A List.perm_append_comm)
variable {w:World}
theorem Q0 (A B:List SA) (r:Room) (hr:RoomOk w r) (tb:Nat) (va vb vc:Value) (ths prs pls:List Int) (ha:GM r.aus.l ths.length) (hu:St w.heap.size w (A++[blk tb [r.pls.v,r.ths.v,r.prs.v,r.wys.v,r.acs.v,r.aus.v,.int .i64 r.ply,r.gl.v,va,vb,vc] 281,oints 3 va ths,oints 3 vb prs,oints 3 vc pls]++B) u):
  Calls prog 218 #[.pointer (some ⟨tb,0,none⟩)] u (fun e u'=>∃o:List Int,((∀t,settleN r.aus.l 101 ths=some t->o=t)/\o.length=ths.length)/\e = .returned (.bool (settleN r.aus.l 101 ths).isSome)/\St w.heap.size w (A++[blk tb [r.pls.v,r.ths.v,r.prs.v,r.wys.v,r.acs.v,r.aus.v,.int .i64 r.ply,r.gl.v,va,vb,vc] 281,oints 3 va o,oints 3 vb prs,oints 3 vc pls]++B) u'):=by
 refine Calls.mono (UI (star (A++B)) r hr tb va vb vc ths prs pls ha hu.out4) ?_;rintro e u' ⟨o,h1,h2,h3⟩;exact⟨o,h1,h2,h3.in4⟩
theorem Xv (A B:List SA) (r:Room) (hr:RoomOk w r) (hR:Ready r) (tb:Nat) (va vb vc:Value) (x:P3) (hI:StIn r x) (m:Move) (hL:legalB r x m=true) (hu:St w.heap.size w (A++[blk tb [r.pls.v,r.ths.v,r.prs.v,r.wys.v,r.acs.v,r.aus.v,.int .i64 r.ply,r.gl.v,va,vb,vc] 281,oints 3 va x.1,oints 3 vb x.2.1,oints 3 vc x.2.2]++B) u):
  Calls prog 293 #[.pointer (some ⟨tb,0,none⟩),.agg #[.int .i64 m.p,.int .i64 m.k,.int .i64 m.n]] u (fun e u'=>∃_q:Unit,True/\e = .returned (.tuple #[])/\St w.heap.size w (A++[blk tb [r.pls.v,r.ths.v,r.prs.v,r.wys.v,r.acs.v,r.aus.v,.int .i64 r.ply,r.gl.v,va,vb,vc] 281,oints 3 va (moveX r x m).1,oints 3 vb (moveX r x m).2.1,oints 3 vc (moveX r x m).2.2]++B) u'):=by
 refine Calls.mono (Jag (star (A++B)) r hr hR tb va vb vc x hI m hL hu.out4) ?_;rintro e u' ⟨o,h1,h2,h3⟩;exact⟨o,h1,h2,h3.in4⟩
def sres (va vb vc:Value):Bool->Value
 |true=>.tuple #[.agg #[va,vb,vc],.int .i64 0]
 |false=>.tuple #[.agg #[.slice none 0 0,.slice none 0 0,.slice none 0 0],.int .i64 27]
variable {r:Room}
theorem KW {x:P3} {o:List Int} (h:(settleN r.aus.l 101 x.1).isSome=true) (ho:∀t,settleN r.aus.l 101 x.1=some t->o=t):settleV r x=some (o,x.2.1,x.2.2):=by
 unfold settleV;obtain⟨t,ht⟩:=Option.isSome_iff_exists.1 h;rw[ho t ht,ht];rfl
theorem Ll {x:P3} (h:(settleN r.aus.l 101 x.1).isSome=false):settleV r x=none:=by
 unfold settleV;rw[Option.isSome_eq_false_iff,Option.isNone_iff_eq_none]at h;rw[h];rfl
theorem Qu (R:SA) (r:Room) (hr:RoomOk w r) (tb:Nat) (va vb vc:Value) (hva:va.oneCell'=true) (hvb:vb.oneCell'=true) (hvc:vc.oneCell'=true) (ths prs pls:List Int) (ha:GM r.aus.l ths.length) (hu:St w.heap.size w [blk tb [r.pls.v,r.ths.v,r.prs.v,r.wys.v,r.acs.v,r.aus.v,.int .i64 r.ply,r.gl.v,va,vb,vc] 281,oints 3 va (ths),oints 3 vb prs,oints 3 vc pls,R] u):
  Calls prog 135 #[.pointer (some ⟨tb,0,none⟩)] u (fun e u'=>∃o:List Int,((∀t,settleN r.aus.l 101 ths=some t->o=t)/\o.length=ths.length)/\e = .returned (sres va vb vc (settleN r.aus.l 101 ths).isSome)/\St w.heap.size w [blk tb [r.pls.v,r.ths.v,r.prs.v,r.wys.v,r.acs.v,r.aus.v,.int .i64 r.ply,r.gl.v,va,vb,vc] 281,oints 3 va (o),oints 3 vb prs,oints 3 vc pls,R] u'):=by
 refine Ei hu func135 ?_;refine Nz 0 ?_;refine Wq 1 zv50 fun b2 hb2=>?_;refine Nv 1 ?_;refine WS.callS rfl rfl Jd9 (fun u hu=>Q0 [blk b2 [.slice none 0 0,.slice none 0 0,.slice none 0 0] 50] [R] r hr tb va vb vc ths prs pls ha hu) (fun _=>rfl) ?_;rintro o ⟨ho,hol⟩;refine Wz 1 ?_;refine Wp ?_ ?_<;>intro hc1
 ·refine Nz 0 ?_;refine Wk 0 (Db I6 zv50) ?_;refine Wv 1 0 ?_;exact Wd (Qc (Cr (Qr (outR (Bv rfl (Ag (j:=0) rfl rfl tk50) rfl) (fun u hu=>⟨o,⟨ho,hol⟩,by rw[hc1];rfl,hu.sel [1,1,1,1,1] rfl⟩)))))
 refine Ck (Qc (Nz 3 ?_));refine Wk 0 (Bc 1) ?_;refine Wv 1 0 ?_;exact Wd (Qc (Cr (outR (Bv rfl (Ag (j:=0) rfl rfl tk50) rfl) (fun u hu=>⟨o,⟨ho,hol⟩,by rw[hc1];rfl,hu.sel [1,1,1,1,1] rfl⟩))))
theorem Ea (A B:List SA) (r:Room) (hr:RoomOk w r) (tb:Nat) (va vb vc:Value) (hva:va.oneCell'=true) (hvb:vb.oneCell'=true) (hvc:vc.oneCell'=true) (ths prs pls:List Int) (ha:GM r.aus.l ths.length) {q:Bool} (hq:(settleN r.aus.l 101 ths).isSome=q) (hu:St w.heap.size w (A++[blk tb [r.pls.v,r.ths.v,r.prs.v,r.wys.v,r.acs.v,r.aus.v,.int .i64 r.ply,r.gl.v,va,vb,vc] 281,oints 3 va ths,oints 3 vb prs,oints 3 vc pls]++B) u):
  Calls prog 135 #[.pointer (some ⟨tb,0,none⟩)] u (fun e u'=>∃o:List Int,((∀t,settleN r.aus.l 101 ths=some t->o=t)/\o.length=ths.length)/\e = .returned (sres va vb vc q)/\St w.heap.size w (A++[blk tb [r.pls.v,r.ths.v,r.prs.v,r.wys.v,r.acs.v,r.aus.v,.int .i64 r.ply,r.gl.v,va,vb,vc] 281,oints 3 va o,oints 3 vb prs,oints 3 vc pls]++B) u'):=by
 subst hq;refine Calls.mono (Qu (star (A++B)) r hr tb va vb vc hva hvb hvc ths prs pls ha hu.out4) ?_;rintro e u' ⟨o,h1,h2,h3⟩;exact⟨o,h1,h2,h3.in4⟩
theorem C2 (r:Room) (w:World) (hr:RoomOk w r) (g:Sl ByteArray) (hG:GOk w g) (hn:Near r) (z:Stt) (hz:SttOk w z):
  Calls prog 145 #[.agg (rcl r).toArray,.agg #[z.ths.v,z.prs.v,z.pls.v]] w (RetB w (.int .i64 (Hc r z))):=by
 have kpl:=hr.pls;have lpl:=hr.pls.le;have kth:=hr.ths;have lth:=hr.ths.le;have kpr:=hr.prs;have lpr:=hr.prs.le;have kwy:=hr.wys;have lwy:=hr.wys.le;have kac:=hr.acs;have lac:=hr.acs.le;have kau:=hr.aus;have lau:=hr.aus.le;have kgl:=hr.gl;have lgl:=hr.gl.le;have zth:=hz.ths.ints;have zpr:=hz.prs.ints;have zpl:=hz.pls.ints;have mth:=zth.le;have mpr:=zpr.le;have mpl:=zpl.le;refine En func145 ?_;refine Nz 0 ?_;refine Wr 0 fun b2 hb2=>?_;refine Wr 1 fun b3 hb3=>?_;refine Nv 0 ?_;refine Wk 0 (Bb 1) ?_;refine Wk 1 (Cb rfl rfl U2 (fun u hu=>OO r u (hr.st hu) g (hG.st hu) hn)) ?_;refine Nx 2 ?_;refine Wp ?_ ?_<;>intro hc1
 ·have e0:Hc r z=checkE r:=Bu rfl hc1;refine Nz 2 ?_;exact Wd (Qc (Cr (Qr (out1 rfl rfl (Af (by rw[e0]))))))
 have e0:Hc r z=stE r z.ths.l z.prs.l z.pls.l:=Bx (by omega);have hpy:1<=r.ply/\r.ply<=4:=I9 (by omega);have hln:=(D0 (show checkE r=0 by omega)).lens;refine Ck (Qc (Cs (Nz 1 ?_)));refine Wk 0 (Ba 0) ?_;refine Wk 1 Na ?_;refine Wk 0 (Ba 1) ?_;refine Wk 2 Nc ?_;refine We 0 ?_;refine We 0 ?_;refine We 0 ?_;refine We 0 ?_;refine We 0 ?_;refine We 0 ?_;refine We 0 ?_;refine Wk 1 Po ?_;refine We 0 ?_;refine We 0 ?_;refine We 0 ?_;refine We 0 ?_;refine We 0 ?_;refine We 0 ?_;refine Wk 0 Po ?_;refine Wp ?_ ?_<;>intro hc2
 ·refine Nz 1 ?_;exact Wd (Qc (Cr (Qr (out1 rfl rfl (Af (by rw[e0,show stE r z.ths.l z.prs.l z.pls.l=28 from if_neg (by simp only[Bool.and_eq_true,decide_eq_true_eq];omega)]))))))
 have e1:stE r z.ths.l z.prs.l z.pls.l=or0 (A7 (I7 r z.ths.l) z.ths.l.length) (or0 (A7 (I3 r z.prs.l) z.prs.l.length) (A7 (I1 r z.pls.l) z.pls.l.length)):=if_pos (by simp only[Bool.and_eq_true,decide_eq_true_eq];omega);refine Ck (Qc (Cs (Nz 1 ?_)));refine Wk 0 (Ba 0) ?_;refine Wk 1 Na ?_;refine Nu ?_;refine CS.loopM (σ:=Int) (rsL [4,4,6,7,45,54]) (fun s=>[(44,.int .i64 s)]) (fun _=>_) (fun s=>0<=s/\s<=z.ths.l.length/\∀j:Int,0<=j->j<s->I7 r z.ths.l j=0) (fun s=>(z.ths.l.length-s).toNat) 0 (fun _ _=>rfl) rfl rfl ⟨by omega,by omega,fun j _ _=>by omega⟩ ?_;intro a t hs;obtain⟨ha1,ha2,ha3⟩:=hs;refine Nz 1 ?_;refine Wd (Qc (Cs (Cn ?_ ?_)))<;>intro hc3
 ·refine Ck (Qc (Cs (Ce (Nz 1 ?_))));refine Wk 0 Xa ?_;refine Wk 2 Ia ?_;refine Nx 0 ?_;refine Wk 2 (Bb 1) ?_;refine Wk 1 (Cb rfl rfl Of (fun u hu=>JT r u (hr.st hu) _ _)) ?_;refine Wp ?_ ?_<;>intro hc4
  ·refine Nz 1 ?_;refine Wd (Qc (Cr (Qs (Qr (Qr (Qs (Qr ?_)))))))
   exact out1 rfl rfl (Af (by
      have hE:I7 r z.ths.l a=28:=by(unfold I7;grind)
      rw[e0,e1,Bu ((Av ha1 (by omega) ha3 (by rw[hE];decide)).trans hE) (by decide)]))
  refine Ck (Qb (Qc (Ny 0 ?_)));refine Wk 1 Za ?_;refine Wd ?_
  exact QS.head (a+1) rfl rfl ⟨⟨by omega,by omega,fun j h0 h1=>by
     rcases(show j<a\/j=a by omega)with h|h
     ·exact ha3 j h0 h
     rw[h];unfold I7;exact if_pos hc4⟩,by omega⟩
 have e2:=(e0.trans e1).trans (Bx (Ay fun j a b=>ha3 j a (by omega)));refine Cv (Qe (Qe (Qx (Qc (Cs (Nz 1 ?_))))));refine Wk 0 (Ba 0) ?_;refine Wk 1 Na ?_;refine Nu ?_;refine CS.loopM (σ:=Int) (rsL [4,4,9,9,59,73]) (fun s=>[(58,.int .i64 s)]) (fun _=>_) (fun s=>0<=s/\s<=z.prs.l.length/\∀j:Int,0<=j->j<s->I3 r z.prs.l j=0) (fun s=>(z.prs.l.length-s).toNat) 0 (fun _ _=>rfl) rfl rfl ⟨by omega,by omega,fun j _ _=>by omega⟩ ?_;intro b t hs;obtain⟨hb1,hb2,hb3⟩:=hs;refine Nz 1 ?_;refine Wd (Qc (Cs (Cn ?_ ?_)))<;>intro hc5
 ·refine Ck (Qc (Cs (Ce (Nz 0 ?_))));refine Wk 0 Xa ?_;refine Wk 1 Ia ?_;refine Nx 2 ?_;refine Wk 0 (Ba 1) ?_;refine Wk 0 Zb ?_;refine Wk 1 Za ?_;refine Wk 0 (Ba 1) ?_;refine Wk 0 Nc ?_;refine Wk 0 Zb ?_;refine Wk 1 (Cb rfl rfl Cy (fun u hu=>Bq _ _ _ u)) ?_;refine Wp ?_ ?_<;>intro hc6
  ·refine Nz 1 ?_;refine Wd (Qc (Cr (Qs (Qr (Qr (Qs (Qr ?_)))))))
   exact out1 rfl rfl (Af (by
      have hE:I3 r z.prs.l b=28:=by(unfold I3 placeB;exact if_neg (by simp only[Bool.or_eq_true,Bool.and_eq_true,decide_eq_true_eq];omega))
      rw[e2,Bu ((Av hb1 (by omega) hb3 (by rw[hE];decide)).trans hE) (by decide)]))
  refine Ck (Qb (Qc (Ny 0 ?_)));refine Wk 1 Za ?_;refine Wd ?_
  exact QS.head (b+1) rfl rfl ⟨⟨by omega,by omega,fun j h0 h1=>by
     rcases(show j<b\/j=b by omega)with h|h
     ·exact hb3 j h0 h
     rw[h];unfold I3 placeB;exact if_pos (by simp only[Bool.or_eq_true,Bool.and_eq_true,decide_eq_true_eq];omega)⟩,by omega⟩
 have e3:=e2.trans (Bx (Ay fun j a b=>hb3 j a (by omega)));refine Cv (Qe (Qe (Qx (Qc (Cs (Nz 1 ?_))))));refine Wk 0 (Ba 0) ?_;refine Wk 1 Na ?_;refine Nu ?_;refine CS.loopM (σ:=Int) (rsL [4,4,11,11,78,88]) (fun s=>[(77,.int .i64 s)]) (fun _=>_) (fun s=>0<=s/\s<=z.pls.l.length/\∀j:Int,0<=j->j<s->I1 r z.pls.l j=0) (fun s=>(z.pls.l.length-s).toNat) 0 (fun _ _=>rfl) rfl rfl ⟨by omega,by omega,fun j _ _=>by omega⟩ ?_;intro d t hs;obtain⟨hd1,hd2,hd3⟩:=hs;refine Nz 1 ?_;refine Wd (Qc (Cs (Cn ?_ ?_)))<;>intro hc7
 ·refine Ck (Qc (Cs (Ce (Nz 0 ?_))));refine Wk 0 Xa ?_;refine Wk 1 Ia ?_;refine Nx 2 ?_;refine Wk 0 (Ba 1) ?_;refine Wk 0 Nc ?_;refine Wk 0 Zb ?_;refine Wk 1 (Cb rfl rfl Cy (fun u hu=>Bq _ _ _ u)) ?_;refine Wp ?_ ?_<;>intro hc8
  ·refine Nz 1 ?_;refine Wd (Qc (Cr (Qs (Qr (Qr (Qs (Qr ?_)))))))
   exact out1 rfl rfl (Af (by
      have hE:I1 r z.pls.l d=28:=by(unfold I1 placeB;exact if_neg (by simp only[Bool.and_eq_true,decide_eq_true_eq];omega))
      rw[e3,(Av hd1 (by omega) hd3 (by rw[hE];decide)).trans hE]))
  refine Ck (Qb (Qc (Ny 0 ?_)));refine Wk 1 Za ?_;refine Wd ?_
  exact QS.head (d+1) rfl rfl ⟨⟨by omega,by omega,fun j h0 h1=>by
     rcases(show j<d\/j=d by omega)with h|h
     ·exact hd3 j h0 h
     rw[h];unfold I1 placeB;exact if_pos (by simp only[Bool.and_eq_true,decide_eq_true_eq];omega)⟩,by omega⟩
 have e4:=e3.trans (Ay fun j a b=>hd3 j a (by omega));refine Cv (Qe (Qe (Qx (Qc (Nz 1 ?_)))));exact Wd (Qc (Cr (out1 rfl rfl (Af (by rw[e4])))))
theorem Qq {n:Int} (h: -9223372036854775808<=n/\n<=9223372036854775807):IntKind.i64.wrap n=n:=by
 simp[IntKind.wrap,IntKind.bits,IntKind.signed];omega
theorem Pq {α β:Type} [Inhabited α] [Inhabited β] (f:α->β) {l:List α} {i:Int} (h0:0<=i) (h1:i<l.length):nth (l.map f) i=f (nth l i):=by
 have h2:i.toNat<l.length:=by omega
 simp[nth,List.getD,h2]
theorem O0 (hR:Ready r):StIn r (CX r):=by
 have hl:=hR.lens;have hp:=hR.ply;refine⟨by simp[CX],by simp[CX],by simp[CX];omega,fun i h0 h1=>?_,fun i h0 h1=>?_,fun i h0 h1=>?_⟩
 ·simp only[CX,List.length_map]at h1;have h2:=hR.ths _ (Ai h0 h1);simp only[thB,Bool.and_eq_true,decide_eq_true_eq]at h2;simp only[CX];rw[Pq _ h0 h1,putB,Qq (by omega)];simp only[Bool.and_eq_true,decide_eq_true_eq];omega
 ·simp only[CX,List.length_map]at h1;have h2:=(hR.prs _ (Ai h0 h1)).2;have e:nth (CX r).2.1 i=(nth r.prs.l i).pl:=Pq Pro.pl h0 h1;simp only[e];rcases h2 with h|h<;>simp[h]
 simp only[CX,List.length_replicate]at h1
 have:nth (List.replicate r.ply.toNat (0:Int)) i=0:=by
  have h2:i.toNat<r.ply.toNat:=by omega
  simp[nth,List.getD,h2]
 simp only[CX,this,placeB,Bool.and_eq_true,decide_eq_true_eq];omega
theorem VH (r:Room) (w:World) (hr:RoomOk w r) (g:Sl ByteArray) (hG:GOk w g) (hn:Near r) (z:Stt) (hz:SttOk w z) (c:Sl Lit) (hk:SlT cLit w c):
  Calls prog 136 #[.agg (rcl r).toArray,.agg #[z.ths.v,z.prs.v,z.pls.v],c.v] w (RetB w (.tuple #[.bool (HoldsV r z.x c.l).2,.int .i64 (HoldsV r z.x c.l).1])):=by
 refine En func136 ?_;refine Nz 0 ?_;refine Wr 0 fun b3 hb3=>?_;refine Wr 2 fun b4 hb4=>?_;refine Nv 0 ?_;refine Wk 0 (Bb 1) ?_;refine Wk 0 (Bb 0) ?_;refine Wk 1 (Cb rfl rfl Ou (fun u hu=>C2 r u (hr.st hu) g (hG.st hu) hn z (hz.st hu))) ?_;refine Nx 2 ?_;refine Wp ?_ ?_<;>intro hc1
 ·have hS:¬stL r z.x=0:=hc1;refine Nz 3 ?_;exact Wd (Qc (Cr (Qr (out2 rfl rfl rfl (Af (by rw[show HoldsV r z.x c.l=(stL r z.x,false)from if_neg hS];rfl))))))
 have hc1:Hc r z=0:=hc1;have hc1:stL r z.x=0:=hc1;have hS:stL r z.x=0:=by omega
 obtain⟨hC,hI⟩:=E4.1 hS;have hR:=D0 hC;have hlen:=hR.lens;have hply:=hR.ply;have hlt:z.ths.l.length=r.ths.l.length:=hI.lt;have hlp:z.prs.l.length=r.prs.l.length:=hI.lp;have hll:(z.pls.l.length:Int)=r.ply:=hI.ll;refine Ck (Qc (Cs (Nz 0 ?_)));refine Wk 1 (Bb 1) ?_;refine Wk 1 (Cb rfl rfl Jq (fun u hu=>GL r u (hr.st hu) _ (hk.st hu))) ?_;refine Wp ?_ ?_<;>intro hc2
 ·refine Nz 2 ?_;exact Wd (Qc (Cr (Qr (out2 rfl rfl rfl (Af (by rw[show HoldsV r z.x c.l=(25,false)from(if_pos hS).trans (if_neg (by rw[hc2];decide))]))))))
 refine Ck (Qc (Nz 0 ?_));refine Wk 0 (Bb 1) ?_;refine Wk 0 (Bb 0) ?_;refine Wc rfl rfl KY (fun u hu=>R7 r u (hr.st hu) z (hz.st hu) (hI.small hR)) (fun _=>rfl) ?_;rintro⟨tb,va,vb,vc⟩ ⟨hva,hvb,hvc⟩;refine WS.unpack ?_;refine Wz 1 ?_;refine Wk 2 (Cb rfl rfl Jm (fun u hu=>Gw tb r ⟨⟨va,z.ths.l⟩,⟨vb,z.prs.l⟩,⟨vc,z.pls.l⟩⟩ u ⟨AN hu (j:=0) rfl,hr.st hu,(AK hu (j:=1) rfl).tree,(AK hu (j:=2) rfl).tree,(AK hu (j:=3) rfl).tree⟩ c (hk.st hu) (by show E8 z.ths.l.length _;rw[hlt];exact Ft hc2))) ?_;exact Wd (Qc (Cr (out2 rfl rfl rfl (Af (by rw[show HoldsV r z.x c.l=(0,DT z.ths.l c.l)from(if_pos hS).trans (if_pos hc2)])))))
theorem WN (r:Room) (w:World) (hr:RoomOk w r) (g:Sl ByteArray) (hG:GOk w g) (hn:Near r):
  Calls prog 63 #[.agg (rcl r).toArray] w (RetS w (BeginV r).2 fun v=>.tuple #[v,.int .i64 (BeginV r).1]):=by
 have kpl:=hr.pls;have lpl:=hr.pls.le;have kth:=hr.ths;have lth:=hr.ths.le;have kpr:=hr.prs;have lpr:=hr.prs.le;have kwy:=hr.wys;have lwy:=hr.wys.le;have kac:=hr.acs;have lac:=hr.acs.le;have kau:=hr.aus;have lau:=hr.aus.le;have kgl:=hr.gl;have lgl:=hr.gl.le;refine En func63 ?_;refine Nz 0 ?_;refine Wr 0 fun b1 hb1=>?_;refine Wq 1 zv50 fun b2 hb2=>?_;refine Nv 0 ?_;refine Wk 0 (Bb 1) ?_;refine Wk 1 (Cb rfl rfl U2 (fun u hu=>OO r u (hr.st hu) g (hG.st hu) hn)) ?_;refine Nx 2 ?_;refine Wp ?_ ?_<;>intro hc1
 ·refine Nz 0 ?_;refine Wk 1 (Db I6 zv50) ?_;refine Wv 1 0 ?_;refine Wd (Qc (Cr (Qr ?_)))
  exact outR (Bv rfl (Ag (j:=0) rfl rfl tk50) rfl) (by
    have hv:BeginV r=(checkE r,no3):=if_neg hc1;rw[hv]
    exact fun u hu=>S5 (f:=fun v=>.tuple #[v,.int .i64 (checkE r)]) hu)
 have hc1:checkE r=0:=hc1;have hR:=D0 hc1;have hlen:=hR.lens;have hply:=hR.ply;refine Ck (Qc (Nz 1 ?_));refine Wk 0 (Ba 1) ?_;refine WS.makeInts sl48 rfl rfl zv3 (by omega) (by omega) (by omega) (fun _=>rfl) ?_;intro v18;refine WS.oc (j:=0) rfl (fun hv18=>?_);refine Wk 0 (Db I6 zv50) ?_;refine Wq 0 zv50 fun b5 hb5=>?_;refine Wv 0 0 ?_;refine Nv 1 ?_;refine Wk 0 (Ba 3) ?_;refine Wk 1 Nc ?_;refine Nu ?_;refine CS.weak (fun _ hu=>hu.osl0 (e:=3) (size:=1)) ?_;refine CS.loopM (σ:=Int×Value) (rsL [7,7,24,34]) (fun s=>[(23,.int .i64 s.1)]) (fun s=>[oints 3 s.2 ((r.ths.l.take s.1.toNat).map Thing.sr),blk b5 [s.2,.slice none 0 0,v18] 50,oints 3 v18 (List.replicate r.ply.toNat 0),blk b2 [.slice none 0 0,.slice none 0 0,.slice none 0 0] 50,blk b1 (rcl r) 32]) (fun s=>0<=s.1/\s.1<=r.ths.l.length) (fun s=>(r.ths.l.length-s.1).toNat) (0,.slice none 0 0) (fun _ _=>rfl) rfl rfl ⟨by simp,by simp⟩ ?_;intro a t hs;obtain⟨ha1,ha2⟩:=hs;have htl:=List.length_take_le a.1.toNat r.ths.l;refine Nz 1 ?_;refine Wd (Qc (Cs (Cn ?_ ?_)))<;>intro hc2
 ·refine Ck (Qc (Cs (Ce (Nz 0 ?_))));refine Wk 0 Xc ?_;refine Wk 0 Ua ?_;refine Wq 0 FG fun b7 hb7=>?_;refine Wv 0 0 ?_;refine Nw 1 ?_;refine Wk 1 (Ba 2) ?_;refine Wk 0 (Ba 0) ?_;refine WS.buildI1 sl48 zv3 rfl (fun _=>rfl) ?_;intro v31;refine WS.appendI (j:=2) sl48 zv3 rfl rfl rfl (fun u hu=>AK hu (j:=0) rfl) (by first|omega|(simp;omega)|(simp only[List.length_append,List.length_singleton,List.length_map,List.length_cons,List.length_nil]at*;omega)) (by first|omega|(simp;omega)|(simp only[List.length_append,List.length_singleton,List.length_map,List.length_cons,List.length_nil]at*;omega)) (fun _=>rfl) (fun _=>rfl) ?_;intro v32;refine WS.oc (j:=2) rfl (fun hv32=>?_);refine Wz 1 ?_;refine Ws 0 3 ?_;refine Wd (Qb (Qc (Ny 0 ?_)));refine Wk 1 Za ?_;refine Wd ?_;refine QS.sel [2,2,2,2,2] rfl ?_;exact QS.head ((a.1+1,v32)) rfl (by simp only[<-Pn Thing.sr ha1 (by omega:a.1<r.ths.l.length)]) ⟨⟨by simp;omega,by simp;omega⟩,by simp;omega⟩
 have hta:r.ths.l.take a.1.toNat=r.ths.l:=List.take_of_length_le (by omega);rw[hta];refine Cv (Qe (Qe (Qx (Qc (Cs (Nz 1 ?_))))));refine Wk 0 (Ba 4) ?_;refine Wk 1 Nc ?_;refine Nu ?_;refine CS.weak (fun _ hu=>hu.osl0 (e:=3) (size:=1)) ?_;refine CS.loopM (σ:=Int×Value) (rsL [9,9,39,49]) (fun s=>[(38,.int .i64 s.1)]) (fun s=>[oints 3 s.2 ((r.prs.l.take s.1.toNat).map Pro.pl),oints 3 a.2 (r.ths.l.map Thing.sr),blk b5 [a.2,s.2,v18] 50,oints 3 v18 (List.replicate r.ply.toNat 0),blk b2 [.slice none 0 0,.slice none 0 0,.slice none 0 0] 50,blk b1 (rcl r) 32]) (fun s=>0<=s.1/\s.1<=r.prs.l.length) (fun s=>(r.prs.l.length-s.1).toNat) (0,.slice none 0 0) (fun _ _=>rfl) rfl rfl ⟨by simp,by simp⟩ ?_;intro d t hs;obtain⟨hd1,hd2⟩:=hs;have htl:=List.length_take_le d.1.toNat r.prs.l;refine Nz 1 ?_;refine Wd (Qc (Cs (Cn ?_ ?_)))<;>intro hc3
 ·have hwh:SlT cLit w (nth r.prs.l d.1).wh:=hr.prs.at hd1 (by omega);refine Ck (Qc (Cs (Ce (Nz 0 ?_))));refine Wk 0 Xc ?_;refine Wk 0 Ua ?_;refine Wq 0 EP fun b9 hb9=>?_;refine Wv 0 0 ?_;refine Nw 1 ?_;refine Wk 1 (Ba 3) ?_;refine Wk 0 (Ba 0) ?_;refine WS.buildI1 sl48 zv3 rfl (fun _=>rfl) ?_;intro v46;refine WS.appendI (j:=2) sl48 zv3 rfl rfl rfl (fun u hu=>AK hu (j:=0) rfl) (by first|omega|(simp;omega)|(simp only[List.length_append,List.length_singleton,List.length_map,List.length_cons,List.length_nil]at*;omega)) (by first|omega|(simp;omega)|(simp only[List.length_append,List.length_singleton,List.length_map,List.length_cons,List.length_nil]at*;omega)) (fun _=>rfl) (fun _=>rfl) ?_;intro v47;refine WS.oc (j:=2) rfl (fun hv47=>?_);refine Wz 1 ?_;refine Ws 0 4 ?_;refine Wd (Qb (Qc (Ny 0 ?_)));refine Wk 1 Za ?_;refine Wd ?_;refine QS.sel [2,2,2,2,2,2] rfl ?_;exact QS.head ((d.1+1,v47)) rfl (by simp only[<-Pn Pro.pl hd1 (by omega:d.1<r.prs.l.length)]) ⟨⟨by simp;omega,by simp;omega⟩,by simp;omega⟩
 have hta:r.prs.l.take d.1.toNat=r.prs.l:=List.take_of_length_le (by omega);rw[hta];refine Cv (Qe (Qe (Qx (Qc (Cs ?_)))));rcases Bool.eq_false_or_eq_true ((settleN r.aus.l 101 (r.ths.l.map Thing.sr)).isSome)with hb|hb
 ·refine Ny 0 ?_;refine Wk 0 (Bb 5) ?_;refine Wk 0 (Bb 2) ?_;refine Wc rfl rfl KY (fun u hu=>R7 r u (hr.st hu) ⟨⟨a.2,r.ths.l.map Thing.sr⟩,⟨d.2,r.prs.l.map Pro.pl⟩,⟨v18,List.replicate r.ply.toNat 0⟩⟩ ⟨(AK hu (j:=1) rfl).tree,(AK hu (j:=0) rfl).tree,(AK hu (j:=3) rfl).tree⟩ (by simp;omega)) (fun _=>rfl) ?_;rintro⟨tb,va,vb,vc⟩ ⟨hva,hvb,hvc⟩;refine WS.unpack ?_;refine WS.callS rfl rfl OY (fun u hu=>Ea [] _ r hr tb va vb vc hva hvb hvc (r.ths.l.map Thing.sr) (r.prs.l.map Pro.pl) (List.replicate r.ply.toNat 0) (by rw[List.length_map];exact hR.aus) hb hu) (fun _=>rfl) ?_;rintro o ⟨ho,hol⟩;refine Wz 2 ?_;refine Wv 1 8 ?_;refine Wd (Qc (Cr ?_))
  exact outR (Bv rfl (Ag (j:=8) rfl rfl tk50) rfl) (by
    have hv:BeginV r=(0,(o,r.prs.l.map Pro.pl,List.replicate r.ply.toNat 0)):=(if_pos hc1).trans ((if_pos (E4.2 ⟨hc1,O0 hR⟩)).trans (by rw[KW (r:=r) (x:=CX r) hb ho];rfl));rw[hv]
    exact fun u hu=>retS (f:=fun v=>.tuple #[v,.int .i64 0]) (is:=[1,1,1]) rfl hu)
 refine Ny 0 ?_;refine Wk 0 (Bb 5) ?_;refine Wk 0 (Bb 2) ?_;refine Wc rfl rfl KY (fun u hu=>R7 r u (hr.st hu) ⟨⟨a.2,r.ths.l.map Thing.sr⟩,⟨d.2,r.prs.l.map Pro.pl⟩,⟨v18,List.replicate r.ply.toNat 0⟩⟩ ⟨(AK hu (j:=1) rfl).tree,(AK hu (j:=0) rfl).tree,(AK hu (j:=3) rfl).tree⟩ (by simp;omega)) (fun _=>rfl) ?_;rintro⟨tb,va,vb,vc⟩ ⟨hva,hvb,hvc⟩;refine WS.unpack ?_;refine WS.callS rfl rfl OY (fun u hu=>Ea [] _ r hr tb va vb vc hva hvb hvc (r.ths.l.map Thing.sr) (r.prs.l.map Pro.pl) (List.replicate r.ply.toNat 0) (by rw[List.length_map];exact hR.aus) hb hu) (fun _=>rfl) ?_;rintro o ⟨ho,hol⟩;refine Wz 2 ?_;refine Wv 1 8 ?_;refine Wd (Qc (Cr ?_))
 exact outR (Bv rfl (Ag (j:=8) rfl rfl tk50) rfl) (by
   have hv:BeginV r=(27,no3):=(if_pos hc1).trans ((if_pos (E4.2 ⟨hc1,O0 hR⟩)).trans (by rw[Ll (r:=r) (x:=CX r) hb];rfl));rw[hv]
   exact fun u hu=>S5 (f:=fun v=>.tuple #[v,.int .i64 (27)]) hu)
def mvV (x:Move):Value:=.agg #[.int .i64 x.p,.int .i64 x.k,.int .i64 x.n]
theorem WG (r:Room) (w:World) (hr:RoomOk w r) (hR:Ready r) (b:Nat):
  Iter prog w 223 [.pointer (some ⟨b,0,none⟩)] [blk b (rcl r) 32] (fun v x=>fact (v=mvV x)) (allM r r.ply.toNat):=by
 intro lp C Cx hy u hu;have kpl:=hr.pls;have lpl:=hr.pls.le;have kth:=hr.ths;have lth:=hr.ths.le;have kpr:=hr.prs;have lpr:=hr.prs.le;have kwy:=hr.wys;have lwy:=hr.wys.le;have kac:=hr.acs;have lac:=hr.acs.le;have kau:=hr.aus;have lau:=hr.aus.le;have kgl:=hr.gl;have lgl:=hr.gl.le;have hply:=hR.ply;have hlen:=hR.lens;have hc5:(cntL r).length=5:=rfl;refine Ei hu func223 ?_;refine Nz 1 ?_;refine Wk 1 (Ba 1) ?_;refine Nu ?_;refine CS.loopM (σ:=Int) (rsL [3,6,10,44]) (fun s=>[(9,.int .i64 s)]) (fun s=>[C (upM r s 0 0),blk b (rcl r) 32]) (fun s=>0<=s/\s<=r.ply) (fun s=>(r.ply-s).toNat) 0 (fun _ _=>rfl) rfl rfl ⟨by omega,by omega⟩ ?_;intro p t hs;obtain⟨hp1,hp2⟩:=hs;refine Nz 1 ?_;refine Wd (Qc (Cs (Cn ?_ ?_)))<;>intro hc1
 ·refine Ck (Qc (Cs (Ce (Nz 2 ?_))));refine Nx 1 ?_;refine Wk 0 (Ba 1) ?_;refine Wk 1 Nc ?_;refine Wk 0 (Ba 1) ?_;refine Wk 1 Nc ?_;refine Wk 0 (Ba 1) ?_;refine Wk 1 Nc ?_;refine Wk 0 (Ba 1) ?_;refine Wk 0 Nc ?_;refine WS.buildHole sl48 zv3 rfl rfl rfl rfl (fun _=>rfl) ?_;intro v24;refine Wk 1 (K6 (xs:=cntL r) (j:=0) sl48 rfl rfl) ?_;refine Nu ?_;refine CS.sel [1,0,0] rfl ?_;refine CS.loopM (σ:=Int) (rsL [4,6,27,43]) (fun s=>[(26,.int .i64 s)]) (fun s=>[C (upM r p s 0),oints 3 v24 (cntL r),blk b (rcl r) 32]) (fun s=>0<=s/\s<=5) (fun s=>(5-s).toNat) 0 (fun _ _=>rfl) rfl rfl ⟨by omega,by omega⟩ ?_;intro k t hs;obtain⟨hk1,hk2⟩:=hs;refine Nz 1 ?_;refine Wd (Qc (Cs (Cn ?_ ?_)))<;>intro hc2
  ·have hca:=Sb r hk1 (by omega)
   have hcm:0<=nth (cntL r) k/\nth (cntL r) k<=24:=by
      have hbig:(cntM r k.toNat:Int)<=24:=by
       rcases(show k=0\/k=1\/k=2\/k=3\/k=4 by omega)with h|h|h|h|h<;>subst h<;>simp[cntM]<;>omega
      omega
   refine Ck (Qc (Cs (Ce (Nz 1 ?_))));refine Wk 0 (Xb 1) ?_;refine Wk 2 (Ib 1) ?_;refine Nx 2 ?_;refine Nu ?_;refine CS.loopM (σ:=Int) (rsL [6,6,33,42]) (fun s=>[(32,.int .i64 s)]) (fun s=>[C (upM r p k s),oints 3 v24 (cntL r),blk b (rcl r) 32]) (fun s=>0<=s/\s<=nth (cntL r) k) (fun s=>(nth (cntL r) k-s).toNat) 0 (fun _ _=>rfl) rfl rfl ⟨by omega,by omega⟩ ?_;intro n t hs;obtain⟨hn1,hn2⟩:=hs;refine Nz 1 ?_;refine Wd (Qc (Cs (Cn ?_ ?_)))<;>intro hc3
   ·obtain⟨post,hspl⟩:=Ty (r:=r) (p:=p) (j:=k) (n:=n) ⟨hp1,by omega⟩ ⟨hk1,by omega⟩ ⟨hn1,by omega⟩;refine Ck (Qc (Cs (Ce (Nz 2 ?_))));refine Nx 4 ?_;refine Wk 0 (Db Jdo MP) ?_;refine WS.yield (L':=fun b'=>[cond b' (C (upM r p k n++[(⟨p,k,n⟩:Move)])) (Cx (upM r p k n++[(⟨p,k,n⟩:Move)])),oints 3 v24 (cntL r),blk b (rcl r) 32]) rfl rfl rfl (fun u hu=>(It (B:=fact (mvV ⟨p,k,n⟩=mvV ⟨p,k,n⟩)) (fun F' u' hu'=>hy _ _ _ hspl F' _ u' hu') (hu.factI rfl)).mono (fun e u' h=>let⟨b',he,hs⟩:=h;⟨b',he,hs.tail⟩)) (fun _=>rfl) ?_;intro b';refine Wz 1 ?_;refine Wp ?_ ?_<;>intro hc4
    ·obtain rfl:b'=false:=by simpa using hc4
     exact Cr (Qs (Qr (Qr (Qs (Qs (Qr (Qr (Qs (Qs (Qr (Qr (Qs (out0 (Or.inl rfl) rfl (fun u hu=>⟨⟨_,rfl⟩,.inr ⟨_,_,_,hspl,hu.sel [0,1] rfl⟩⟩))))))))))))))
    obtain rfl:b'=true:=by simpa using hc4
    refine Ck (Qb (Qc (Ny 0 ?_)));refine Wk 1 Za ?_;exact Wd (QS.head (n+1) rfl (by rw[<-O6 hn1];rfl) ⟨⟨by omega,by omega⟩,by omega⟩)
   refine Cv (Qe (Qe (Qx (Qb (Qc (Ny 0 ?_))))));refine Wk 1 Za ?_;exact Wd (QS.head (k+1) rfl (by rw[<-Jhx hk1,<-Sb r hk1 (by omega),show n=nth (cntL r) k by omega]) ⟨⟨by omega,by omega⟩,by omega⟩)
  refine Cv (Qe (Qe (Qx (Qb (Qc (Ny 0 ?_))))));refine Wk 1 Za ?_;refine Wd ?_;refine QS.sel [0,1] rfl ?_;exact QS.head (p+1) rfl (by simp only[<-Jif hp1,show k=5 by omega]) ⟨⟨by omega,by omega⟩,by omega⟩
 exact Cv (Qe (Qe (Qx (out0 (Or.inr rfl) rfl (fun u hu=>⟨⟨_,rfl⟩,.inl (by rw[<-Zj r (p:=p) (by omega)];exact hu)⟩)))))
theorem Y9 (r:Room) (w:World):
  Calls prog 146 #[.agg (rcl r).toArray] w (fun e w'=>∃b:Nat,True/\RetF w (.func (.func 223) #[] #[.pointer (some ⟨b,0,none⟩)]) (blk b (rcl r) 32) e w'):=by
 refine En func146 ?_;refine Nz 0 ?_;refine Wr 1 fun b1 hb1=>?_;refine Nx 0 ?_;refine Wk 1 (Ax rfl) ?_;exact Wd (Qc (Cr (out1 rfl rfl (fun u hu=>⟨b1,trivial,retF (j:=0) rfl u hu⟩))))
end Go.Proofs.YtllebkdchemabaaGreatDoor
