/- Merged texts of this proof (walks and plain laws), printed by a program of the prover. -/
import Derived.Test.YtfbfdnoodccgiaaGreatDoorZj
set_option maxHeartbeats 8000000
namespace Go.Proofs.YtfbfdnoodccgiaaGreatDoor
open Go.RowKit Go.Proofs
set_option maxRecDepth 100000
set_option linter.unusedVariables false
set_option linter.unusedSimpArgs false
theorem St.out4 {n0:Nat} {w0 u:World} {A B:List SA} {t a b c:SA} (h:St n0 w0 (A++[t,a,b,c]++B) u):St n0 w0 [t,a,b,c,Go.Proofs.YtfbfdnoodccgiaaGreatDoor.star (A++B)] u:=by
 have h1:St n0 w0 ((A++B)++[t,a,b,c]) u:=h.perm (by
  rw [List.append_assoc,List.append_assoc]
  exact List.Perm.append_left A List.perm_append_comm)
 have h2:=h1.pack
 exact h2.perm (by
  show ([Go.Proofs.YtfbfdnoodccgiaaGreatDoor.star (A++B)]++[t,a,b,c]).Perm ([t,a,b,c]++[Go.Proofs.YtfbfdnoodccgiaaGreatDoor.star (A++B)])
  exact List.perm_append_comm)
theorem St.in4 {n0:Nat} {w0 u:World} {A B:List SA} {t a b c:SA} (h:St n0 w0 [t,a,b,c,Go.Proofs.YtfbfdnoodccgiaaGreatDoor.star (A++B)] u):St n0 w0 (A++[t,a,b,c]++B) u:=by
 have h1:St n0 w0 (Go.Proofs.YtfbfdnoodccgiaaGreatDoor.star (A++B)::[t,a,b,c]) u:=h.perm (by
  show ([t,a,b,c]++[Go.Proofs.YtfbfdnoodccgiaaGreatDoor.star (A++B)]).Perm ([Go.Proofs.YtfbfdnoodccgiaaGreatDoor.star (A++B)]++[t,a,b,c])
  exact List.perm_append_comm)
 have h2:=h1.unpack
 exact h2.perm (by
  rw [List.append_assoc,List.append_assoc]
  exact List.Perm.append_left A List.perm_append_comm)
theorem Jqi {w u:World} (A B:List SA) (r:Room) (hr:RoomOk w r) (tb:Nat) (va vb vc:Value) (ths prs pls:List Int) (ha:Jfk r.aus.l ths.length) (hu:St w.heap.size w (A++[blk tb [r.pls.v,r.ths.v,r.prs.v,r.wys.v,r.acs.v,r.aus.v,.int .i64 r.ply,r.gl.v,va,vb,vc] 217,oints 3 va ths,oints 3 vb prs,oints 3 vc pls]++B) u) :
  Calls Tryz.prog 134 #[.pointer (some ⟨tb,0,none⟩)] u (fun e u'=>∃ o:List Int,((∀ t,settleN r.aus.l 101 ths=some t→o=t)∧o.length=ths.length)∧e = .returned (.bool (settleN r.aus.l 101 ths).isSome)∧St w.heap.size w (A++[blk tb [r.pls.v,r.ths.v,r.prs.v,r.wys.v,r.acs.v,r.aus.v,.int .i64 r.ply,r.gl.v,va,vb,vc] 217,oints 3 va o,oints 3 vb prs,oints 3 vc pls]++B) u'):=by
 refine Calls.mono (Jq6 (star (A++B)) r hr tb va vb vc ths prs pls ha hu.out4) ?_
 rintro e u' ⟨o,h1,h2,h3⟩
 exact ⟨o,h1,h2,h3.in4⟩
theorem Jw0 {w u:World} (A B:List SA) (r:Room) (hr:RoomOk w r) (hR:Ready r) (tb:Nat) (va vb vc:Value) (x:P3) (hI:StIn r x) (m:Move) (hL:legalB r x m=true) (hu:St w.heap.size w (A++[blk tb [r.pls.v,r.ths.v,r.prs.v,r.wys.v,r.acs.v,r.aus.v,.int .i64 r.ply,r.gl.v,va,vb,vc] 217,oints 3 va x.1,oints 3 vb x.2.1,oints 3 vc x.2.2]++B) u) :
  Calls Tryz.prog 139 #[.pointer (some ⟨tb,0,none⟩),.agg #[.int .i64 m.p,.int .i64 m.k,.int .i64 m.n]] u (fun e u'=>∃ _q:Unit,True∧e = .returned (.tuple #[])∧St w.heap.size w (A++[blk tb [r.pls.v,r.ths.v,r.prs.v,r.wys.v,r.acs.v,r.aus.v,.int .i64 r.ply,r.gl.v,va,vb,vc] 217,oints 3 va (moveX r x m).1,oints 3 vb (moveX r x m).2.1,oints 3 vc (moveX r x m).2.2]++B) u'):=by
 refine Calls.mono (J03 (star (A++B)) r hr hR tb va vb vc x hI m hL hu.out4) ?_
 rintro e u' ⟨o,h1,h2,h3⟩
 exact ⟨o,h1,h2,h3.in4⟩
def sres (va vb vc:Value):Bool→Value
 | true=>.tuple #[.agg #[va,vb,vc],.int .i64 0]
 | false=>.tuple #[.agg #[.slice none 0 0,.slice none 0 0,.slice none 0 0],.int .i64 27]
theorem Jkx {r:Room} {x:P3} {o:List Int} (h:(settleN r.aus.l 101 x.1).isSome=true) (ho:∀ t,settleN r.aus.l 101 x.1=some t→o=t):settleV r x=some (o,x.2.1,x.2.2):=by
 unfold settleV
 obtain ⟨t,ht⟩:=Option.isSome_iff_exists.1 h
 rw [ho t ht,ht]; rfl
theorem Jj5 {r:Room} {x:P3} (h:(settleN r.aus.l 101 x.1).isSome=false):settleV r x=none:=by
 unfold settleV
 rw [Option.isSome_eq_false_iff,Option.isNone_iff_eq_none] at h
 rw [h]; rfl
theorem Jpz {w u:World} (R:SA) (r:Room) (hr:RoomOk w r) (tb:Nat) (va vb vc:Value) (hva:va.oneCell'=true) (hvb:vb.oneCell'=true) (hvc:vc.oneCell'=true) (ths prs pls:List Int) (ha:Jfk r.aus.l ths.length) (hu:St w.heap.size w [blk tb [r.pls.v,r.ths.v,r.prs.v,r.wys.v,r.acs.v,r.aus.v,.int .i64 r.ply,r.gl.v,va,vb,vc] 217,oints 3 va (ths),oints 3 vb prs,oints 3 vc pls,R] u) :
  Calls Tryz.prog 87 #[.pointer (some ⟨tb,0,none⟩)] u (fun e u'=>∃ o:List Int,((∀ t,settleN r.aus.l 101 ths=some t→o=t)∧o.length=ths.length)∧e = .returned (sres va vb vc (settleN r.aus.l 101 ths).isSome)∧St w.heap.size w [blk tb [r.pls.v,r.ths.v,r.prs.v,r.wys.v,r.acs.v,r.aus.v,.int .i64 r.ply,r.gl.v,va,vb,vc] 217,oints 3 va (o),oints 3 vb prs,oints 3 vc pls,R] u'):=by
 refine Jd9 hu Tryz.func87 rfl rfl (Nat.le_of_ble_eq_true rfl) ?_
 refine Nz 0 ?_
 refine Wl 1 zv94 (fun _=>rfl) (fun _=>rfl) fun b2 hb2=>?_
 refine Wd (Qc (Cs (Nz 1 ?_)))
 refine WS.callS rfl rfl J28 (fun u hu=>Jqi [blk b2 [.slice none 0 0,.slice none 0 0,.slice none 0 0] 94] [R] r hr tb va vb vc ths prs pls ha hu) (fun _=>rfl) ?_; rintro o ⟨ho,hol⟩
 refine Wz 1 ?_
 refine Wd (Qc (CS.cond rfl ?_ ?_))<;>intro hc1<;>try simp only [bq] at hc1
 ·
  refine Nz 0 ?_
  refine Wk 0 (Db Jhs zv94) ?_
  refine Wv 1 0 ?_
  exact Wd (Qc (Cr (Qr (outR (Jc3 rfl (Jar (j:=0) rfl rfl tk94) rfl) (fun u hu=>⟨o,⟨ho,hol⟩,by rw [hc1]; rfl,hu.sel [1,1,1,1,1] rfl⟩)))))
 refine Ck (Qc (Nz 3 ?_))
 refine Wk 0 (Bc 1) ?_
 refine Wv 1 0 ?_
 exact Wd (Qc (Cr (outR (Jc3 rfl (Jar (j:=0) rfl rfl tk94) rfl) (fun u hu=>⟨o,⟨ho,hol⟩,by rw [hc1]; rfl,hu.sel [1,1,1,1,1] rfl⟩))))
theorem Jdh {w u:World} (A B:List SA) (r:Room) (hr:RoomOk w r) (tb:Nat) (va vb vc:Value) (hva:va.oneCell'=true) (hvb:vb.oneCell'=true) (hvc:vc.oneCell'=true) (ths prs pls:List Int) (ha:Jfk r.aus.l ths.length) {q:Bool} (hq:(settleN r.aus.l 101 ths).isSome=q) (hu:St w.heap.size w (A++[blk tb [r.pls.v,r.ths.v,r.prs.v,r.wys.v,r.acs.v,r.aus.v,.int .i64 r.ply,r.gl.v,va,vb,vc] 217,oints 3 va ths,oints 3 vb prs,oints 3 vc pls]++B) u) :
  Calls Tryz.prog 87 #[.pointer (some ⟨tb,0,none⟩)] u (fun e u'=>∃ o:List Int,((∀ t,settleN r.aus.l 101 ths=some t→o=t)∧o.length=ths.length)∧e = .returned (sres va vb vc q)∧St w.heap.size w (A++[blk tb [r.pls.v,r.ths.v,r.prs.v,r.wys.v,r.acs.v,r.aus.v,.int .i64 r.ply,r.gl.v,va,vb,vc] 217,oints 3 va o,oints 3 vb prs,oints 3 vc pls]++B) u'):=by
 subst hq
 refine Calls.mono (Jpz (star (A++B)) r hr tb va vb vc hva hvb hvc ths prs pls ha hu.out4) ?_
 rintro e u' ⟨o,h1,h2,h3⟩
 exact ⟨o,h1,h2,h3.in4⟩
theorem Jco (r:Room) (w:World) (hr:RoomOk w r) (g:Sl ByteArray) (hG:GOk w g) (hn:Near r) (z:Stt) (hz:SttOk w z) :
  Calls Tryz.prog 91 #[.agg #[r.pls.v,r.ths.v,r.prs.v,r.wys.v,r.acs.v,r.aus.v,.int .i64 r.ply,r.gl.v],.agg #[z.ths.v,z.prs.v,z.pls.v]] w (RetB w (.int .i64 (Jer r z))):=by
 have kpl:=hr.pls
 have lpl:=hr.pls.le
 have kth:=hr.ths
 have lth:=hr.ths.le
 have kpr:=hr.prs
 have lpr:=hr.prs.le
 have kwy:=hr.wys
 have lwy:=hr.wys.le
 have kac:=hr.acs
 have lac:=hr.acs.le
 have kau:=hr.aus
 have lau:=hr.aus.le
 have kgl:=hr.gl
 have lgl:=hr.gl.le
 have zth:=hz.ths.ints
 have zpr:=hz.prs.ints
 have zpl:=hz.pls.ints
 have mth:=zth.le
 have mpr:=zpr.le
 have mpl:=zpl.le
 refine enter Tryz.func91 rfl rfl (Nat.le_of_ble_eq_true rfl) ?_
 refine Nz 0 ?_
 refine Wb 0 rfl rfl (fun _=>rfl) (fun _=>rfl) fun b2 hb2=>?_
 refine Wb 1 rfl rfl (fun _=>rfl) (fun _=>rfl) fun b3 hb3=>?_
 refine Wd (Qc (Cs (Nz 0 ?_)))
 refine Wk 0 (Bb 1) ?_
 refine Wk 1 (Cb rfl rfl J0s (fun u hu=>Jiu r u (hr.st hu) g (hG.st hu) hn)) ?_
 refine Wd (Qc (Nz 2 ?_))
 refine Wd (Qc (CS.cond rfl ?_ ?_))<;>intro hc1<;>try simp only [bq] at hc1
 ·
  have e0:Jer r z=checkE r:=Jcr rfl hc1
  refine Nz 2 ?_
  exact Wd (Qc (Cr (Qr (out1 rfl rfl (Jac (by rw [e0]))))))
 have e0:Jer r z=stE r z.ths.l z.prs.l z.pls.l:=Jb4 (by omega)
 have hpy:1≤r.ply∧r.ply≤4:=Jh9 (by omega)
 have hln:=(Jdn (show checkE r=0 by omega)).lens
 refine Ck (Qc (Cs (Nz 1 ?_)))
 refine Wk 0 (Ba 0) ?_
 refine Wk 1 Na ?_
 refine Wk 0 (Ba 1) ?_
 refine Wk 2 Nc ?_
 refine Wf 0 rfl rfl (fun hg=>Ff) ?_
 refine Wf 0 rfl rfl (fun hg=>Ba 0) ?_
 refine Wf 0 rfl rfl (fun hg=>Na (eg_ hg rfl)) ?_
 refine Wf 0 rfl rfl (fun hg=>Ff) ?_
 refine Wf 0 rfl rfl (fun hg=>Ba 1) ?_
 refine Wf 0 rfl rfl (fun hg=>Nc (eg_ hg rfl)) ?_
 refine Wf 0 rfl rfl (fun hg=>Fr) ?_
 refine Wk 1 Po ?_
 refine Wf 0 rfl rfl (fun hg=>Ff) ?_
 refine Wf 0 rfl rfl (fun hg=>Ba 0) ?_
 refine Wf 0 rfl rfl (fun hg=>Na (eg_ hg rfl)) ?_
 refine Wf 0 rfl rfl (fun hg=>Ff) ?_
 refine Wf 0 rfl rfl (fun hg=>Ba 1) ?_
 refine Wf 0 rfl rfl (fun hg=>Fr) ?_
 refine Wk 0 Po ?_
 refine Wd (Qc (CS.cond rfl ?_ ?_))<;>intro hc2<;>try simp only [bq] at hc2
 ·
  refine Nz 1 ?_
  exact Wd (Qc (Cr (Qr (out1 rfl rfl (Jac (by rw [e0,show stE r z.ths.l z.prs.l z.pls.l=28 from if_neg (by simp only [Bool.and_eq_true,decide_eq_true_eq]; omega)]))))))
 have e1:stE r z.ths.l z.prs.l z.pls.l=or0 (Jaz (Jht r z.ths.l) z.ths.l.length) (or0 (Jaz (Jhr r z.prs.l) z.prs.l.length) (Jaz (Jho r z.pls.l) z.pls.l.length)):=if_pos (by simp only [Bool.and_eq_true,decide_eq_true_eq]; omega)
 refine Ck (Qc (Cs (Nz 1 ?_)))
 refine Wk 0 (Ba 0) ?_
 refine Wk 1 Na ?_
 refine Wd (Qc (Ce ?_))
 refine CS.loopM (σ:=Int) [4,6,7,45,46,47,48,49,50,51,52,53,54] (fun s=>[(44,.int .i64 s)]) (fun _=>_) (fun s=>0≤s∧s≤z.ths.l.length∧∀ j:Int,0≤j→j < s→Jht r z.ths.l j=0) (fun s=>(z.ths.l.length - s).toNat) 0 (fun _ _=>rfl) rfl rfl ⟨by omega,by omega,fun j _ _=>by omega⟩ ?_
 intro a t hs
 obtain ⟨ha1,ha2,ha3⟩:=hs
 refine Nz 1 ?_
 refine Wd (Qc (Cs (CS.cond rfl ?_ ?_)))<;>intro hc3<;>try simp only [bq] at hc3
 ·
  refine Ck (Qc (Cs (Ce (Nz 1 ?_))))
  refine Wk 0 Xa ?_
  refine Wk 2 Ia ?_
  refine Wd (Qc (Nz 0 ?_))
  refine Wk 2 (Bb 1) ?_
  refine Wk 1 (Cb rfl rfl Jn2 (fun u hu=>Ji8 r u (hr.st hu) _ _)) ?_
  refine Wd (Qc (CS.cond rfl ?_ ?_))<;>intro hc4<;>try simp only [bq] at hc4
  ·
   refine Nz 1 ?_
   refine Wd (Qc (Cr (Qs (Qr (Qr (Qs (Qr ?_)))))))
   exact out1 rfl rfl (Jac (by
      have hE:Jht r z.ths.l a=28:=by (unfold Jht; grind)
      rw [e0,e1,Jcr ((Jaq ha1 (by omega) ha3 (by rw [hE]; decide)).trans hE) (by decide)]))
  refine Ck (Qb (Qc (Ny 0 ?_)))
  refine Wk 1 Za ?_
  refine Wd ?_
  exact QS.head (a+1) rfl rfl ⟨⟨by omega,by omega,fun j h0 h1=>by
     rcases (show j < a∨j=a by omega) with h | h
     ·
      exact ha3 j h0 h
     rw [h]; unfold Jht; exact if_pos hc4⟩,by omega⟩
 have e2:=(e0.trans e1).trans (Jb4 (Jao fun j a b=>ha3 j a (by omega)))
 refine Cv (Qe (Qe (Qx (Qc (Cs (Nz 1 ?_))))))
 refine Wk 0 (Ba 0) ?_
 refine Wk 1 Na ?_
 refine Wd (Qc (Ce ?_))
 refine CS.loopM (σ:=Int) [4,9,59,60,61,62,63,64,65,66,67,68,69,70,71,72,73] (fun s=>[(58,.int .i64 s)]) (fun _=>_) (fun s=>0≤s∧s≤z.prs.l.length∧∀ j:Int,0≤j→j < s→Jhr r z.prs.l j=0) (fun s=>(z.prs.l.length - s).toNat) 0 (fun _ _=>rfl) rfl rfl ⟨by omega,by omega,fun j _ _=>by omega⟩ ?_
 intro b t hs
 obtain ⟨hb1,hb2,hb3⟩:=hs
 refine Nz 1 ?_
 refine Wd (Qc (Cs (CS.cond rfl ?_ ?_)))<;>intro hc5<;>try simp only [bq] at hc5
 ·
  refine Ck (Qc (Cs (Ce (Nz 0 ?_))))
  refine Wk 0 Xa ?_
  refine Wk 1 Ia ?_
  refine Wd (Qc (Nz 2 ?_))
  refine Wk 0 (Ba 1) ?_
  refine Wk 0 Zb ?_
  refine Wk 1 Za ?_
  refine Wk 0 (Ba 1) ?_
  refine Wk 0 Nc ?_
  refine Wk 0 Zb ?_
  refine Wk 1 (Cb rfl rfl Jch (fun u hu=>Ja9 _ _ _ u)) ?_
  refine Wd (Qc (CS.cond rfl ?_ ?_))<;>intro hc6<;>try simp only [bq] at hc6
  ·
   refine Nz 1 ?_
   refine Wd (Qc (Cr (Qs (Qr (Qr (Qs (Qr ?_)))))))
   exact out1 rfl rfl (Jac (by
      have hE:Jhr r z.prs.l b=28:=by (unfold Jhr placeB; exact if_neg (by simp only [Bool.or_eq_true,Bool.and_eq_true,decide_eq_true_eq]; omega))
      rw [e2,Jcr ((Jaq hb1 (by omega) hb3 (by rw [hE]; decide)).trans hE) (by decide)]))
  refine Ck (Qb (Qc (Ny 0 ?_)))
  refine Wk 1 Za ?_
  refine Wd ?_
  exact QS.head (b+1) rfl rfl ⟨⟨by omega,by omega,fun j h0 h1=>by
     rcases (show j < b∨j=b by omega) with h | h
     ·
      exact hb3 j h0 h
     rw [h]; unfold Jhr placeB; exact if_pos (by simp only [Bool.or_eq_true,Bool.and_eq_true,decide_eq_true_eq]; omega)⟩,by omega⟩
 have e3:=e2.trans (Jb4 (Jao fun j a b=>hb3 j a (by omega)))
 refine Cv (Qe (Qe (Qx (Qc (Cs (Nz 1 ?_))))))
 refine Wk 0 (Ba 0) ?_
 refine Wk 1 Na ?_
 refine Wd (Qc (Ce ?_))
 refine CS.loopM (σ:=Int) [4,11,78,79,80,81,82,83,84,85,86,87,88] (fun s=>[(77,.int .i64 s)]) (fun _=>_) (fun s=>0≤s∧s≤z.pls.l.length∧∀ j:Int,0≤j→j < s→Jho r z.pls.l j=0) (fun s=>(z.pls.l.length - s).toNat) 0 (fun _ _=>rfl) rfl rfl ⟨by omega,by omega,fun j _ _=>by omega⟩ ?_
 intro d t hs
 obtain ⟨hd1,hd2,hd3⟩:=hs
 refine Nz 1 ?_
 refine Wd (Qc (Cs (CS.cond rfl ?_ ?_)))<;>intro hc7<;>try simp only [bq] at hc7
 ·
  refine Ck (Qc (Cs (Ce (Nz 0 ?_))))
  refine Wk 0 Xa ?_
  refine Wk 1 Ia ?_
  refine Wd (Qc (Nz 2 ?_))
  refine Wk 0 (Ba 1) ?_
  refine Wk 0 Nc ?_
  refine Wk 0 Zb ?_
  refine Wk 1 (Cb rfl rfl Jch (fun u hu=>Ja9 _ _ _ u)) ?_
  refine Wd (Qc (CS.cond rfl ?_ ?_))<;>intro hc8<;>try simp only [bq] at hc8
  ·
   refine Nz 1 ?_
   refine Wd (Qc (Cr (Qs (Qr (Qr (Qs (Qr ?_)))))))
   exact out1 rfl rfl (Jac (by
      have hE:Jho r z.pls.l d=28:=by (unfold Jho placeB; exact if_neg (by simp only [Bool.and_eq_true,decide_eq_true_eq]; omega))
      rw [e3,(Jaq hd1 (by omega) hd3 (by rw [hE]; decide)).trans hE]))
  refine Ck (Qb (Qc (Ny 0 ?_)))
  refine Wk 1 Za ?_
  refine Wd ?_
  exact QS.head (d+1) rfl rfl ⟨⟨by omega,by omega,fun j h0 h1=>by
     rcases (show j < d∨j=d by omega) with h | h
     ·
      exact hd3 j h0 h
     rw [h]; unfold Jho placeB; exact if_pos (by simp only [Bool.and_eq_true,decide_eq_true_eq]; omega)⟩,by omega⟩
 have e4:=e3.trans (Jao fun j a b=>hd3 j a (by omega))
 refine Cv (Qe (Qe (Qx (Qc (Nz 1 ?_)))))
 exact Wd (Qc (Cr (out1 rfl rfl (Jac (by rw [e4])))))
theorem Jpm {n:Int} (h : -9223372036854775808≤n∧n≤9223372036854775807):IntKind.i64.wrap n=n:=by
 simp [IntKind.wrap,IntKind.bits,IntKind.signed]
 omega
theorem Jnz {α β:Type} [Inhabited α] [Inhabited β] (f:α→β) {l:List α} {i:Int} (h0:0≤i) (h1:i < l.length):nth (l.map f) i=f (nth l i):=by
 have h2:i.toNat < l.length:=by omega
 simp [nth,List.getD,h2]
theorem Jm5 {r:Room} (hR:Ready r):StIn r (Jcm r):=by
 have hl:=hR.lens
 have hp:=hR.ply
 refine ⟨by simp [Jcm],by simp [Jcm],by simp [Jcm]; omega,fun i h0 h1=>?_,fun i h0 h1=>?_,fun i h0 h1=>?_⟩
 ·
  simp only [Jcm,List.length_map] at h1
  have h2:=hR.ths _ (Jaj h0 h1)
  simp only [thB,Bool.and_eq_true,decide_eq_true_eq] at h2
  simp only [Jcm]
  rw [Jnz _ h0 h1,putB,Jpm (by omega)]
  simp only [Bool.and_eq_true,decide_eq_true_eq]
  omega
 ·
  simp only [Jcm,List.length_map] at h1
  have h2:=(hR.prs _ (Jaj h0 h1)).2
  have e:nth (Jcm r).2.1 i=(nth r.prs.l i).pl:=Jnz Pro.pl h0 h1
  simp only [e]
  rcases h2 with h | h <;> simp [h]
 simp only [Jcm,List.length_replicate] at h1
 have:nth (List.replicate r.ply.toNat (0:Int)) i=0:=by
  have h2:i.toNat < r.ply.toNat:=by omega
  simp [nth,List.getD,h2]
 simp only [Jcm,this,placeB,Bool.and_eq_true,decide_eq_true_eq]
 omega
theorem Jxs (r:Room) (w:World) (hr:RoomOk w r) (g:Sl ByteArray) (hG:GOk w g) (hn:Near r) (z:Stt) (hz:SttOk w z) (c:Sl Lit) (hk:SlT cLit w c) :
  Calls Tryz.prog 88 #[.agg #[r.pls.v,r.ths.v,r.prs.v,r.wys.v,r.acs.v,r.aus.v,.int .i64 r.ply,r.gl.v],.agg #[z.ths.v,z.prs.v,z.pls.v],c.v] w (RetB w (.tuple #[.bool (HoldsV r z.x c.l).2,.int .i64 (HoldsV r z.x c.l).1])):=by
 refine enter Tryz.func88 rfl rfl (Nat.le_of_ble_eq_true rfl) ?_
 refine Nz 0 ?_
 refine Wb 0 rfl rfl (fun _=>rfl) (fun _=>rfl) fun b3 hb3=>?_
 refine Wb 2 rfl rfl (fun _=>rfl) (fun _=>rfl) fun b4 hb4=>?_
 refine Wd (Qc (Cs (Nz 0 ?_)))
 refine Wk 0 (Bb 1) ?_
 refine Wk 0 (Bb 0) ?_
 refine Wk 1 (Cb rfl rfl Jw9 (fun u hu=>Jco r u (hr.st hu) g (hG.st hu) hn z (hz.st hu))) ?_
 refine Wd (Qc (Nz 2 ?_))
 refine Wd (Qc (CS.cond rfl ?_ ?_))<;>intro hc1<;>try simp only [bq] at hc1
 ·
  have hS:¬ stL r z.x=0:=hc1
  refine Nz 3 ?_
  exact Wd (Qc (Cr (Qr (out2 rfl rfl rfl (Jac (by rw [show HoldsV r z.x c.l=(stL r z.x,false) from if_neg hS]; rfl))))))
 have hc1:Jer r z=0:=hc1
 have hc1:stL r z.x=0:=hc1
 have hS:stL r z.x=0:=by omega
 obtain ⟨hC,hI⟩:=Jd0.1 hS
 have hR:=Jdn hC
 have hlen:=hR.lens
 have hply:=hR.ply
 have hlt:z.ths.l.length=r.ths.l.length:=hI.lt
 have hlp:z.prs.l.length=r.prs.l.length:=hI.lp
 have hll:(z.pls.l.length:Int)=r.ply:=hI.ll
 refine Ck (Qc (Cs (Nz 0 ?_)))
 refine Wk 1 (Bb 1) ?_
 refine Wk 1 (Cb rfl rfl Jip (fun u hu=>Jfu r u (hr.st hu) _ (hk.st hu))) ?_
 refine Wd (Qc (CS.cond rfl ?_ ?_))<;>intro hc2<;>try simp only [bq] at hc2
 ·
  refine Nz 2 ?_
  exact Wd (Qc (Cr (Qr (out2 rfl rfl rfl (Jac (by rw [show HoldsV r z.x c.l=(25,false) from (if_pos hS).trans (if_neg (by rw [hc2]; decide))]))))))
 refine Ck (Qc (Nz 0 ?_))
 refine Wk 0 (Bb 1) ?_
 refine Wk 0 (Bb 0) ?_
 refine Wc rfl rfl Jr3 (fun u hu=>Js9 r u (hr.st hu) z (hz.st hu) (hI.small hR)) (fun _=>rfl) ?_; rintro ⟨tb,va,vb,vc⟩ ⟨hva,hvb,hvc⟩
 refine WS.unpack ?_
 refine Wz 1 ?_
 refine Wk 2 (Cb rfl rfl Jmf (fun u hu=>Jee tb r ⟨⟨va,z.ths.l⟩,⟨vb,z.prs.l⟩,⟨vc,z.pls.l⟩⟩ u ⟨Jap hu (j:=0) rfl,hr.st hu,(Jat hu (j:=1) rfl).tree,(Jat hu (j:=2) rfl).tree,(Jat hu (j:=3) rfl).tree⟩ c (hk.st hu) (by show Jdv z.ths.l.length _; rw [hlt]; exact Jel hc2))) ?_
 exact Wd (Qc (Cr (out2 rfl rfl rfl (Jac (by rw [show HoldsV r z.x c.l=(0,Jcq z.ths.l c.l) from (if_pos hS).trans (if_pos hc2)])))))
theorem Jy8 (r:Room) (w:World) (hr:RoomOk w r) (g:Sl ByteArray) (hG:GOk w g) (hn:Near r) (z:Stt) (hz:SttOk w z) :
  Calls Tryz.prog 59 #[.agg #[r.pls.v,r.ths.v,r.prs.v,r.wys.v,r.acs.v,r.aus.v,.int .i64 r.ply,r.gl.v],.agg #[z.ths.v,z.prs.v,z.pls.v]] w (RetB w (.tuple #[.bool (HoldsV r z.x r.gl.l).2,.int .i64 (HoldsV r z.x r.gl.l).1])):=by
 have kgl:=hr.gl
 refine enter Tryz.func59 rfl rfl (Nat.le_of_ble_eq_true rfl) ?_
 refine Nz 0 ?_
 refine Wb 0 rfl rfl (fun _=>rfl) (fun _=>rfl) fun b2 hb2=>?_
 refine Wb 2 rfl rfl (fun _=>rfl) (fun _=>rfl) fun b3 hb3=>?_
 refine Wd (Qc (Cs (Nz 0 ?_)))
 refine Wk 0 (Bb 1) ?_
 refine Wk 0 (Bb 0) ?_
 refine Wk 1 (Cb rfl rfl Jw9 (fun u hu=>Jco r u (hr.st hu) g (hG.st hu) hn z (hz.st hu))) ?_
 refine Wd (Qc (Nz 2 ?_))
 refine Wd (Qc (CS.cond rfl ?_ ?_))<;>intro hc1<;>try simp only [bq] at hc1
 ·
  have hS:¬ stL r z.x=0:=hc1
  refine Nz 3 ?_
  exact Wd (Qc (Cr (Qr (out2 rfl rfl rfl (Jac (by rw [show HoldsV r z.x r.gl.l=(stL r z.x,false) from if_neg hS]; rfl))))))
 have hc1:Jer r z=0:=hc1
 have hc1:stL r z.x=0:=hc1
 have hS:stL r z.x=0:=by omega
 obtain ⟨hC,hI⟩:=Jd0.1 hS
 have hR:=Jdn hC
 have hlen:=hR.lens
 have hply:=hR.ply
 have hlt:z.ths.l.length=r.ths.l.length:=hI.lt
 have hlp:z.prs.l.length=r.prs.l.length:=hI.lp
 have hll:(z.pls.l.length:Int)=r.ply:=hI.ll
 have hgc:Jev r.ths.l r.gl.l=true:=Jkr (Jbt (Jgz hC)).2
 refine Ck (Qc (Cs ?_))
 refine CS.drawnAll (k:=8) mixed rfl rfl ?_
 refine Ak 0 [] rfl (Bb 1) ?_
 refine Ak 1 [3] rfl (Bb 0) ?_
 refine Ak 4 [] rfl (Ba 1) ?_
 refine Ao 2 rfl ?_
 refine Wc rfl rfl Jr3 (fun u hu=>Js9 r u (hr.st hu) z (hz.st hu) (hI.small hR)) (fun _=>rfl) ?_; rintro ⟨tb,va,vb,vc⟩ ⟨hva,hvb,hvc⟩
 refine WS.unpack ?_
 refine Wd (Qa ?_)
 refine Ao 5 rfl ?_
 refine Wk 0 (Cb rfl rfl Jmf (fun u hu=>Jee tb r ⟨⟨va,z.ths.l⟩,⟨vb,z.prs.l⟩,⟨vc,z.pls.l⟩⟩ u ⟨Jap hu (j:=0) rfl,hr.st hu,(Jat hu (j:=1) rfl).tree,(Jat hu (j:=2) rfl).tree,(Jat hu (j:=3) rfl).tree⟩ r.gl (kgl.st hu) (by show Jdv z.ths.l.length _; rw [hlt]; exact hR.gl))) ?_
 refine Wd (Qa ?_)
 refine Ar [6,7] ?_
 refine Ae ?_
 exact Qc (Cr (out2 rfl rfl rfl (Jac (by rw [show HoldsV r z.x r.gl.l=(0,Jcq z.ths.l r.gl.l) from (if_pos hS).trans (if_pos hgc)]))))
theorem Jxr (r:Room) (w:World) (hr:RoomOk w r) (g:Sl ByteArray) (hG:GOk w g) (hn:Near r) :
  Calls Tryz.prog 56 #[.agg #[r.pls.v,r.ths.v,r.prs.v,r.wys.v,r.acs.v,r.aus.v,.int .i64 r.ply,r.gl.v]] w (RetS w (BeginV r).2 fun v=>.tuple #[v,.int .i64 (BeginV r).1]):=by
 have kpl:=hr.pls
 have lpl:=hr.pls.le
 have kth:=hr.ths
 have lth:=hr.ths.le
 have kpr:=hr.prs
 have lpr:=hr.prs.le
 have kwy:=hr.wys
 have lwy:=hr.wys.le
 have kac:=hr.acs
 have lac:=hr.acs.le
 have kau:=hr.aus
 have lau:=hr.aus.le
 have kgl:=hr.gl
 have lgl:=hr.gl.le
 refine enter Tryz.func56 rfl rfl (Nat.le_of_ble_eq_true rfl) ?_
 refine Nz 0 ?_
 refine Wb 0 rfl rfl (fun _=>rfl) (fun _=>rfl) fun b1 hb1=>?_
 refine Wl 1 zv94 (fun _=>rfl) (fun _=>rfl) fun b2 hb2=>?_
 refine Wd (Qc (Cs (Nz 0 ?_)))
 refine Wk 0 (Bb 1) ?_
 refine Wk 1 (Cb rfl rfl J0s (fun u hu=>Jiu r u (hr.st hu) g (hG.st hu) hn)) ?_
 refine Wd (Qc (Nz 2 ?_))
 refine Wd (Qc (CS.cond rfl ?_ ?_))<;>intro hc1<;>try simp only [bq] at hc1
 ·
  refine Nz 0 ?_
  refine Wk 1 (Db Jhs zv94) ?_
  refine Wv 1 0 ?_
  refine Wd (Qc (Cr (Qr ?_)))
  exact outR (Jc3 rfl (Jar (j:=0) rfl rfl tk94) rfl) (by
    have hv:BeginV r=(checkE r,no3):=if_neg hc1
    rw [hv]
    exact fun u hu=>Jqy (f:=fun v=>.tuple #[v,.int .i64 (checkE r)]) hu)
 have hc1:checkE r=0:=hc1
 have hR:=Jdn hc1
 have hlen:=hR.lens
 have hply:=hR.ply
 refine Ck (Qc (Nz 1 ?_))
 refine Wk 0 (Ba 1) ?_
 refine WS.makeInts sl86 rfl rfl zv3 (by omega) (by omega) (by omega) (fun _=>rfl) ?_; intro v18; refine WS.oc (j:=0) rfl (fun hv18=>?_)
 refine Wk 0 (Db Jhs zv94) ?_
 refine Wl 0 zv94 (fun _=>rfl) (fun _=>rfl) fun b5 hb5=>?_
 refine Wv 0 0 ?_
 refine Wd (Qc (Cs (Nz 1 ?_)))
 refine Wk 0 (Ba 3) ?_
 refine Wk 1 Nc ?_
 refine Wd (Qc (Ce ?_))
 refine CS.weak (fun _ hu=>hu.osl0 (e:=3) (size:=1)) ?_
 refine CS.loopM (σ:=Int × Value) [7,24,25,26,27,28,29,30,31,32,33,34] (fun s=>[(23,.int .i64 s.1)]) (fun s=>[oints 3 s.2 ((r.ths.l.take s.1.toNat).map Thing.sr),blk b5 [s.2,.slice none 0 0,v18] 94,oints 3 v18 (List.replicate r.ply.toNat 0),blk b2 [.slice none 0 0,.slice none 0 0,.slice none 0 0] 94,blk b1 [r.pls.v,r.ths.v,r.prs.v,r.wys.v,r.acs.v,r.aus.v,.int .i64 r.ply,r.gl.v] 43]) (fun s=>0≤s.1∧s.1≤r.ths.l.length) (fun s=>(r.ths.l.length - s.1).toNat) (0,.slice none 0 0) (fun _ _=>rfl) rfl rfl ⟨by simp,by simp⟩ ?_
 intro a t hs
 obtain ⟨ha1,ha2⟩:=hs
 have htl:=List.length_take_le a.1.toNat r.ths.l
 refine Nz 1 ?_
 refine Wd (Qc (Cs (CS.cond rfl ?_ ?_)))<;>intro hc2<;>try simp only [bq] at hc2
 ·
  refine Ck (Qc (Cs (Ce (Nz 0 ?_))))
  refine Wk 0 Xc ?_
  refine Wk 0 Ua ?_
  refine Wl 0 Js2 (fun _=>rfl) (fun _=>rfl) fun b7 hb7=>?_
  refine Wv 0 0 ?_
  refine Wd (Qc (Ny 1 ?_))
  refine Wk 1 (Ba 2) ?_
  refine Wk 0 (Ba 0) ?_
  refine WS.buildI1 sl86 zv3 rfl (fun _=>rfl) ?_; intro v31
  refine WS.appendI (j:=2) sl86 zv3 rfl rfl rfl (fun u hu=>Jat hu (j:=0) rfl) (by first | omega | (simp; omega) | (simp only [List.length_append,List.length_singleton,List.length_map,List.length_cons,List.length_nil] at *; omega)) (by first | omega | (simp; omega) | (simp only [List.length_append,List.length_singleton,List.length_map,List.length_cons,List.length_nil] at *; omega)) (fun _=>rfl) (fun _=>rfl) ?_; intro v32; refine WS.oc (j:=2) rfl (fun hv32=>?_)
  refine Wz 1 ?_
  refine Ws 0 3 ?_
  refine Wd (Qb (Qc (Ny 0 ?_)))
  refine Wk 1 Za ?_
  refine Wd ?_
  refine QS.sel [2,2,2,2,2] rfl ?_
  exact QS.head ((a.1+1,v32)) rfl (by simp only [← Jow Thing.sr ha1 (by omega:a.1 < r.ths.l.length)]) ⟨⟨by simp; omega,by simp; omega⟩,by simp; omega⟩
 have hta:r.ths.l.take a.1.toNat=r.ths.l:=List.take_of_length_le (by omega)
 rw [hta]
 refine Cv (Qe (Qe (Qx (Qc (Cs (Nz 1 ?_))))))
 refine Wk 0 (Ba 4) ?_
 refine Wk 1 Nc ?_
 refine Wd (Qc (Ce ?_))
 refine CS.weak (fun _ hu=>hu.osl0 (e:=3) (size:=1)) ?_
 refine CS.loopM (σ:=Int × Value) [9,39,40,41,42,43,44,45,46,47,48,49] (fun s=>[(38,.int .i64 s.1)]) (fun s=>[oints 3 s.2 ((r.prs.l.take s.1.toNat).map Pro.pl),oints 3 a.2 (r.ths.l.map Thing.sr),blk b5 [a.2,s.2,v18] 94,oints 3 v18 (List.replicate r.ply.toNat 0),blk b2 [.slice none 0 0,.slice none 0 0,.slice none 0 0] 94,blk b1 [r.pls.v,r.ths.v,r.prs.v,r.wys.v,r.acs.v,r.aus.v,.int .i64 r.ply,r.gl.v] 43]) (fun s=>0≤s.1∧s.1≤r.prs.l.length) (fun s=>(r.prs.l.length - s.1).toNat) (0,.slice none 0 0) (fun _ _=>rfl) rfl rfl ⟨by simp,by simp⟩ ?_
 intro d t hs
 obtain ⟨hd1,hd2⟩:=hs
 have htl:=List.length_take_le d.1.toNat r.prs.l
 refine Nz 1 ?_
 refine Wd (Qc (Cs (CS.cond rfl ?_ ?_)))<;>intro hc3<;>try simp only [bq] at hc3
 ·
  have hwh:SlT cLit w (nth r.prs.l d.1).wh:=hr.prs.at hd1 (by omega)
  refine Ck (Qc (Cs (Ce (Nz 0 ?_))))
  refine Wk 0 Xc ?_
  refine Wk 0 Ua ?_
  refine Wl 0 Jvz (fun _=>rfl) (fun _=>rfl) fun b9 hb9=>?_
  refine Wv 0 0 ?_
  refine Wd (Qc (Ny 1 ?_))
  refine Wk 1 (Ba 3) ?_
  refine Wk 0 (Ba 0) ?_
  refine WS.buildI1 sl86 zv3 rfl (fun _=>rfl) ?_; intro v46
  refine WS.appendI (j:=2) sl86 zv3 rfl rfl rfl (fun u hu=>Jat hu (j:=0) rfl) (by first | omega | (simp; omega) | (simp only [List.length_append,List.length_singleton,List.length_map,List.length_cons,List.length_nil] at *; omega)) (by first | omega | (simp; omega) | (simp only [List.length_append,List.length_singleton,List.length_map,List.length_cons,List.length_nil] at *; omega)) (fun _=>rfl) (fun _=>rfl) ?_; intro v47; refine WS.oc (j:=2) rfl (fun hv47=>?_)
  refine Wz 1 ?_
  refine Ws 0 4 ?_
  refine Wd (Qb (Qc (Ny 0 ?_)))
  refine Wk 1 Za ?_
  refine Wd ?_
  refine QS.sel [2,2,2,2,2,2] rfl ?_
  exact QS.head ((d.1+1,v47)) rfl (by simp only [← Jow Pro.pl hd1 (by omega:d.1 < r.prs.l.length)]) ⟨⟨by simp; omega,by simp; omega⟩,by simp; omega⟩
 have hta:r.prs.l.take d.1.toNat=r.prs.l:=List.take_of_length_le (by omega)
 rw [hta]
 refine Cv (Qe (Qe (Qx (Qc (Cs ?_)))))
 rcases Bool.eq_false_or_eq_true ((settleN r.aus.l 101 (r.ths.l.map Thing.sr)).isSome) with hb | hb
 ·
  refine Ny 0 ?_
  refine Wk 0 (Bb 5) ?_
  refine Wk 0 (Bb 2) ?_
  refine Wc rfl rfl Jr3 (fun u hu=>Js9 r u (hr.st hu) ⟨⟨a.2,r.ths.l.map Thing.sr⟩,⟨d.2,r.prs.l.map Pro.pl⟩,⟨v18,List.replicate r.ply.toNat 0⟩⟩ ⟨(Jat hu (j:=1) rfl).tree,(Jat hu (j:=0) rfl).tree,(Jat hu (j:=3) rfl).tree⟩ (by simp; omega)) (fun _=>rfl) ?_; rintro ⟨tb,va,vb,vc⟩ ⟨hva,hvb,hvc⟩
  refine WS.unpack ?_
  refine WS.callS rfl rfl Jv0 (fun u hu=>Jdh [] _ r hr tb va vb vc hva hvb hvc (r.ths.l.map Thing.sr) (r.prs.l.map Pro.pl) (List.replicate r.ply.toNat 0) (by rw [List.length_map]; exact hR.aus) hb hu) (fun _=>rfl) ?_; rintro o ⟨ho,hol⟩
  refine Wz 2 ?_
  refine Wv 1 8 ?_
  refine Wd (Qc (Cr ?_))
  exact outR (Jc3 rfl (Jar (j:=8) rfl rfl tk94) rfl) (by
    have hv:BeginV r=(0,(o,r.prs.l.map Pro.pl,List.replicate r.ply.toNat 0)):=(if_pos hc1).trans ((if_pos (Jd0.2 ⟨hc1,Jm5 hR⟩)).trans (by rw [Jkx (r:=r) (x:=Jcm r) hb ho]; rfl))
    rw [hv]
    exact fun u hu=>retS (f:=fun v=>.tuple #[v,.int .i64 0]) (is:=[1,1,1]) rfl hu)
 refine Ny 0 ?_
 refine Wk 0 (Bb 5) ?_
 refine Wk 0 (Bb 2) ?_
 refine Wc rfl rfl Jr3 (fun u hu=>Js9 r u (hr.st hu) ⟨⟨a.2,r.ths.l.map Thing.sr⟩,⟨d.2,r.prs.l.map Pro.pl⟩,⟨v18,List.replicate r.ply.toNat 0⟩⟩ ⟨(Jat hu (j:=1) rfl).tree,(Jat hu (j:=0) rfl).tree,(Jat hu (j:=3) rfl).tree⟩ (by simp; omega)) (fun _=>rfl) ?_; rintro ⟨tb,va,vb,vc⟩ ⟨hva,hvb,hvc⟩
 refine WS.unpack ?_
 refine WS.callS rfl rfl Jv0 (fun u hu=>Jdh [] _ r hr tb va vb vc hva hvb hvc (r.ths.l.map Thing.sr) (r.prs.l.map Pro.pl) (List.replicate r.ply.toNat 0) (by rw [List.length_map]; exact hR.aus) hb hu) (fun _=>rfl) ?_; rintro o ⟨ho,hol⟩
 refine Wz 2 ?_
 refine Wv 1 8 ?_
 refine Wd (Qc (Cr ?_))
 exact outR (Jc3 rfl (Jar (j:=8) rfl rfl tk94) rfl) (by
   have hv:BeginV r=(27,no3):=(if_pos hc1).trans ((if_pos (Jd0.2 ⟨hc1,Jm5 hR⟩)).trans (by rw [Jj5 (r:=r) (x:=Jcm r) hb]; rfl))
   rw [hv]
   exact fun u hu=>Jqy (f:=fun v=>.tuple #[v,.int .i64 (27)]) hu)
theorem Ji9 (r:Room) (w:World) (hr:RoomOk w r) (g:Sl ByteArray) (hG:GOk w g) (hn:Near r) (z:Stt) (hz:SttOk w z) (m:Move) :
  Calls Tryz.prog 95 #[.agg #[r.pls.v,r.ths.v,r.prs.v,r.wys.v,r.acs.v,r.aus.v,.int .i64 r.ply,r.gl.v],.agg #[z.ths.v,z.prs.v,z.pls.v],.agg #[.int .i64 m.p,.int .i64 m.k,.int .i64 m.n]] w (RetS w (StepV r z.x m).2 fun v=>.tuple #[v,.int .i64 (StepV r z.x m).1]):=by
 refine enter Tryz.func95 rfl rfl (Nat.le_of_ble_eq_true rfl) ?_
 refine Nz 0 ?_
 refine Wb 0 rfl rfl (fun _=>rfl) (fun _=>rfl) fun b3 hb3=>?_
 refine Wb 0 rfl rfl (fun _=>rfl) (fun _=>rfl) fun b4 hb4=>?_
 refine Wb 0 rfl rfl (fun _=>rfl) (fun _=>rfl) fun b5 hb5=>?_
 refine Wl 1 zv94 (fun _=>rfl) (fun _=>rfl) fun b6 hb6=>?_
 refine Wd (Qc (Cs (Nz 0 ?_)))
 refine Wk 0 (Bb 3) ?_
 refine Wk 0 (Bb 2) ?_
 refine Wk 1 (Cb rfl rfl Jw9 (fun u hu=>Jco r u (hr.st hu) g (hG.st hu) hn z (hz.st hu))) ?_
 refine Wd (Qc (Nz 2 ?_))
 refine Wd (Qc (CS.cond rfl ?_ ?_))<;>intro hc1<;>try simp only [bq] at hc1
 ·
  have hS:¬ stL r z.x=0:=hc1
  refine Nz 0 ?_
  refine Wk 1 (Db Jhs zv94) ?_
  refine Wv 1 0 ?_
  refine Wd (Qc (Cr (Qr ?_)))
  exact outR (Jc3 rfl (Jar (j:=0) rfl rfl tk94) rfl) (by
    have hv:StepV r z.x m=(stL r z.x,no3):=if_neg hS
    rw [hv]
    exact fun u hu=>Jqy (f:=fun v=>.tuple #[v,.int .i64 (stL r z.x)]) hu)
 have hc1:Jer r z=0:=hc1
 have hc1:stL r z.x=0:=hc1
 have hS:stL r z.x=0:=by omega
 obtain ⟨hC,hI⟩:=Jd0.1 hS
 have hR:=Jdn hC
 have hlen:=hR.lens
 have hply:=hR.ply
 have hlt:z.ths.l.length=r.ths.l.length:=hI.lt
 have hlp:z.prs.l.length=r.prs.l.length:=hI.lp
 have hll:(z.pls.l.length:Int)=r.ply:=hI.ll
 refine Ck (Qc (Nz 0 ?_))
 refine Wk 0 (Bb 3) ?_
 refine Wk 0 (Bb 2) ?_
 refine Wc rfl rfl Jr3 (fun u hu=>Js9 r u (hr.st hu) z (hz.st hu) (hI.small hR)) (fun _=>rfl) ?_; rintro ⟨tb,va,vb,vc⟩ ⟨hva,hvb,hvc⟩
 refine WS.unpack ?_
 refine Wz 1 ?_
 refine Wd (Qc (Cs (Nz 1 ?_)))
 refine Wk 0 (Bb 5) ?_
 refine Wk 1 (Cb rfl rfl J20 (fun u hu=>Jxx tb r ⟨⟨va,z.ths.l⟩,⟨vb,z.prs.l⟩,⟨vc,z.pls.l⟩⟩ u ⟨Jap hu (j:=0) rfl,hr.st hu,(Jat hu (j:=1) rfl).tree,(Jat hu (j:=2) rfl).tree,(Jat hu (j:=3) rfl).tree⟩ hR hI m)) ?_
 refine Wd (Qc (CS.cond rfl ?_ ?_))<;>intro hc2<;>try simp only [bq] at hc2
 ·
  refine Nz 0 ?_
  refine Wk 0 (Db Jhs zv94) ?_
  refine Wv 1 4 ?_
  refine Wd (Qc (Cr (Qr ?_)))
  exact outR (Jc3 rfl (Jar (j:=4) rfl rfl tk94) rfl) (by
    have hv:StepV r z.x m=(29,no3):=(if_pos hS).trans (if_neg (by rw [show legalB r z.x m=false from hc2]; decide))
    rw [hv]
    exact fun u hu=>Jqy (f:=fun v=>.tuple #[v,.int .i64 (29)]) hu)
 refine Ck (Qc (Nz 1 ?_))
 refine Wk 0 (Bb 5) ?_
 refine WS.callS rfl rfl J2w (fun u hu=>Jw0 [] _ r hr hR tb va vb vc z.x hI m hc2 hu) (fun _=>rfl) ?_; rintro _ _
 refine Wd (Qc (Cs ?_))
 rcases Bool.eq_false_or_eq_true ((settleN r.aus.l 101 (moveX r z.x m).1).isSome) with hb | hb
 ·
  refine Ny 1 ?_
  refine WS.callS rfl rfl Jv0 (fun u hu=>Jdh [] _ r hr tb va vb vc hva hvb hvc (moveX r z.x m).1 (moveX r z.x m).2.1 (moveX r z.x m).2.2 (by rw [Jhl.1]; exact hI.autos hR) hb hu) (fun _=>rfl) ?_; rintro o ⟨ho,hol⟩
  refine Wz 2 ?_
  refine Wv 1 4 ?_
  refine Wd (Qc (Cr ?_))
  exact outR (Jc3 rfl (Jar (j:=4) rfl rfl tk94) rfl) (by
    have hv:StepV r z.x m=(0,(o,(moveX r z.x m).2.1,(moveX r z.x m).2.2)):=(if_pos hS).trans ((if_pos hc2).trans (by rw [Jkx (r:=r) (x:=moveX r z.x m) hb ho]; rfl))
    rw [hv]
    exact fun u hu=>retS (f:=fun v=>.tuple #[v,.int .i64 0]) (is:=[1,1,1]) rfl hu)
 refine Ny 1 ?_
 refine WS.callS rfl rfl Jv0 (fun u hu=>Jdh [] _ r hr tb va vb vc hva hvb hvc (moveX r z.x m).1 (moveX r z.x m).2.1 (moveX r z.x m).2.2 (by rw [Jhl.1]; exact hI.autos hR) hb hu) (fun _=>rfl) ?_; rintro o ⟨ho,hol⟩
 refine Wz 2 ?_
 refine Wv 1 4 ?_
 refine Wd (Qc (Cr ?_))
 exact outR (Jc3 rfl (Jar (j:=4) rfl rfl tk94) rfl) (by
   have hv:StepV r z.x m=(27,no3):=(if_pos hS).trans ((if_pos hc2).trans (by rw [Jj5 (r:=r) (x:=moveX r z.x m) hb]; rfl))
   rw [hv]
   exact fun u hu=>Jqy (f:=fun v=>.tuple #[v,.int .i64 (27)]) hu)
end Go.Proofs.YtfbfdnoodccgiaaGreatDoor
