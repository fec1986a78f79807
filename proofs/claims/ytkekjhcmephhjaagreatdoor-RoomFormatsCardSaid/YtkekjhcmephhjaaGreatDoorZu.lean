/- Merged texts of this proof (walks and plain laws), printed by a program of the prover. -/
import Derived.Test.YtkekjhcmephhjaaGreatDoorZr
import Derived.Test.YtkekjhcmephhjaaGreatDoorZo
set_option maxHeartbeats 8000000
namespace Go.Proofs.YtkekjhcmephhjaaGreatDoor
open Go.RowKit Go.Proofs
set_option maxRecDepth 100000
set_option linter.unusedVariables false
set_option linter.unusedSimpArgs false
theorem J1l (x y:Pro):clB (x.e=y.e)=((seq x.nm y.nm && decide (x.pl=y.pl)) && clB (x.wh.l=y.wh.l)):=by
 rw [Jsg, ← Je3, ← Je6, ← Je6]
 exact congrArg clB (propext ⟨fun h=>by
  have h1:=congrArg Pro.nm h
  have h2:=congrArg Pro.pl h
  exact ⟨⟨h1,h2⟩,Je0 (congrArg Pro.wh h)⟩,fun h=>Jy3 h.1.1 h.1.2 h.2⟩)
theorem J1s (x y:Way):clB (x.e=y.e)=((decide (x.a=y.a) && decide (x.b=y.b)) && clB (x.wh.l=y.wh.l)):=by
 rw [← Je3, ← Je3, ← Je6, ← Je6]
 exact congrArg clB (propext ⟨fun h=>by
  have h1:=congrArg Way.a h
  have h2:=congrArg Way.b h
  exact ⟨⟨h1,h2⟩,Je0 (congrArg Way.wh h)⟩,fun h=>Jyz h.1.1 h.1.2 h.2⟩)
theorem Jza (x y:Auto):clB (x.e=y.e)=(decide ((⟨x.t,x.s⟩:Put)=⟨y.t,y.s⟩) && clB (x.wh.l=y.wh.l)):=by
 rw [← Je3, ← Je6]
 exact congrArg clB (propext ⟨fun h=>by
  have h1:=congrArg Auto.t h
  have h2:=congrArg Auto.s h
  exact ⟨congr (congrArg Put.mk h1) h2,Je0 (congrArg Auto.wh h)⟩,fun h=>Jx9 (congrArg Put.t h.1) (congrArg Put.s h.1) h.2⟩)
theorem J2c (x y:Actn):clB (x.e=y.e)=(((((((seq x.nm y.nm && decide (x.pl=y.pl)) && decide (x.lk=y.lk)) && clB (x.us.l=y.us.l)) && clB (x.wh.l=y.wh.l)) && clB (x.se.l=y.se.l)) && clB (x.sp.l=y.sp.l)) && clB (x.br.l=y.br.l)):=by
 rw [Jsg, ← Je3, ← Je3]
 iterate 7 rw [← Je6]
 exact congrArg clB (propext ⟨fun h=>by
  have q:=Je1 h
  exact ⟨⟨⟨⟨⟨⟨⟨q.nm,q.pl⟩,q.lk⟩,q.us⟩,q.wh⟩,q.se⟩,q.sp⟩,q.br⟩,fun ⟨⟨⟨⟨⟨⟨⟨h1,h2⟩,h3⟩,h4⟩,h5⟩,h6⟩,h7⟩,h8⟩=>J2t ⟨h1,h2,h3,h4,h5,h6,h7,h8⟩⟩)
theorem Jy2 (x y:Room):clB (x.e=y.e)=(((((((clB (x.pls.l=y.pls.l) && clB (x.ths.l=y.ths.l)) && clB (x.prs.l.map Pro.e=y.prs.l.map Pro.e)) && clB (x.wys.l.map Way.e=y.wys.l.map Way.e)) && clB (x.acs.l.map Actn.e=y.acs.l.map Actn.e)) && clB (x.aus.l.map Auto.e=y.aus.l.map Auto.e)) && decide (x.ply=y.ply)) && clB (x.gl.l=y.gl.l)):=by
 rw [← Je3]
 iterate 7 rw [← Je6]
 exact congrArg clB (propext ⟨fun h=>by
  have q:=Jeq h
  have h4:x.wys.e Way.e=y.wys.e Way.e:=congrArg Room.wys h
  exact ⟨⟨⟨⟨⟨⟨⟨q.pls,q.ths⟩,q.prs⟩,Jea h4⟩,q.acs⟩,q.aus⟩,q.ply⟩,q.gl⟩,fun ⟨⟨⟨⟨⟨⟨⟨h1,h2⟩,h3⟩,h4⟩,h5⟩,h6⟩,h7⟩,h8⟩=>Jyi h1 h2 h3 h4 h5 h6 h7 h8⟩)
theorem Jgy (x y:Sl Lit) (w:World) (hx:SlT cLit w x) (hy:SlT cLit w y) :
  Calls Tryz.prog 43 #[x.v,y.v] w (RetB w (.bool (clB (x.l=y.l)))):=by
 have lx:=hx.le
 have ly:=hy.le
 refine enter Tryz.func43 rfl rfl (Nat.le_of_ble_eq_true rfl) ?_
 refine Nz 1 ?_
 refine Wd (Qc (Cs (Nz 1 ?_)))
 refine Wk 1 Nc ?_
 refine Wk 1 Nc ?_
 refine Wd (Qc (CS.cond rfl ?_ ?_))<;>intro hc1<;>try simp only [bq] at hc1
 ·
  refine Nz 1 ?_
  exact Wd (Qc (Cr (Qr (out1 rfl rfl (Jah (by rw [Jbk (fun h=>hc1 (by rw [h]))]))))))
 refine Ck (Qc (Cs (Nz 1 ?_)))
 refine Wk 1 Nc ?_
 refine Wd (Qc (Ce ?_))
 refine CS.loopM (σ:=Int) [4,5,14,15,16,17,18,19,20,21,22,23,24,25] (fun s=>[(13,.int .i64 s)]) (fun _=>_) (fun s=>0≤s∧s≤x.l.length∧∀ j:Int,0≤j→j < s→nth x.l j=nth y.l j) (fun s=>(x.l.length - s).toNat) 0 (fun _ _=>rfl) rfl rfl ⟨by omega,by omega,fun j _ _=>by omega⟩ ?_
 intro a t hs
 obtain ⟨ha1,ha2,ha3⟩:=hs
 refine Nz 1 ?_
 refine Wd (Qc (Cs (CS.cond rfl ?_ ?_)))<;>intro hc2<;>try simp only [bq] at hc2
 ·
  refine Ck (Qc (Cs (Ce (Nz 2 ?_))))
  refine Wd (Qc (Cs (Dr mixed 2 ?_)))
  refine Dk 0 Xc ?_
  refine Dk 2 Ua ?_
  refine Dk 0 Xc ?_
  refine Dk 0 Ua ?_
  refine Dk 0 (Jdu J26 rfl rfl (Jr9 (nth x.l a) (nth y.l a))) ?_
  refine Dd (Qc (CS.cond rfl ?_ ?_))<;>intro hc3<;>try simp only [bq] at hc3
  ·
   refine Nz 1 ?_
   exact Wd (Qc (Cr (Qs (Qr (Qr (Qs (Qr (out1 rfl rfl (Jah (by rw [Jbk (fun h=>by first | exact hc3 (by rw [h]) | (rw [h,Jbz rfl] at hc3; cases hc3) | (rw [h,Jcy] at hc3; cases hc3))]))))))))))
  refine Ck (Qb (Qc (Ny 0 ?_)))
  refine Wk 1 Za ?_
  refine Wd ?_
  exact QS.head (a+1) rfl rfl ⟨⟨by omega,by omega,fun j h0 h1=>by
     rcases (show j < a∨j=a by omega) with h | h
     ·
      exact ha3 j h0 h
     rw [h]; exact hc3⟩,by omega⟩
 refine Cv (Qe (Qe (Qx (Qc (Nz 1 ?_)))))
 exact Wd (Qc (Cr (out1 rfl rfl (Jah (by rw [Jbz (Jga hc2 (by omega) ha3)])))))
theorem J0k (x y:Sl Put) (w:World) (hx:SlT cPut w x) (hy:SlT cPut w y) :
  Calls Tryz.prog 47 #[x.v,y.v] w (RetB w (.bool (clB (x.l=y.l)))):=by
 have lx:=hx.le
 have ly:=hy.le
 refine enter Tryz.func47 rfl rfl (Nat.le_of_ble_eq_true rfl) ?_
 refine Nz 1 ?_
 refine Wd (Qc (Cs (Nz 1 ?_)))
 refine Wk 1 Nc ?_
 refine Wk 1 Nc ?_
 refine Wd (Qc (CS.cond rfl ?_ ?_))<;>intro hc1<;>try simp only [bq] at hc1
 ·
  refine Nz 1 ?_
  exact Wd (Qc (Cr (Qr (out1 rfl rfl (Jah (by rw [Jbk (fun h=>hc1 (by rw [h]))]))))))
 refine Ck (Qc (Cs (Nz 1 ?_)))
 refine Wk 1 Nc ?_
 refine Wd (Qc (Ce ?_))
 refine CS.loopM (σ:=Int) [4,5,14,15,16,17,18,19,20,21,22,23,24,25] (fun s=>[(13,.int .i64 s)]) (fun _=>_) (fun s=>0≤s∧s≤x.l.length∧∀ j:Int,0≤j→j < s→nth x.l j=nth y.l j) (fun s=>(x.l.length - s).toNat) 0 (fun _ _=>rfl) rfl rfl ⟨by omega,by omega,fun j _ _=>by omega⟩ ?_
 intro a t hs
 obtain ⟨ha1,ha2,ha3⟩:=hs
 refine Nz 1 ?_
 refine Wd (Qc (Cs (CS.cond rfl ?_ ?_)))<;>intro hc2<;>try simp only [bq] at hc2
 ·
  refine Ck (Qc (Cs (Ce (Nz 2 ?_))))
  refine Wd (Qc (Cs (Dr mixed 2 ?_)))
  refine Dk 0 Xc ?_
  refine Dk 2 Ua ?_
  refine Dk 0 Xc ?_
  refine Dk 0 Ua ?_
  refine Dk 0 (Jdu Jw4 rfl rfl (Jm9 (nth x.l a) (nth y.l a))) ?_
  refine Dd (Qc (CS.cond rfl ?_ ?_))<;>intro hc3<;>try simp only [bq] at hc3
  ·
   refine Nz 1 ?_
   exact Wd (Qc (Cr (Qs (Qr (Qr (Qs (Qr (out1 rfl rfl (Jah (by rw [Jbk (fun h=>by first | exact hc3 (by rw [h]) | (rw [h,Jbz rfl] at hc3; cases hc3) | (rw [h,Jcy] at hc3; cases hc3))]))))))))))
  refine Ck (Qb (Qc (Ny 0 ?_)))
  refine Wk 1 Za ?_
  refine Wd ?_
  exact QS.head (a+1) rfl rfl ⟨⟨by omega,by omega,fun j h0 h1=>by
     rcases (show j < a∨j=a by omega) with h | h
     ·
      exact ha3 j h0 h
     rw [h]; exact hc3⟩,by omega⟩
 refine Cv (Qe (Qe (Qx (Qc (Nz 1 ?_)))))
 exact Wd (Qc (Cr (out1 rfl rfl (Jah (by rw [Jbz (Jga hc2 (by omega) ha3)])))))
theorem Ju0 (x y:Sl Thing) (w:World) (hx:SlT cThing w x) (hy:SlT cThing w y) :
  Calls Tryz.prog 50 #[x.v,y.v] w (RetB w (.bool (clB (x.l=y.l)))):=by
 have lx:=hx.le
 have ly:=hy.le
 refine enter Tryz.func50 rfl rfl (Nat.le_of_ble_eq_true rfl) ?_
 refine Nz 1 ?_
 refine Wd (Qc (Cs (Nz 1 ?_)))
 refine Wk 1 Nc ?_
 refine Wk 1 Nc ?_
 refine Wd (Qc (CS.cond rfl ?_ ?_))<;>intro hc1<;>try simp only [bq] at hc1
 ·
  refine Nz 1 ?_
  exact Wd (Qc (Cr (Qr (out1 rfl rfl (Jah (by rw [Jbk (fun h=>hc1 (by rw [h]))]))))))
 refine Ck (Qc (Cs (Nz 1 ?_)))
 refine Wk 1 Nc ?_
 refine Wd (Qc (Ce ?_))
 refine CS.loopM (σ:=Int) [4,5,14,15,16,17,18,19,20,21,22,23,24,25] (fun s=>[(13,.int .i64 s)]) (fun _=>_) (fun s=>0≤s∧s≤x.l.length∧∀ j:Int,0≤j→j < s→nth x.l j=nth y.l j) (fun s=>(x.l.length - s).toNat) 0 (fun _ _=>rfl) rfl rfl ⟨by omega,by omega,fun j _ _=>by omega⟩ ?_
 intro a t hs
 obtain ⟨ha1,ha2,ha3⟩:=hs
 refine Nz 1 ?_
 refine Wd (Qc (Cs (CS.cond rfl ?_ ?_)))<;>intro hc2<;>try simp only [bq] at hc2
 ·
  refine Ck (Qc (Cs (Ce (Nz 2 ?_))))
  refine Wd (Qc (Cs (Dr mixed 2 ?_)))
  refine Dk 0 Xc ?_
  refine Dk 2 Ua ?_
  refine Dk 0 Xc ?_
  refine Dk 0 Ua ?_
  refine Dk 0 (Jdu Jtc rfl rfl (Jl0 (nth x.l a) (nth y.l a))) ?_
  refine Dd (Qc (CS.cond rfl ?_ ?_))<;>intro hc3<;>try simp only [bq] at hc3
  ·
   refine Nz 1 ?_
   exact Wd (Qc (Cr (Qs (Qr (Qr (Qs (Qr (out1 rfl rfl (Jah (by rw [Jbk (fun h=>by first | exact hc3 (by rw [h]) | (rw [h,Jbz rfl] at hc3; cases hc3) | (rw [h,Jcy] at hc3; cases hc3))]))))))))))
  refine Ck (Qb (Qc (Ny 0 ?_)))
  refine Wk 1 Za ?_
  refine Wd ?_
  exact QS.head (a+1) rfl rfl ⟨⟨by omega,by omega,fun j h0 h1=>by
     rcases (show j < a∨j=a by omega) with h | h
     ·
      exact ha3 j h0 h
     rw [h]; exact Jbv.1 hc3⟩,by omega⟩
 refine Cv (Qe (Qe (Qx (Qc (Nz 1 ?_)))))
 exact Wd (Qc (Cr (out1 rfl rfl (Jah (by rw [Jbz (Jga hc2 (by omega) ha3)])))))
theorem Jnz (x y:Sl Int) (w:World) (hx:SlT cInt w x) (hy:SlT cInt w y) :
  Calls Tryz.prog 46 #[x.v,y.v] w (RetB w (.bool (clB (x.l=y.l)))):=by
 have lx:=hx.le
 have ly:=hy.le
 have kx:=hx.ints
 have ky:=hy.ints
 refine enter Tryz.func46 rfl rfl (Nat.le_of_ble_eq_true rfl) ?_
 refine Nz 1 ?_
 refine Wd (Qc (Cs (Nz 1 ?_)))
 refine Wk 1 (Nc (s:=x)) ?_
 refine Wk 1 (Nc (s:=y)) ?_
 refine Wd (Qc (CS.cond rfl ?_ ?_))<;>intro hc1<;>try simp only [bq] at hc1
 ·
  refine Nz 1 ?_
  exact Wd (Qc (Cr (Qr (out1 rfl rfl (Jah (by rw [Jbk (fun h=>hc1 (by rw [h]))]))))))
 refine Ck (Qc (Cs (Nz 1 ?_)))
 refine Wk 1 (Nc (s:=x)) ?_
 refine Wd (Qc (Ce ?_))
 refine CS.loopM (σ:=Int) [4,5,14,15,16,17,18,19,20,21,22,23,24,25] (fun s=>[(13,.int .i64 s)]) (fun _=>_) (fun s=>0≤s∧s≤x.l.length∧∀ j:Int,0≤j→j < s→nth x.l j=nth y.l j) (fun s=>(x.l.length - s).toNat) 0 (fun _ _=>rfl) rfl rfl ⟨by omega,by omega,fun j _ _=>by omega⟩ ?_
 intro a t hs
 obtain ⟨ha1,ha2,ha3⟩:=hs
 refine Nz 1 ?_
 refine Wd (Qc (Cs (CS.cond rfl ?_ ?_)))<;>intro hc2<;>try simp only [bq] at hc2
 ·
  refine Ck (Qc (Cs (Ce (Nz 2 ?_))))
  refine Wd (Qc (Cs (Dr mixed 2 ?_)))
  refine Dk 0 (by first | exact Jgx sl43 rfl rfl (by assumption) (by omega) (by omega) | exact Jfb sl43 rfl rfl (by omega) (by omega)) ?_
  refine Dk 2 (by first | exact Jd1 rfl (by assumption) (by omega) tk3 | exact Jaa (j:=0) rfl rfl rfl tk3 | exact Jaa (j:=1) rfl rfl rfl tk3 | exact Jaa (j:=2) rfl rfl rfl tk3 | exact Jaa (j:=3) rfl rfl rfl tk3 | exact Jab rfl (by assumption) rfl tk3) ?_
  refine Dk 0 (by first | exact Jgx sl43 rfl rfl (by assumption) (by omega) (by omega) | exact Jfb sl43 rfl rfl (by omega) (by omega)) ?_
  refine Dk 1 (by first | exact Jd1 rfl (by assumption) (by omega) tk3 | exact Jaa (j:=0) rfl rfl rfl tk3 | exact Jaa (j:=1) rfl rfl rfl tk3 | exact Jaa (j:=2) rfl rfl rfl tk3 | exact Jaa (j:=3) rfl rfl rfl tk3 | exact Jab rfl (by assumption) rfl tk3) ?_
  refine Dd (Qc (CS.cond rfl ?_ ?_))<;>intro hc3<;>try simp only [bq] at hc3
  ·
   refine Nz 1 ?_
   exact Wd (Qc (Cr (Qs (Qr (Qr (Qs (Qr (out1 rfl rfl (Jah (by rw [Jbk (fun h=>by first | exact hc3 (by rw [h]) | (rw [h,Jbz rfl] at hc3; cases hc3) | (rw [h,Jcy] at hc3; cases hc3))]))))))))))
  refine Ck (Qb (Qc (Ny 0 ?_)))
  refine Wk 1 Za ?_
  refine Wd ?_
  exact QS.head (a+1) rfl rfl ⟨⟨by omega,by omega,fun j h0 h1=>by
     rcases (show j < a∨j=a by omega) with h | h
     ·
      exact ha3 j h0 h
     rw [h]; exact hc3⟩,by omega⟩
 refine Cv (Qe (Qe (Qx (Qc (Nz 1 ?_)))))
 exact Wd (Qc (Cr (out1 rfl rfl (Jah (by rw [Jbz (Jga hc2 (by omega) ha3)])))))
theorem Jy8 (x y:Sl ByteArray) (w:World) (hx:SlT cStr w x) (hy:SlT cStr w y) :
  Calls Tryz.prog 49 #[x.v,y.v] w (RetB w (.bool (clB (x.l=y.l)))):=by
 have lx:=hx.le
 have ly:=hy.le
 refine enter Tryz.func49 rfl rfl (Nat.le_of_ble_eq_true rfl) ?_
 refine Nz 1 ?_
 refine Wd (Qc (Cs (Nz 1 ?_)))
 refine Wk 1 Nc ?_
 refine Wk 1 Nc ?_
 refine Wd (Qc (CS.cond rfl ?_ ?_))<;>intro hc1<;>try simp only [bq] at hc1
 ·
  refine Nz 1 ?_
  exact Wd (Qc (Cr (Qr (out1 rfl rfl (Jah (by rw [Jbk (fun h=>hc1 (by rw [h]))]))))))
 refine Ck (Qc (Cs (Nz 1 ?_)))
 refine Wk 1 Nc ?_
 refine Wd (Qc (Ce ?_))
 refine CS.loopM (σ:=Int) [4,5,14,15,16,17,18,19,20,21,22,23,24,25] (fun s=>[(13,.int .i64 s)]) (fun _=>_) (fun s=>0≤s∧s≤x.l.length∧∀ j:Int,0≤j→j < s→nth x.l j=nth y.l j) (fun s=>(x.l.length - s).toNat) 0 (fun _ _=>rfl) rfl rfl ⟨by omega,by omega,fun j _ _=>by omega⟩ ?_
 intro a t hs
 obtain ⟨ha1,ha2,ha3⟩:=hs
 refine Nz 1 ?_
 refine Wd (Qc (Cs (CS.cond rfl ?_ ?_)))<;>intro hc2<;>try simp only [bq] at hc2
 ·
  refine Ck (Qc (Cs (Ce (Nz 2 ?_))))
  refine Wd (Qc (Cs (Dr mixed 2 ?_)))
  refine Dk 0 Xc ?_
  refine Dk 2 Ub ?_
  refine Dk 0 Xc ?_
  refine Dk 0 Ub ?_
  refine Dk 0 (Jcm rfl rfl) ?_
  refine Dd (Qc (CS.cond rfl ?_ ?_))<;>intro hc3<;>try simp only [bq] at hc3
  ·
   refine Nz 1 ?_
   exact Wd (Qc (Cr (Qs (Qr (Qr (Qs (Qr (out1 rfl rfl (Jah (by rw [Jbk (fun h=>by first | exact hc3 (by rw [h]) | (rw [h,Jbz rfl] at hc3; cases hc3) | (rw [h,Jcy] at hc3; cases hc3))]))))))))))
  refine Ck (Qb (Qc (Ny 0 ?_)))
  refine Wk 1 Za ?_
  refine Wd ?_
  exact QS.head (a+1) rfl rfl ⟨⟨by omega,by omega,fun j h0 h1=>by
     rcases (show j < a∨j=a by omega) with h | h
     ·
      exact ha3 j h0 h
     rw [h]; exact Jez.1 hc3⟩,by omega⟩
 refine Cv (Qe (Qe (Qx (Qc (Nz 1 ?_)))))
 exact Wd (Qc (Cr (out1 rfl rfl (Jah (by rw [Jbz (Jga hc2 (by omega) ha3)])))))
theorem J0a (x y:Pro) (w:World) (hx:SlT cLit w x.wh) (hy:SlT cLit w y.wh) :
  Calls Tryz.prog 42 #[.agg #[.string x.nm,.int .i64 x.pl,x.wh.v],.agg #[.string y.nm,.int .i64 y.pl,y.wh.v]] w (RetB w (.bool (clB (x.e=y.e)))):=by
 refine enter Tryz.func42 rfl rfl (Nat.le_of_ble_eq_true rfl) ?_
 refine Nz 0 ?_
 refine Wb 0 rfl rfl (fun _=>rfl) (fun _=>rfl) fun b2 hb2=>?_
 refine Wb 1 rfl rfl (fun _=>rfl) (fun _=>rfl) fun b3 hb3=>?_
 refine Wd (Qc (Nz 1 ?_))
 refine Wk 1 (by first | exact Jaa (j:=1) rfl rfl rfl tk9 | exact Jab rfl (by assumption) rfl tk9) ?_
 refine Wk 0 (by first | exact Jaa (j:=0) rfl rfl rfl tk9 | exact Jab rfl (by assumption) rfl tk9) ?_
 refine Wk 1 (Ja2 rfl rfl) ?_
 refine Wt 0 rfl rfl (fun hg=>Ff) ?_
 refine Wt 0 rfl rfl (fun hg=>by first | exact Jaa (j:=1) (eg_ hg rfl) rfl rfl tk3 | exact Jab (eg_ hg rfl) (by assumption) rfl tk3) ?_
 refine Wt 0 rfl rfl (fun hg=>Ff) ?_
 refine Wt 0 rfl rfl (fun hg=>by first | exact Jaa (j:=0) (eg_ hg rfl) rfl rfl tk3 | exact Jab (eg_ hg rfl) (by assumption) rfl tk3) ?_
 refine Wt 0 rfl rfl (fun hg=>Fq) ?_
 refine Wk 1 Pa ?_
 refine Wt 0 rfl rfl (fun hg=>Ff) ?_
 refine Wt 0 rfl rfl (fun hg=>by first | exact Jaa (j:=1) (eg_ hg rfl) rfl rfl tk30 | exact Jab (eg_ hg rfl) (by assumption) rfl tk30) ?_
 refine Wt 0 rfl rfl (fun hg=>Ff) ?_
 refine Wt 0 rfl rfl (fun hg=>by first | exact Jaa (j:=0) (eg_ hg rfl) rfl rfl tk30 | exact Jab (eg_ hg rfl) (by assumption) rfl tk30) ?_
 refine Wt 0 rfl rfl (fun hg=>Cb rfl (ec_ (eg_ hg rfl) (ec_ (eg_ hg rfl) en_)) Js5 (fun u hu=>Jgy _ _ u (hx.st hu) (hy.st hu))) ?_
 refine Wk 1 Pa ?_
 exact Wd (Qc (Cr (out1 rfl rfl (Jah (by rw [J1l])))))
theorem J0b (x y:Way) (w:World) (hx:SlT cLit w x.wh) (hy:SlT cLit w y.wh) :
  Calls Tryz.prog 44 #[.agg #[.int .i64 x.a,.int .i64 x.b,x.wh.v],.agg #[.int .i64 y.a,.int .i64 y.b,y.wh.v]] w (RetB w (.bool (clB (x.e=y.e)))):=by
 refine enter Tryz.func44 rfl rfl (Nat.le_of_ble_eq_true rfl) ?_
 refine Nz 0 ?_
 refine Wb 0 rfl rfl (fun _=>rfl) (fun _=>rfl) fun b2 hb2=>?_
 refine Wb 1 rfl rfl (fun _=>rfl) (fun _=>rfl) fun b3 hb3=>?_
 refine Wd (Qc (Nz 1 ?_))
 refine Wk 1 (by first | exact Jaa (j:=1) rfl rfl rfl tk3 | exact Jab rfl (by assumption) rfl tk3) ?_
 refine Wk 2 (by first | exact Jaa (j:=0) rfl rfl rfl tk3 | exact Jab rfl (by assumption) rfl tk3) ?_
 refine Wt 0 rfl rfl (fun hg=>Ff) ?_
 refine Wt 0 rfl rfl (fun hg=>by first | exact Jaa (j:=1) (eg_ hg rfl) rfl rfl tk3 | exact Jab (eg_ hg rfl) (by assumption) rfl tk3) ?_
 refine Wt 0 rfl rfl (fun hg=>Ff) ?_
 refine Wt 0 rfl rfl (fun hg=>by first | exact Jaa (j:=0) (eg_ hg rfl) rfl rfl tk3 | exact Jab (eg_ hg rfl) (by assumption) rfl tk3) ?_
 refine Wt 0 rfl rfl (fun hg=>Fq) ?_
 refine Wk 1 Pa ?_
 refine Wt 0 rfl rfl (fun hg=>Ff) ?_
 refine Wt 0 rfl rfl (fun hg=>by first | exact Jaa (j:=1) (eg_ hg rfl) rfl rfl tk30 | exact Jab (eg_ hg rfl) (by assumption) rfl tk30) ?_
 refine Wt 0 rfl rfl (fun hg=>Ff) ?_
 refine Wt 0 rfl rfl (fun hg=>by first | exact Jaa (j:=0) (eg_ hg rfl) rfl rfl tk30 | exact Jab (eg_ hg rfl) (by assumption) rfl tk30) ?_
 refine Wt 0 rfl rfl (fun hg=>Cb rfl (ec_ (eg_ hg rfl) (ec_ (eg_ hg rfl) en_)) Js5 (fun u hu=>Jgy _ _ u (hx.st hu) (hy.st hu))) ?_
 refine Wk 1 Pa ?_
 exact Wd (Qc (Cr (out1 rfl rfl (Jah (by rw [J1s])))))
theorem Jzt (x y:Actn) (w:World) (hx:ActOk w x) (hy:ActOk w y) :
  Calls Tryz.prog 45 #[.agg #[.string x.nm,.int .i64 x.pl,.int .i64 x.lk,x.us.v,x.wh.v,x.se.v,x.sp.v,x.br.v],.agg #[.string y.nm,.int .i64 y.pl,.int .i64 y.lk,y.us.v,y.wh.v,y.se.v,y.sp.v,y.br.v]] w (RetB w (.bool (clB (x.e=y.e)))):=by
 have xus:=hx.us
 have xwh:=hx.wh
 have xse:=hx.se
 have xsp:=hx.sp
 have xbr:=hx.br
 have yus:=hy.us
 have ywh:=hy.wh
 have yse:=hy.se
 have ysp:=hy.sp
 have ybr:=hy.br
 refine enter Tryz.func45 rfl rfl (Nat.le_of_ble_eq_true rfl) ?_
 refine Nz 0 ?_
 refine Wb 0 rfl rfl (fun _=>rfl) (fun _=>rfl) fun b2 hb2=>?_
 refine Wb 1 rfl rfl (fun _=>rfl) (fun _=>rfl) fun b3 hb3=>?_
 refine Wd (Qc (Nz 1 ?_))
 refine Wk 1 (by first | exact Jaa (j:=1) rfl rfl rfl tk9 | exact Jab rfl (by assumption) rfl tk9) ?_
 refine Wk 0 (by first | exact Jaa (j:=0) rfl rfl rfl tk9 | exact Jab rfl (by assumption) rfl tk9) ?_
 refine Wk 1 (Ja2 rfl rfl) ?_
 refine Wt 0 rfl rfl (fun hg=>Ff) ?_
 refine Wt 0 rfl rfl (fun hg=>by first | exact Jaa (j:=1) (eg_ hg rfl) rfl rfl tk3 | exact Jab (eg_ hg rfl) (by assumption) rfl tk3) ?_
 refine Wt 0 rfl rfl (fun hg=>Ff) ?_
 refine Wt 0 rfl rfl (fun hg=>by first | exact Jaa (j:=0) (eg_ hg rfl) rfl rfl tk3 | exact Jab (eg_ hg rfl) (by assumption) rfl tk3) ?_
 refine Wt 0 rfl rfl (fun hg=>Fq) ?_
 refine Wk 1 Pa ?_
 refine Wt 0 rfl rfl (fun hg=>Ff) ?_
 refine Wt 0 rfl rfl (fun hg=>by first | exact Jaa (j:=1) (eg_ hg rfl) rfl rfl tk3 | exact Jab (eg_ hg rfl) (by assumption) rfl tk3) ?_
 refine Wt 0 rfl rfl (fun hg=>Ff) ?_
 refine Wt 0 rfl rfl (fun hg=>by first | exact Jaa (j:=0) (eg_ hg rfl) rfl rfl tk3 | exact Jab (eg_ hg rfl) (by assumption) rfl tk3) ?_
 refine Wt 0 rfl rfl (fun hg=>Fq) ?_
 refine Wk 1 Pa ?_
 refine Wt 0 rfl rfl (fun hg=>Ff) ?_
 refine Wt 0 rfl rfl (fun hg=>by first | exact Jaa (j:=1) (eg_ hg rfl) rfl rfl tk43 | exact Jab (eg_ hg rfl) (by assumption) rfl tk43) ?_
 refine Wt 0 rfl rfl (fun hg=>Ff) ?_
 refine Wt 0 rfl rfl (fun hg=>by first | exact Jaa (j:=0) (eg_ hg rfl) rfl rfl tk43 | exact Jab (eg_ hg rfl) (by assumption) rfl tk43) ?_
 refine Wt 0 rfl rfl (fun hg=>Cb rfl (ec_ (eg_ hg rfl) (ec_ (eg_ hg rfl) en_)) Jzm (fun u hu=>Jnz _ _ u (xus.st hu) (yus.st hu))) ?_
 refine Wk 1 Pa ?_
 refine Wt 0 rfl rfl (fun hg=>Ff) ?_
 refine Wt 0 rfl rfl (fun hg=>by first | exact Jaa (j:=1) (eg_ hg rfl) rfl rfl tk30 | exact Jab (eg_ hg rfl) (by assumption) rfl tk30) ?_
 refine Wt 0 rfl rfl (fun hg=>Ff) ?_
 refine Wt 0 rfl rfl (fun hg=>by first | exact Jaa (j:=0) (eg_ hg rfl) rfl rfl tk30 | exact Jab (eg_ hg rfl) (by assumption) rfl tk30) ?_
 refine Wt 0 rfl rfl (fun hg=>Cb rfl (ec_ (eg_ hg rfl) (ec_ (eg_ hg rfl) en_)) Js5 (fun u hu=>Jgy _ _ u (xwh.st hu) (ywh.st hu))) ?_
 refine Wk 1 Pa ?_
 refine Wt 0 rfl rfl (fun hg=>Ff) ?_
 refine Wt 0 rfl rfl (fun hg=>by first | exact Jaa (j:=1) (eg_ hg rfl) rfl rfl tk71 | exact Jab (eg_ hg rfl) (by assumption) rfl tk71) ?_
 refine Wt 0 rfl rfl (fun hg=>Ff) ?_
 refine Wt 0 rfl rfl (fun hg=>by first | exact Jaa (j:=0) (eg_ hg rfl) rfl rfl tk71 | exact Jab (eg_ hg rfl) (by assumption) rfl tk71) ?_
 refine Wt 0 rfl rfl (fun hg=>Cb rfl (ec_ (eg_ hg rfl) (ec_ (eg_ hg rfl) en_)) J3o (fun u hu=>J0k _ _ u (xse.st hu) (yse.st hu))) ?_
 refine Wk 1 Pa ?_
 refine Wt 0 rfl rfl (fun hg=>Ff) ?_
 refine Wt 0 rfl rfl (fun hg=>by first | exact Jaa (j:=1) (eg_ hg rfl) rfl rfl tk43 | exact Jab (eg_ hg rfl) (by assumption) rfl tk43) ?_
 refine Wt 0 rfl rfl (fun hg=>Ff) ?_
 refine Wt 0 rfl rfl (fun hg=>by first | exact Jaa (j:=0) (eg_ hg rfl) rfl rfl tk43 | exact Jab (eg_ hg rfl) (by assumption) rfl tk43) ?_
 refine Wt 0 rfl rfl (fun hg=>Cb rfl (ec_ (eg_ hg rfl) (ec_ (eg_ hg rfl) en_)) Jzm (fun u hu=>Jnz _ _ u (xsp.st hu) (ysp.st hu))) ?_
 refine Wk 1 Pa ?_
 refine Wt 0 rfl rfl (fun hg=>Ff) ?_
 refine Wt 0 rfl rfl (fun hg=>by first | exact Jaa (j:=1) (eg_ hg rfl) rfl rfl tk43 | exact Jab (eg_ hg rfl) (by assumption) rfl tk43) ?_
 refine Wt 0 rfl rfl (fun hg=>Ff) ?_
 refine Wt 0 rfl rfl (fun hg=>by first | exact Jaa (j:=0) (eg_ hg rfl) rfl rfl tk43 | exact Jab (eg_ hg rfl) (by assumption) rfl tk43) ?_
 refine Wt 0 rfl rfl (fun hg=>Cb rfl (ec_ (eg_ hg rfl) (ec_ (eg_ hg rfl) en_)) Jzm (fun u hu=>Jnz _ _ u (xbr.st hu) (ybr.st hu))) ?_
 refine Wk 1 Pa ?_
 exact Wd (Qc (Cr (out1 rfl rfl (Jah (by rw [J2c])))))
theorem Jzp (x y:Auto) (w:World) (hx:SlT cLit w x.wh) (hy:SlT cLit w y.wh) :
  Calls Tryz.prog 48 #[.agg #[x.wh.v,.int .i64 x.t,.int .i64 x.s],.agg #[y.wh.v,.int .i64 y.t,.int .i64 y.s]] w (RetB w (.bool (clB (x.e=y.e)))):=by
 refine enter Tryz.func48 rfl rfl (Nat.le_of_ble_eq_true rfl) ?_
 refine Nz 0 ?_
 refine Wb 0 rfl rfl (fun _=>rfl) (fun _=>rfl) fun b2 hb2=>?_
 refine Wb 1 rfl rfl (fun _=>rfl) (fun _=>rfl) fun b3 hb3=>?_
 refine Wd (Qc (Nz 1 ?_))
 refine Wk 1 (by first | exact Jad (j:=1) rfl rfl tk75 | exact Jae (j:=1) rfl rfl (by rfl) tk75 | exact Jai rfl (by assumption) (by rfl) tk75 | exact Jaf (n:=2) (j:=1) rfl rfl rfl rfl tk75) ?_
 refine Wk 0 (by first | exact Jad (j:=0) rfl rfl tk75 | exact Jae (j:=0) rfl rfl (by rfl) tk75 | exact Jai rfl (by assumption) (by rfl) tk75 | exact Jaf (n:=2) (j:=0) rfl rfl rfl rfl tk75) ?_
 refine Wk 1 (Jso Jw4 rfl rfl (Jm9 ⟨x.t,x.s⟩ ⟨y.t,y.s⟩)) ?_
 refine Wt 0 rfl rfl (fun hg=>Ff) ?_
 refine Wt 0 rfl rfl (fun hg=>by first | exact Jaa (j:=1) (eg_ hg rfl) rfl rfl tk30 | exact Jab (eg_ hg rfl) (by assumption) rfl tk30) ?_
 refine Wt 0 rfl rfl (fun hg=>Ff) ?_
 refine Wt 0 rfl rfl (fun hg=>by first | exact Jaa (j:=0) (eg_ hg rfl) rfl rfl tk30 | exact Jab (eg_ hg rfl) (by assumption) rfl tk30) ?_
 refine Wt 0 rfl rfl (fun hg=>Cb rfl (ec_ (eg_ hg rfl) (ec_ (eg_ hg rfl) en_)) Js5 (fun u hu=>Jgy _ _ u (hx.st hu) (hy.st hu))) ?_
 refine Wk 1 Pa ?_
 exact Wd (Qc (Cr (out1 rfl rfl (Jah (by rw [Jza])))))
theorem Jwi (x y:Sl Pro) (w:World) (hx:SlT cPro w x) (hy:SlT cPro w y) :
  Calls Tryz.prog 51 #[x.v,y.v,.func (.func 42) #[] #[]] w (RetB w (.bool (clB (x.l.map Pro.e=y.l.map Pro.e)))):=by
 have lx:=hx.le
 have ly:=hy.le
 refine enter Tryz.func51 rfl rfl (Nat.le_of_ble_eq_true rfl) ?_
 refine Nz 1 ?_
 refine Wd (Qc (Cs (Nz 1 ?_)))
 refine Wk 1 Nc ?_
 refine Wk 1 Nc ?_
 refine Wd (Qc (CS.cond rfl ?_ ?_))<;>intro hc1<;>try simp only [bq] at hc1
 ·
  refine Nz 1 ?_
  exact Wd (Qc (Cr (Qr (out1 rfl rfl (Jah (by rw [Jbk (fun h=>hc1 (by have h9:=congrArg List.length h; simp only [List.length_map] at h9; omega))]))))))
 refine Ck (Qc (Cs (Nz 1 ?_)))
 refine Wk 1 Nc ?_
 refine Wd (Qc (Ce ?_))
 refine CS.loopM (σ:=Int) [6,7,8,9,18,19,20,21,22,23,24,25,26,27,28,29,30,31] (fun s=>[(17,.int .i64 s)]) (fun _=>_) (fun s=>0≤s∧s≤x.l.length∧∀ j:Int,0≤j→j < s→(nth x.l j).e=(nth y.l j).e) (fun s=>(x.l.length - s).toNat) 0 (fun _ _=>rfl) rfl rfl ⟨by omega,by omega,fun j _ _=>by omega⟩ ?_
 intro a t hs
 obtain ⟨ha1,ha2,ha3⟩:=hs
 refine Nz 1 ?_
 refine Wd (Qc (Cs (CS.cond rfl ?_ ?_)))<;>intro hc2<;>try simp only [bq] at hc2
 ·
  have ax:=hx.at ha1 (show a < (x.l.length:Int) by omega)
  have ay:=hy.at ha1 (show a < (y.l.length:Int) by omega)
  refine Ck (Qc (Cs (Ce (Nz 1 ?_))))
  refine Wk 0 Xc ?_
  refine Wk 0 Ua ?_
  refine Wl 1 zv67 (fun _=>rfl) (fun _=>rfl) fun b8 hb8=>?_
  refine Wv 0 0 ?_
  refine Wd (Qc (Nz 2 ?_))
  refine Wk 0 Xc ?_
  refine Wk 0 Ua ?_
  refine Wl 0 zv67 (fun _=>rfl) (fun _=>rfl) fun b9 hb9=>?_
  refine Wv 0 0 ?_
  refine Wd (Qc (Nz 1 ?_))
  refine Wk 0 (by first | exact Jad (j:=1) rfl rfl tk67 | exact Jae (j:=1) rfl rfl (by rfl) tk67 | exact Jai rfl (by assumption) (by rfl) tk67 | exact Jaf (n:=3) (j:=1) rfl rfl rfl rfl tk67) ?_
  refine Wk 0 (by first | exact Jad (j:=0) rfl rfl tk67 | exact Jae (j:=0) rfl rfl (by rfl) tk67 | exact Jai rfl (by assumption) (by rfl) tk67 | exact Jaf (n:=3) (j:=0) rfl rfl rfl rfl tk67) ?_
  refine Wk 1 (Cb rfl rfl J33 (fun u hu=>J0a (nth x.l a) (nth y.l a) u (SlT.ext ax hu.below) (SlT.ext ay hu.below))) ?_
  refine Wd (Qc (CS.cond rfl ?_ ?_))<;>intro hc3<;>try simp only [bq] at hc3
  ·
   refine Nz 1 ?_
   exact Wd (Qc (Cr (Qs (Qr (Qr (Qs (Qr (out1 rfl rfl (Jah (by rw [Jbk (fun h=>by rw [Jbz (Jml (f:=Pro.e) rfl h a)] at hc3; cases hc3)]))))))))))
  refine Ck (Qb (Qc (Ny 0 ?_)))
  refine Wk 1 Za ?_
  refine Wd ?_
  refine QS.sel [] rfl ?_
  exact QS.head (a+1) rfl rfl ⟨⟨by omega,by omega,fun j h0 h1=>by
     rcases (show j < a∨j=a by omega) with h | h
     ·
      exact ha3 j h0 h
     rw [h]; exact Jbv.1 hc3⟩,by omega⟩
 refine Cv (Qe (Qe (Qx (Qc (Nz 1 ?_)))))
 exact Wd (Qc (Cr (out1 rfl rfl (Jah (by rw [Jbz (Jb7 Pro.e hc2 (by omega) ha3)])))))
theorem Jvb (x y:Sl Way) (w:World) (hx:SlT cWay w x) (hy:SlT cWay w y) :
  Calls Tryz.prog 52 #[x.v,y.v,.func (.func 44) #[] #[]] w (RetB w (.bool (clB (x.l.map Way.e=y.l.map Way.e)))):=by
 have lx:=hx.le
 have ly:=hy.le
 refine enter Tryz.func52 rfl rfl (Nat.le_of_ble_eq_true rfl) ?_
 refine Nz 1 ?_
 refine Wd (Qc (Cs (Nz 1 ?_)))
 refine Wk 1 Nc ?_
 refine Wk 1 Nc ?_
 refine Wd (Qc (CS.cond rfl ?_ ?_))<;>intro hc1<;>try simp only [bq] at hc1
 ·
  refine Nz 1 ?_
  exact Wd (Qc (Cr (Qr (out1 rfl rfl (Jah (by rw [Jbk (fun h=>hc1 (by have h9:=congrArg List.length h; simp only [List.length_map] at h9; omega))]))))))
 refine Ck (Qc (Cs (Nz 1 ?_)))
 refine Wk 1 Nc ?_
 refine Wd (Qc (Ce ?_))
 refine CS.loopM (σ:=Int) [6,7,8,9,18,19,20,21,22,23,24,25,26,27,28,29,30,31] (fun s=>[(17,.int .i64 s)]) (fun _=>_) (fun s=>0≤s∧s≤x.l.length∧∀ j:Int,0≤j→j < s→(nth x.l j).e=(nth y.l j).e) (fun s=>(x.l.length - s).toNat) 0 (fun _ _=>rfl) rfl rfl ⟨by omega,by omega,fun j _ _=>by omega⟩ ?_
 intro a t hs
 obtain ⟨ha1,ha2,ha3⟩:=hs
 refine Nz 1 ?_
 refine Wd (Qc (Cs (CS.cond rfl ?_ ?_)))<;>intro hc2<;>try simp only [bq] at hc2
 ·
  have ax:=hx.at ha1 (show a < (x.l.length:Int) by omega)
  have ay:=hy.at ha1 (show a < (y.l.length:Int) by omega)
  refine Ck (Qc (Cs (Ce (Nz 1 ?_))))
  refine Wk 0 Xc ?_
  refine Wk 0 Ua ?_
  refine Wl 1 zv69 (fun _=>rfl) (fun _=>rfl) fun b8 hb8=>?_
  refine Wv 0 0 ?_
  refine Wd (Qc (Nz 2 ?_))
  refine Wk 0 Xc ?_
  refine Wk 0 Ua ?_
  refine Wl 0 zv69 (fun _=>rfl) (fun _=>rfl) fun b9 hb9=>?_
  refine Wv 0 0 ?_
  refine Wd (Qc (Nz 1 ?_))
  refine Wk 0 (by first | exact Jad (j:=1) rfl rfl tk69 | exact Jae (j:=1) rfl rfl (by rfl) tk69 | exact Jai rfl (by assumption) (by rfl) tk69 | exact Jaf (n:=3) (j:=1) rfl rfl rfl rfl tk69) ?_
  refine Wk 0 (by first | exact Jad (j:=0) rfl rfl tk69 | exact Jae (j:=0) rfl rfl (by rfl) tk69 | exact Jai rfl (by assumption) (by rfl) tk69 | exact Jaf (n:=3) (j:=0) rfl rfl rfl rfl tk69) ?_
  refine Wk 1 (Cb rfl rfl J4q (fun u hu=>J0b (nth x.l a) (nth y.l a) u (SlT.ext ax hu.below) (SlT.ext ay hu.below))) ?_
  refine Wd (Qc (CS.cond rfl ?_ ?_))<;>intro hc3<;>try simp only [bq] at hc3
  ·
   refine Nz 1 ?_
   exact Wd (Qc (Cr (Qs (Qr (Qr (Qs (Qr (out1 rfl rfl (Jah (by rw [Jbk (fun h=>by rw [Jbz (Jml (f:=Way.e) rfl h a)] at hc3; cases hc3)]))))))))))
  refine Ck (Qb (Qc (Ny 0 ?_)))
  refine Wk 1 Za ?_
  refine Wd ?_
  refine QS.sel [] rfl ?_
  exact QS.head (a+1) rfl rfl ⟨⟨by omega,by omega,fun j h0 h1=>by
     rcases (show j < a∨j=a by omega) with h | h
     ·
      exact ha3 j h0 h
     rw [h]; exact Jbv.1 hc3⟩,by omega⟩
 refine Cv (Qe (Qe (Qx (Qc (Nz 1 ?_)))))
 exact Wd (Qc (Cr (out1 rfl rfl (Jah (by rw [Jbz (Jb7 Way.e hc2 (by omega) ha3)])))))
theorem Jvp (x y:Sl Actn) (w:World) (hx:SlT cAct w x) (hy:SlT cAct w y) :
  Calls Tryz.prog 53 #[x.v,y.v,.func (.func 45) #[] #[]] w (RetB w (.bool (clB (x.l.map Actn.e=y.l.map Actn.e)))):=by
 have lx:=hx.le
 have ly:=hy.le
 refine enter Tryz.func53 rfl rfl (Nat.le_of_ble_eq_true rfl) ?_
 refine Nz 1 ?_
 refine Wd (Qc (Cs (Nz 1 ?_)))
 refine Wk 1 Nc ?_
 refine Wk 1 Nc ?_
 refine Wd (Qc (CS.cond rfl ?_ ?_))<;>intro hc1<;>try simp only [bq] at hc1
 ·
  refine Nz 1 ?_
  exact Wd (Qc (Cr (Qr (out1 rfl rfl (Jah (by rw [Jbk (fun h=>hc1 (by have h9:=congrArg List.length h; simp only [List.length_map] at h9; omega))]))))))
 refine Ck (Qc (Cs (Nz 1 ?_)))
 refine Wk 1 Nc ?_
 refine Wd (Qc (Ce ?_))
 refine CS.loopM (σ:=Int) [6,7,8,9,18,19,20,21,22,23,24,25,26,27,28,29,30,31] (fun s=>[(17,.int .i64 s)]) (fun _=>_) (fun s=>0≤s∧s≤x.l.length∧∀ j:Int,0≤j→j < s→(nth x.l j).e=(nth y.l j).e) (fun s=>(x.l.length - s).toNat) 0 (fun _ _=>rfl) rfl rfl ⟨by omega,by omega,fun j _ _=>by omega⟩ ?_
 intro a t hs
 obtain ⟨ha1,ha2,ha3⟩:=hs
 refine Nz 1 ?_
 refine Wd (Qc (Cs (CS.cond rfl ?_ ?_)))<;>intro hc2<;>try simp only [bq] at hc2
 ·
  have ax:=hx.at ha1 (show a < (x.l.length:Int) by omega)
  have ay:=hy.at ha1 (show a < (y.l.length:Int) by omega)
  refine Ck (Qc (Cs (Ce (Nz 1 ?_))))
  refine Wk 0 Xc ?_
  refine Wk 0 Ua ?_
  refine Wl 1 zv73 (fun _=>rfl) (fun _=>rfl) fun b8 hb8=>?_
  refine Wv 0 0 ?_
  refine Wd (Qc (Nz 2 ?_))
  refine Wk 0 Xc ?_
  refine Wk 0 Ua ?_
  refine Wl 0 zv73 (fun _=>rfl) (fun _=>rfl) fun b9 hb9=>?_
  refine Wv 0 0 ?_
  refine Wd (Qc (Nz 1 ?_))
  refine Wk 0 (by first | exact Jad (j:=1) rfl rfl tk73 | exact Jae (j:=1) rfl rfl (by rfl) tk73 | exact Jai rfl (by assumption) (by rfl) tk73 | exact Jaf (n:=8) (j:=1) rfl rfl rfl rfl tk73) ?_
  refine Wk 0 (by first | exact Jad (j:=0) rfl rfl tk73 | exact Jae (j:=0) rfl rfl (by rfl) tk73 | exact Jai rfl (by assumption) (by rfl) tk73 | exact Jaf (n:=8) (j:=0) rfl rfl rfl rfl tk73) ?_
  refine Wk 1 (Cb rfl rfl J42 (fun u hu=>Jzt (nth x.l a) (nth y.l a) u (cAct.ext _ _ _ ax hu.below) (cAct.ext _ _ _ ay hu.below))) ?_
  refine Wd (Qc (CS.cond rfl ?_ ?_))<;>intro hc3<;>try simp only [bq] at hc3
  ·
   refine Nz 1 ?_
   exact Wd (Qc (Cr (Qs (Qr (Qr (Qs (Qr (out1 rfl rfl (Jah (by rw [Jbk (fun h=>by rw [Jbz (Jml (f:=Actn.e) rfl h a)] at hc3; cases hc3)]))))))))))
  refine Ck (Qb (Qc (Ny 0 ?_)))
  refine Wk 1 Za ?_
  refine Wd ?_
  refine QS.sel [] rfl ?_
  exact QS.head (a+1) rfl rfl ⟨⟨by omega,by omega,fun j h0 h1=>by
     rcases (show j < a∨j=a by omega) with h | h
     ·
      exact ha3 j h0 h
     rw [h]; exact Jbv.1 hc3⟩,by omega⟩
 refine Cv (Qe (Qe (Qx (Qc (Nz 1 ?_)))))
 exact Wd (Qc (Cr (out1 rfl rfl (Jah (by rw [Jbz (Jb7 Actn.e hc2 (by omega) ha3)])))))
theorem Jrx (x y:Sl Auto) (w:World) (hx:SlT cAuto w x) (hy:SlT cAuto w y) :
  Calls Tryz.prog 54 #[x.v,y.v,.func (.func 48) #[] #[]] w (RetB w (.bool (clB (x.l.map Auto.e=y.l.map Auto.e)))):=by
 have lx:=hx.le
 have ly:=hy.le
 refine enter Tryz.func54 rfl rfl (Nat.le_of_ble_eq_true rfl) ?_
 refine Nz 1 ?_
 refine Wd (Qc (Cs (Nz 1 ?_)))
 refine Wk 1 Nc ?_
 refine Wk 1 Nc ?_
 refine Wd (Qc (CS.cond rfl ?_ ?_))<;>intro hc1<;>try simp only [bq] at hc1
 ·
  refine Nz 1 ?_
  exact Wd (Qc (Cr (Qr (out1 rfl rfl (Jah (by rw [Jbk (fun h=>hc1 (by have h9:=congrArg List.length h; simp only [List.length_map] at h9; omega))]))))))
 refine Ck (Qc (Cs (Nz 1 ?_)))
 refine Wk 1 Nc ?_
 refine Wd (Qc (Ce ?_))
 refine CS.loopM (σ:=Int) [6,7,8,9,18,19,20,21,22,23,24,25,26,27,28,29,30,31] (fun s=>[(17,.int .i64 s)]) (fun _=>_) (fun s=>0≤s∧s≤x.l.length∧∀ j:Int,0≤j→j < s→(nth x.l j).e=(nth y.l j).e) (fun s=>(x.l.length - s).toNat) 0 (fun _ _=>rfl) rfl rfl ⟨by omega,by omega,fun j _ _=>by omega⟩ ?_
 intro a t hs
 obtain ⟨ha1,ha2,ha3⟩:=hs
 refine Nz 1 ?_
 refine Wd (Qc (Cs (CS.cond rfl ?_ ?_)))<;>intro hc2<;>try simp only [bq] at hc2
 ·
  have ax:=hx.at ha1 (show a < (x.l.length:Int) by omega)
  have ay:=hy.at ha1 (show a < (y.l.length:Int) by omega)
  refine Ck (Qc (Cs (Ce (Nz 1 ?_))))
  refine Wk 0 Xc ?_
  refine Wk 0 Ua ?_
  refine Wl 1 zv77 (fun _=>rfl) (fun _=>rfl) fun b8 hb8=>?_
  refine Wv 0 0 ?_
  refine Wd (Qc (Nz 2 ?_))
  refine Wk 0 Xc ?_
  refine Wk 0 Ua ?_
  refine Wl 0 zv77 (fun _=>rfl) (fun _=>rfl) fun b9 hb9=>?_
  refine Wv 0 0 ?_
  refine Wd (Qc (Nz 1 ?_))
  refine Wk 0 (by first | exact Jad (j:=1) rfl rfl tk77 | exact Jae (j:=1) rfl rfl (by rfl) tk77 | exact Jai rfl (by assumption) (by rfl) tk77 | exact Jaf (n:=3) (j:=1) rfl rfl rfl rfl tk77) ?_
  refine Wk 0 (by first | exact Jad (j:=0) rfl rfl tk77 | exact Jae (j:=0) rfl rfl (by rfl) tk77 | exact Jai rfl (by assumption) (by rfl) tk77 | exact Jaf (n:=3) (j:=0) rfl rfl rfl rfl tk77) ?_
  refine Wk 1 (Cb rfl rfl J46 (fun u hu=>Jzp (nth x.l a) (nth y.l a) u (SlT.ext ax hu.below) (SlT.ext ay hu.below))) ?_
  refine Wd (Qc (CS.cond rfl ?_ ?_))<;>intro hc3<;>try simp only [bq] at hc3
  ·
   refine Nz 1 ?_
   exact Wd (Qc (Cr (Qs (Qr (Qr (Qs (Qr (out1 rfl rfl (Jah (by rw [Jbk (fun h=>by rw [Jbz (Jml (f:=Auto.e) rfl h a)] at hc3; cases hc3)]))))))))))
  refine Ck (Qb (Qc (Ny 0 ?_)))
  refine Wk 1 Za ?_
  refine Wd ?_
  refine QS.sel [] rfl ?_
  exact QS.head (a+1) rfl rfl ⟨⟨by omega,by omega,fun j h0 h1=>by
     rcases (show j < a∨j=a by omega) with h | h
     ·
      exact ha3 j h0 h
     rw [h]; exact Jbv.1 hc3⟩,by omega⟩
 refine Cv (Qe (Qe (Qx (Qc (Nz 1 ?_)))))
 exact Wd (Qc (Cr (out1 rfl rfl (Jah (by rw [Jbz (Jb7 Auto.e hc2 (by omega) ha3)])))))
theorem Jyd (x y:Room) (w:World) (hx:RoomOk w x) (hy:RoomOk w y) :
  Calls Tryz.prog 13 #[.agg #[x.pls.v,x.ths.v,x.prs.v,x.wys.v,x.acs.v,x.aus.v,.int .i64 x.ply,x.gl.v],.agg #[y.pls.v,y.ths.v,y.prs.v,y.wys.v,y.acs.v,y.aus.v,.int .i64 y.ply,y.gl.v]] w (RetB w (.bool (clB (x.e=y.e)))):=by
 refine enter Tryz.func13 rfl rfl (Nat.le_of_ble_eq_true rfl) ?_
 refine Nz 0 ?_
 refine Wb 0 rfl rfl (fun _=>rfl) (fun _=>rfl) fun b2 hb2=>?_
 refine Wb 1 rfl rfl (fun _=>rfl) (fun _=>rfl) fun b3 hb3=>?_
 refine Wd (Qc (Nz 1 ?_))
 refine Wd (Qc (Nz 1 ?_))
 refine Wd (Qc (Nz 1 ?_))
 refine Wd (Qc (Nz 1 ?_))
 refine Wd (Qc (Nz 1 ?_))
 refine Wk 1 (by first | exact Jaa (j:=1) rfl rfl rfl tk23 | exact Jab rfl (by assumption) rfl tk23) ?_
 refine Wk 0 (by first | exact Jaa (j:=0) rfl rfl rfl tk23 | exact Jab rfl (by assumption) rfl tk23) ?_
 refine Wk 1 (Cb rfl rfl J4b (fun u hu=>Jy8 _ _ u (hx.pls.st hu) (hy.pls.st hu))) ?_
 refine Wt 0 rfl rfl (fun hg=>Ff) ?_
 refine Wt 0 rfl rfl (fun hg=>by first | exact Jaa (j:=1) (eg_ hg rfl) rfl rfl tk24 | exact Jab (eg_ hg rfl) (by assumption) rfl tk24) ?_
 refine Wt 0 rfl rfl (fun hg=>Ff) ?_
 refine Wt 0 rfl rfl (fun hg=>by first | exact Jaa (j:=0) (eg_ hg rfl) rfl rfl tk24 | exact Jab (eg_ hg rfl) (by assumption) rfl tk24) ?_
 refine Wt 0 rfl rfl (fun hg=>Cb rfl (ec_ (eg_ hg rfl) (ec_ (eg_ hg rfl) en_)) J3u (fun u hu=>Ju0 _ _ u (hx.ths.st hu) (hy.ths.st hu))) ?_
 refine Wk 1 Pa ?_
 refine Wt 0 rfl rfl (fun hg=>Ff) ?_
 refine Wt 0 rfl rfl (fun hg=>by first | exact Jaa (j:=1) (eg_ hg rfl) rfl rfl tk25 | exact Jab (eg_ hg rfl) (by assumption) rfl tk25) ?_
 refine Wt 0 rfl rfl (fun hg=>Ff) ?_
 refine Wt 0 rfl rfl (fun hg=>by first | exact Jaa (j:=0) (eg_ hg rfl) rfl rfl tk25 | exact Jab (eg_ hg rfl) (by assumption) rfl tk25) ?_
 refine Wt 0 rfl rfl (fun hg=>Fm) ?_
 refine Wt 0 rfl rfl (fun hg=>Cb rfl (ec_ (eg_ hg rfl) (ec_ (eg_ hg rfl) (ec_ (eg_ hg rfl) en_))) J3y (fun u hu=>Jwi _ _ u (hx.prs.st hu) (hy.prs.st hu))) ?_
 refine Wk 1 Pa ?_
 refine Wt 0 rfl rfl (fun hg=>Ff) ?_
 refine Wt 0 rfl rfl (fun hg=>by first | exact Jaa (j:=1) (eg_ hg rfl) rfl rfl tk26 | exact Jab (eg_ hg rfl) (by assumption) rfl tk26) ?_
 refine Wt 0 rfl rfl (fun hg=>Ff) ?_
 refine Wt 0 rfl rfl (fun hg=>by first | exact Jaa (j:=0) (eg_ hg rfl) rfl rfl tk26 | exact Jab (eg_ hg rfl) (by assumption) rfl tk26) ?_
 refine Wt 0 rfl rfl (fun hg=>Fm) ?_
 refine Wt 0 rfl rfl (fun hg=>Cb rfl (ec_ (eg_ hg rfl) (ec_ (eg_ hg rfl) (ec_ (eg_ hg rfl) en_))) J4e (fun u hu=>Jvb _ _ u (hx.wys.st hu) (hy.wys.st hu))) ?_
 refine Wk 1 Pa ?_
 refine Wt 0 rfl rfl (fun hg=>Ff) ?_
 refine Wt 0 rfl rfl (fun hg=>by first | exact Jaa (j:=1) (eg_ hg rfl) rfl rfl tk27 | exact Jab (eg_ hg rfl) (by assumption) rfl tk27) ?_
 refine Wt 0 rfl rfl (fun hg=>Ff) ?_
 refine Wt 0 rfl rfl (fun hg=>by first | exact Jaa (j:=0) (eg_ hg rfl) rfl rfl tk27 | exact Jab (eg_ hg rfl) (by assumption) rfl tk27) ?_
 refine Wt 0 rfl rfl (fun hg=>Fm) ?_
 refine Wt 0 rfl rfl (fun hg=>Cb rfl (ec_ (eg_ hg rfl) (ec_ (eg_ hg rfl) (ec_ (eg_ hg rfl) en_))) J4c (fun u hu=>Jvp _ _ u (hx.acs.st hu) (hy.acs.st hu))) ?_
 refine Wk 1 Pa ?_
 refine Wt 0 rfl rfl (fun hg=>Ff) ?_
 refine Wt 0 rfl rfl (fun hg=>by first | exact Jaa (j:=1) (eg_ hg rfl) rfl rfl tk28 | exact Jab (eg_ hg rfl) (by assumption) rfl tk28) ?_
 refine Wt 0 rfl rfl (fun hg=>Ff) ?_
 refine Wt 0 rfl rfl (fun hg=>by first | exact Jaa (j:=0) (eg_ hg rfl) rfl rfl tk28 | exact Jab (eg_ hg rfl) (by assumption) rfl tk28) ?_
 refine Wt 0 rfl rfl (fun hg=>Fm) ?_
 refine Wt 0 rfl rfl (fun hg=>Cb rfl (ec_ (eg_ hg rfl) (ec_ (eg_ hg rfl) (ec_ (eg_ hg rfl) en_))) J3z (fun u hu=>Jrx _ _ u (hx.aus.st hu) (hy.aus.st hu))) ?_
 refine Wk 1 Pa ?_
 refine Wt 0 rfl rfl (fun hg=>Ff) ?_
 refine Wt 0 rfl rfl (fun hg=>by first | exact Jaa (j:=1) (eg_ hg rfl) rfl rfl tk3 | exact Jab (eg_ hg rfl) (by assumption) rfl tk3) ?_
 refine Wt 0 rfl rfl (fun hg=>Ff) ?_
 refine Wt 0 rfl rfl (fun hg=>by first | exact Jaa (j:=0) (eg_ hg rfl) rfl rfl tk3 | exact Jab (eg_ hg rfl) (by assumption) rfl tk3) ?_
 refine Wt 0 rfl rfl (fun hg=>Fq) ?_
 refine Wk 1 Pa ?_
 refine Wt 0 rfl rfl (fun hg=>Ff) ?_
 refine Wt 0 rfl rfl (fun hg=>by first | exact Jaa (j:=1) (eg_ hg rfl) rfl rfl tk30 | exact Jab (eg_ hg rfl) (by assumption) rfl tk30) ?_
 refine Wt 0 rfl rfl (fun hg=>Ff) ?_
 refine Wt 0 rfl rfl (fun hg=>by first | exact Jaa (j:=0) (eg_ hg rfl) rfl rfl tk30 | exact Jab (eg_ hg rfl) (by assumption) rfl tk30) ?_
 refine Wt 0 rfl rfl (fun hg=>Cb rfl (ec_ (eg_ hg rfl) (ec_ (eg_ hg rfl) en_)) Js5 (fun u hu=>Jgy _ _ u (hx.gl.st hu) (hy.gl.st hu))) ?_
 refine Wk 1 Pa ?_
 exact Wd (Qc (Cr (out1 rfl rfl (Jah (by rw [Jy2])))))
end Go.Proofs.YtkekjhcmephhjaaGreatDoor
