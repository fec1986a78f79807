/- Merged texts of this proof. -/
import Derived.Test.YtllebkdchemabaaGreatDoorZb
import Derived.Test.YtllebkdchemabaaGreatDoorZg
import Derived.Test.YtllebkdchemabaaGreatDoorZf2
import Derived.Test.YtllebkdchemabaaGreatDoorZc
set_option maxHeartbeats 8000000
namespace Go.Proofs.YtllebkdchemabaaGreatDoor
open Go.RowKit Go.Proofs Tryz
set_option maxRecDepth 100000
set_option linter.unusedVariables false
set_option linter.unusedSimpArgs false
theorem Jd5:agq prog 103=some [(0,0),(1,0),(2,1)]:=by kernel_rfl
theorem Jbt:agq prog 175=some [(0,0),(1,0)]:=by kernel_rfl
theorem Zw:agq prog 105=some [(0,2),(1,0),(2,0),(3,0)]:=by kernel_rfl
theorem CA (a b:Sl Lit) (w:World) (ha:SlT cLit w a) (hb:SlT cLit w b):
  Calls prog 102 #[a.v,b.v] w (RetB w (.bool (clB (a.l=b.l)))):=by
 have la:=ha.le;have lb:=hb.le;refine En func102 ?_;refine Nz 1 ?_;refine Nv 1 ?_;refine Wk 1 Nc ?_;refine Wk 1 Nc ?_;refine Wp ?_ ?_<;>intro hc1
 ·refine Nz 1 ?_;exact Wd (Qc (Cr (Qr (out1 rfl rfl (Af (by rw[CO (fun h=>hc1 (by rw[h]))]))))))
 refine Ck (Qc (Cs (Nz 1 ?_)));refine Nu ?_;refine CS.loopM (σ:=Int) (rsL [4,4,11,25]) (fun s=>[(5,.int .i64 s)]) (fun _=>_) (fun s=>0<=s/\s<=a.l.length/\∀j:Int,0<=j->j<s->nth a.l j=nth b.l j) (fun s=>(a.l.length-s).toNat) 0 (fun _ _=>rfl) rfl rfl ⟨by omega,by omega,fun j _ _=>by omega⟩ ?_;intro s t hs;obtain⟨hs1,hs2,hs3⟩:=hs;refine Cs (Nz 2 ?_);refine Wk 1 Nc ?_;refine Wp ?_ ?_<;>intro hc2
 ·refine Ck (Qc (Cs (Ce (Cs (Dr mixed 2 ?_)))));refine Dk 0 Xc ?_;refine Dk 2 Ua ?_;refine Dk 0 Xc ?_;refine Dk 0 Ua ?_;refine Dk 0 (DL Jd5 rfl rfl (T5 (nth a.l s) (nth b.l s))) ?_;refine Dd (Qc (Cn ?_ ?_))<;>intro hc3
  ·refine Nz 1 ?_;exact Wd (Qc (Cr (Qs (Qr (Qr (Qs (Qr (out1 rfl rfl (Af (by rw[CO (fun h=>hc3 (by rw[h]))]))))))))))
  refine Ck (Qb (Qc (Ny 1 ?_)));refine Wk 1 Za ?_;refine Wd ?_
  exact QS.head (s+1) rfl rfl ⟨⟨by omega,by omega,fun j h0 h1=>by
     rcases(show j<s\/j=s by omega)with h|h
     ·exact hs3 j h0 h
     rw[h];exact hc3⟩,by omega⟩
 refine Cv (Qe (Qe (Qx (Qc (Nz 1 ?_)))));exact Wd (Qc (Cr (out1 rfl rfl (Af (by rw[DB (JE hc2 (by omega) hs3)])))))
theorem RE (a b:Actn) (w:World) (ha:ActOk w a) (hb:ActOk w b):
  Calls prog 103 #[.agg #[.string a.nm,.int .i64 a.pl,.int .i64 a.lk,a.us.v,a.wh.v,a.se.v,a.sp.v,a.br.v],.agg #[.string b.nm,.int .i64 b.pl,.int .i64 b.lk,b.us.v,b.wh.v,b.se.v,b.sp.v,b.br.v]] w (RetB w (.bool (clB (a.e=b.e)))):=by
 have aus:=ha.us;have awh:=ha.wh;have ase:=ha.se;have asp:=ha.sp;have abr:=ha.br;have bus:=hb.us;have bwh:=hb.wh;have bse:=hb.se;have bsp:=hb.sp;have bbr:=hb.br;have la:=ase.le;have lb:=bse.le;refine En func103 ?_;refine Nz 0 ?_;refine Wr 0 fun b2 hb2=>?_;refine Wr 1 fun b3 hb3=>?_;refine Nv 1 ?_;refine Wk 0 (Ba 1) ?_;refine Wk 1 Nc ?_;refine Wk 0 (Ba 0) ?_;refine Wk 1 Nc ?_;refine Wp ?_ ?_<;>intro hc1
 ·refine Nz 1 ?_;exact Wd (Qc (Cr (Qr (out1 rfl rfl (Af (by rw[CO (fun h=>hc1 (by rw[(FJ h).se]))]))))))
 refine Ck (Qc (Cs (Nz 1 ?_)));refine Nu ?_;refine CS.loopM (σ:=Int) (rsL [4,4,13,30]) (fun s=>[(5,.int .i64 s)]) (fun _=>_) (fun s=>0<=s/\s<=a.se.l.length/\∀j:Int,0<=j->j<s->nth a.se.l j=nth b.se.l j) (fun s=>(a.se.l.length-s).toNat) 0 (fun _ _=>rfl) rfl rfl ⟨by omega,by omega,fun j _ _=>by omega⟩ ?_;intro s t hs;obtain⟨hs1,hs2,hs3⟩:=hs;refine Cs (Nz 2 ?_);refine Wk 0 (Ba 1) ?_;refine Wk 1 Nc ?_;refine Wp ?_ ?_<;>intro hc2
 ·refine Ck (Qc (Cs (Ce (Cs (Dr mixed 1 ?_)))));refine Dk 1 (Ba 1) ?_;refine Dk 0 Xc ?_;refine Dk 1 Ua ?_;refine Dk 1 (Ba 0) ?_;refine Dk 0 Xc ?_;refine Dk 0 Ua ?_;refine Dk 0 (DL Jbt rfl rfl (Jat (nth a.se.l s) (nth b.se.l s))) ?_;refine Dd (Qc (Cn ?_ ?_))<;>intro hc3
  ·refine Nz 1 ?_;exact Wd (Qc (Cr (Qs (Qr (Qr (Qs (Qr (out1 rfl rfl (Af (by rw[CO (fun h=>hc3 (by rw[(FJ h).se]))]))))))))))
  refine Ck (Qb (Qc (Ny 1 ?_)));refine Wk 1 Za ?_;refine Wd ?_
  exact QS.head (s+1) rfl rfl ⟨⟨by omega,by omega,fun j h0 h1=>by
     rcases(show j<s\/j=s by omega)with h|h
     ·exact hs3 j h0 h
     rw[h];exact hc3⟩,by omega⟩
 refine Cv (Qe (Qe (Qx (Qc (Nz 1 ?_)))));refine Wk 1 (Ba 1) ?_;refine Wk 0 (Ba 0) ?_;refine Wk 1 (Ah rfl rfl) ?_;refine Wt 0 rfl rfl (fun hg=>Ff) ?_;refine Wt 0 rfl rfl (fun hg=>Ba 1) ?_;refine Wt 0 rfl rfl (fun hg=>Ff) ?_;refine Wt 0 rfl rfl (fun hg=>Ba 0) ?_;refine Wt 0 rfl rfl (fun hg=>Fq) ?_;refine Wk 1 Pa ?_;refine Wt 0 rfl rfl (fun hg=>Ff) ?_;refine Wt 0 rfl rfl (fun hg=>Ba 1) ?_;refine Wt 0 rfl rfl (fun hg=>Ff) ?_;refine Wt 0 rfl rfl (fun hg=>Ba 0) ?_;refine Wt 0 rfl rfl (fun hg=>Fq) ?_;refine Wk 1 Pa ?_;refine Wt 0 rfl rfl (fun hg=>Ff) ?_;refine Wt 0 rfl rfl (fun hg=>Ba 1) ?_;refine Wt 0 rfl rfl (fun hg=>Ff) ?_;refine Wt 0 rfl rfl (fun hg=>Ba 0) ?_;refine Wt 0 rfl rfl (fun hg=>Cb rfl (ec_ (eg_ hg rfl) (ec_ (eg_ hg rfl) en_)) S7 (fun u hu=>DK _ _ _ _ u (aus.st hu).ints (bus.st hu).ints)) ?_;refine Wk 1 Pa ?_;refine Wt 0 rfl rfl (fun hg=>Ff) ?_;refine Wt 0 rfl rfl (fun hg=>Ba 1) ?_;refine Wt 0 rfl rfl (fun hg=>Ff) ?_;refine Wt 0 rfl rfl (fun hg=>Ba 0) ?_;refine Wt 0 rfl rfl (fun hg=>Cb rfl (ec_ (eg_ hg rfl) (ec_ (eg_ hg rfl) en_)) IL (fun u hu=>CA _ _ u (awh.st hu) (bwh.st hu))) ?_;refine Wk 1 Pa ?_;refine Wt 0 rfl rfl (fun hg=>Ff) ?_;refine Wt 0 rfl rfl (fun hg=>Ba 1) ?_;refine Wt 0 rfl rfl (fun hg=>Ff) ?_;refine Wt 0 rfl rfl (fun hg=>Ba 0) ?_;refine Wt 0 rfl rfl (fun hg=>Cb rfl (ec_ (eg_ hg rfl) (ec_ (eg_ hg rfl) en_)) S7 (fun u hu=>DK _ _ _ _ u (asp.st hu).ints (bsp.st hu).ints)) ?_;refine Wk 1 Pa ?_;refine Wt 0 rfl rfl (fun hg=>Ff) ?_;refine Wt 0 rfl rfl (fun hg=>Ba 1) ?_;refine Wt 0 rfl rfl (fun hg=>Ff) ?_;refine Wt 0 rfl rfl (fun hg=>Ba 0) ?_;refine Wt 0 rfl rfl (fun hg=>Cb rfl (ec_ (eg_ hg rfl) (ec_ (eg_ hg rfl) en_)) S7 (fun u hu=>DK _ _ _ _ u (abr.st hu).ints (bbr.st hu).ints)) ?_;refine Wk 1 Pa ?_;refine Wd (Qc (Cr ?_))
 exact out1 rfl rfl (Af (by
    have hse:=JE hc2 (by omega) hs3
    by_cases h:a.e=b.e
    ·have q:=FJ h;rw[DB h,q.nm,q.pl,q.lk,q.us,q.wh,q.sp,q.br,CI,DB rfl];simp
    rw[CO h]
    symm
    cases hq:((((((seq a.nm b.nm&&decide (a.pl=b.pl))&&decide (a.lk=b.lk))&&decide (a.us.l=b.us.l))&&clB (a.wh.l=b.wh.l))&&decide (a.sp.l=b.sp.l))&&decide (a.br.l=b.br.l))with
    |false=>rfl
    |true=>
     simp only[Bool.and_eq_true,decide_eq_true_eq,Cq,EH]at hq
     exact(h (Jh7 ⟨hq.1.1.1.1.1.1,hq.1.1.1.1.1.2,hq.1.1.1.1.2,hq.1.1.1.2,hq.1.1.2,hse,hq.1.2,hq.2⟩)).elim))
theorem Z7 (a b:Room) (w:World) (ha:RoomOk w a) (hb:RoomOk w b):
  Calls prog 37 #[.agg (rcl a).toArray,.agg (rcl b).toArray] w (RetB w (.bool (clB (a.e=b.e)))):=by
 have apls:=ha.pls;have alpls:=ha.pls.le;have aths:=ha.ths;have alths:=ha.ths.le;have aprs:=ha.prs;have alprs:=ha.prs.le;have awys:=ha.wys;have alwys:=ha.wys.le;have aacs:=ha.acs;have alacs:=ha.acs.le;have aaus:=ha.aus;have alaus:=ha.aus.le;have agl:=ha.gl;have algl:=ha.gl.le;have bpls:=hb.pls;have blpls:=hb.pls.le;have bths:=hb.ths;have blths:=hb.ths.le;have bprs:=hb.prs;have blprs:=hb.prs.le;have bwys:=hb.wys;have blwys:=hb.wys.le;have bacs:=hb.acs;have blacs:=hb.acs.le;have baus:=hb.aus;have blaus:=hb.aus.le;have bgl:=hb.gl;have blgl:=hb.gl.le;refine En func37 ?_;refine Nz 0 ?_;refine Wr 0 fun b2 hb2=>?_;refine Wr 1 fun b3 hb3=>?_;refine Nv 1 ?_;refine Wk 0 (Ba 1) ?_;refine Wk 1 Nc ?_;refine Wk 0 (Ba 0) ?_;refine Wk 2 Nc ?_;refine Wf 0 rfl rfl (fun hg=>Ff) ?_;refine Wf 0 rfl rfl (fun hg=>Ba 1) ?_;refine Wf 0 rfl rfl (fun hg=>Nc (eg_ hg rfl)) ?_;refine Wf 0 rfl rfl (fun hg=>Ff) ?_;refine Wf 0 rfl rfl (fun hg=>Ba 0) ?_;refine Wf 0 rfl rfl (fun hg=>Nc (eg_ hg rfl)) ?_;refine Wf 0 rfl rfl (fun hg=>Fr) ?_;refine Wk 1 Po ?_;refine Wf 0 rfl rfl (fun hg=>Ff) ?_;refine Wf 0 rfl rfl (fun hg=>Ba 1) ?_;refine Wf 0 rfl rfl (fun hg=>Nc (eg_ hg rfl)) ?_;refine Wf 0 rfl rfl (fun hg=>Ff) ?_;refine Wf 0 rfl rfl (fun hg=>Ba 0) ?_;refine Wf 0 rfl rfl (fun hg=>Nc (eg_ hg rfl)) ?_;refine Wf 0 rfl rfl (fun hg=>Fr) ?_;refine Wk 1 Po ?_;refine Wf 0 rfl rfl (fun hg=>Ff) ?_;refine Wf 0 rfl rfl (fun hg=>Ba 1) ?_;refine Wf 0 rfl rfl (fun hg=>Nc (eg_ hg rfl)) ?_;refine Wf 0 rfl rfl (fun hg=>Ff) ?_;refine Wf 0 rfl rfl (fun hg=>Ba 0) ?_;refine Wf 0 rfl rfl (fun hg=>Nc (eg_ hg rfl)) ?_;refine Wf 0 rfl rfl (fun hg=>Fr) ?_;refine Wk 1 Po ?_;refine Wf 0 rfl rfl (fun hg=>Ff) ?_;refine Wf 0 rfl rfl (fun hg=>Ba 1) ?_;refine Wf 0 rfl rfl (fun hg=>Nc (eg_ hg rfl)) ?_;refine Wf 0 rfl rfl (fun hg=>Ff) ?_;refine Wf 0 rfl rfl (fun hg=>Ba 0) ?_;refine Wf 0 rfl rfl (fun hg=>Nc (eg_ hg rfl)) ?_;refine Wf 0 rfl rfl (fun hg=>Fr) ?_;refine Wk 1 Po ?_;refine Wf 0 rfl rfl (fun hg=>Ff) ?_;refine Wf 0 rfl rfl (fun hg=>Ba 1) ?_;refine Wf 0 rfl rfl (fun hg=>Nc (eg_ hg rfl)) ?_;refine Wf 0 rfl rfl (fun hg=>Ff) ?_;refine Wf 0 rfl rfl (fun hg=>Ba 0) ?_;refine Wf 0 rfl rfl (fun hg=>Nc (eg_ hg rfl)) ?_;refine Wf 0 rfl rfl (fun hg=>Fr) ?_;refine Wk 1 Po ?_;refine Wf 0 rfl rfl (fun hg=>Ff) ?_;refine Wf 0 rfl rfl (fun hg=>Ba 1) ?_;refine Wf 0 rfl rfl (fun hg=>Ff) ?_;refine Wf 0 rfl rfl (fun hg=>Ba 0) ?_;refine Wf 0 rfl rfl (fun hg=>Fr) ?_;refine Wk 1 Po ?_;refine Wf 0 rfl rfl (fun hg=>Ff) ?_;refine Wf 0 rfl rfl (fun hg=>Ba 1) ?_;refine Wf 0 rfl rfl (fun hg=>Ff) ?_;refine Wf 0 rfl rfl (fun hg=>Ba 0) ?_;refine Wf 0 rfl rfl (fun hg=>Cb rfl (ec_ (eg_ hg rfl) (ec_ (eg_ hg rfl) en_)) IL (fun u hu=>CA _ _ u (agl.st hu) (bgl.st hu))) ?_;refine Wf 0 rfl rfl (fun hg=>Fn) ?_;refine Wk 0 Po ?_;refine Wp ?_ ?_<;>intro hc1
 ·refine Nz 1 ?_;refine Wd (Qc (Cr (Qr ?_)))
  exact out1 rfl rfl (Af (by rw[CO (fun h=>by
     have q:=E1 h;simp only[q.pls,q.ths,q.lprs,q.lwys,q.lacs,q.laus,q.ply,q.gl,DB]at hc1
     simp at hc1)]))
 have hgl:=Cq.1 hc1.2;refine Ck (Qc (Cs (Nz 1 ?_)));refine Nu ?_;refine CS.loopM (σ:=Int) (rsL [4,4,82,99]) (fun s=>[(5,.int .i64 s)]) (fun _=>_) (fun s=>0<=s/\s<=a.pls.l.length/\∀j:Int,0<=j->j<s->nth a.pls.l j=nth b.pls.l j) (fun s=>(a.pls.l.length-s).toNat) 0 (fun _ _=>rfl) rfl rfl ⟨by omega,by omega,fun j _ _=>by omega⟩ ?_;intro a_ t hs;obtain⟨ha_1,ha_2,ha_3⟩:=hs;refine Cs (Nz 2 ?_);refine Wk 0 (Ba 1) ?_;refine Wk 1 Nc ?_;refine Wp ?_ ?_<;>intro hc2
 ·refine Ck (Qc (Cs (Ce (Cs (Dr mixed 1 ?_)))));refine Dk 1 (Ba 1) ?_;refine Dk 0 Xc ?_;refine Dk 1 Ub ?_;refine Dk 1 (Ba 0) ?_;refine Dk 0 Xc ?_;refine Dk 0 Ub ?_;refine Dk 0 (A3 rfl rfl) ?_;refine Dd (Qc (Cn ?_ ?_))<;>intro hc3
  ·refine Nz 1 ?_;exact Wd (Qc (Cr (Qs (Qr (Qr (Qs (Qr (out1 rfl rfl (Af (by rw[CO (fun h=>Jeb hc3 (by rw[(E1 h).pls]))]))))))))))
  refine Ck (Qb (Qc (Ny 1 ?_)));refine Wk 1 Za ?_;refine Wd ?_
  exact QS.head (a_+1) rfl rfl ⟨⟨by omega,by omega,fun j h0 h1=>by
     rcases(show j<a_\/j=a_ by omega)with h|h
     ·exact ha_3 j h0 h
     rw[h];exact EH.1 hc3⟩,by omega⟩
 refine Cv (Qe (Qe (Qx (Qc (Cs (Nz 1 ?_))))));refine Nu ?_;refine CS.loopM (σ:=Int) (rsL [4,4,100,117]) (fun s=>[(6,.int .i64 s)]) (fun _=>_) (fun s=>0<=s/\s<=a.ths.l.length/\∀j:Int,0<=j->j<s->nth a.ths.l j=nth b.ths.l j) (fun s=>(a.ths.l.length-s).toNat) 0 (fun _ _=>rfl) rfl rfl ⟨by omega,by omega,fun j _ _=>by omega⟩ ?_;intro b_ t hs;obtain⟨hb_1,hb_2,hb_3⟩:=hs;refine Cs (Nz 2 ?_);refine Wk 0 (Ba 1) ?_;refine Wk 1 Nc ?_;refine Wp ?_ ?_<;>intro hc4
 ·refine Ck (Qc (Cs (Ce (Cs (Dr mixed 1 ?_)))));refine Dk 1 (Ba 1) ?_;refine Dk 0 Xc ?_;refine Dk 1 Ua ?_;refine Dk 1 (Ba 0) ?_;refine Dk 0 Xc ?_;refine Dk 0 Ua ?_;refine Dk 0 (DL Zw rfl rfl (TR (nth a.ths.l b_) (nth b.ths.l b_))) ?_;refine Dd (Qc (Cn ?_ ?_))<;>intro hc5
  ·refine Nz 1 ?_;exact Wd (Qc (Cr (Qs (Qr (Qr (Qs (Qr (out1 rfl rfl (Af (by rw[CO (fun h=>by rw[(E1 h).ths,DB rfl]at hc5;cases hc5)]))))))))))
  refine Ck (Qb (Qc (Ny 1 ?_)));refine Wk 1 Za ?_;refine Wd ?_
  exact QS.head (b_+1) rfl rfl ⟨⟨by omega,by omega,fun j h0 h1=>by
     rcases(show j<b_\/j=b_ by omega)with h|h
     ·exact hb_3 j h0 h
     rw[h];exact Cq.1 hc5⟩,by omega⟩
 refine Cv (Qe (Qe (Qx (Qc (Cs (Nz 1 ?_))))));refine Nu ?_;refine CS.loopM (σ:=Int) (rsL [4,4,8,9,118,154]) (fun s=>[(7,.int .i64 s)]) (fun _=>_) (fun s=>0<=s/\s<=a.prs.l.length/\∀j:Int,0<=j->j<s->(nth a.prs.l j).e=(nth b.prs.l j).e) (fun s=>(a.prs.l.length-s).toNat) 0 (fun _ _=>rfl) rfl rfl ⟨by omega,by omega,fun j _ _=>by omega⟩ ?_;intro d t hs;obtain⟨hd1,hd2,hd3⟩:=hs;refine Cs (Nz 2 ?_);refine Wk 0 (Ba 1) ?_;refine Wk 1 Nc ?_;refine Wp ?_ ?_<;>intro hc6
 ·have aw:SlT cLit w (nth a.prs.l d).wh:=ha.prs.at hd1 (by omega);have bw:SlT cLit w (nth b.prs.l d).wh:=hb.prs.at hd1 (by omega);refine Ck (Qc (Cs (Ce (Cs ?_))));refine CS.drawnAll (k:=14) mixed rfl rfl ?_;refine Ar [0] ?_;refine Ak 1 [2] rfl (Ba 1) ?_;refine Ak 3 [] rfl Xc ?_;refine Ak 4 [5] rfl Ua ?_;refine Ak 6 [7] rfl (Ba 0) ?_;refine Ak 8 [] rfl Xc ?_;refine Ak 9 [] rfl Ua ?_;refine AS.two (i:=10) (j:=11) (by kernel_rfl) rfl rfl (by first|exact fun _ h=>h|exact fun _ h=>h.sub (by repeat first|exact List.Sublist.refl _|apply List.Sublist.cons_cons|apply List.Sublist.cons)) rfl rfl ?_ ?_
  ·refine Wq 0 EP fun b8 hb8=>?_;refine Wd (Qa ?_);refine Ao 11 rfl ?_;refine Wq 0 EP fun b9 hb9=>?_;refine Wd (Qa ?_);refine Ao 12 rfl ?_;refine Wv 0 1 ?_;refine Wd (Qa ?_);refine Ao 13 rfl ?_;refine Wv 0 0 ?_;refine Wd (Qa ?_);refine Ae ?_;refine Qc (Nz 1 ?_);refine Wk 1 (Ba 1) ?_;refine Wk 0 (Ba 0) ?_;refine Wk 1 (A3 rfl rfl) ?_;refine Wf 0 rfl rfl (fun hg=>Ff) ?_;refine Wf 0 rfl rfl (fun hg=>Ba 1) ?_;refine Wf 0 rfl rfl (fun hg=>Ff) ?_;refine Wf 0 rfl rfl (fun hg=>Ba 0) ?_;refine Wf 0 rfl rfl (fun hg=>Fr) ?_;refine Wk 1 Po ?_;refine Wf 0 rfl rfl (fun hg=>Ff) ?_;refine Wf 0 rfl rfl (fun hg=>Ba 1) ?_;refine Wf 0 rfl rfl (fun hg=>Ff) ?_;refine Wf 0 rfl rfl (fun hg=>Ba 0) ?_;refine Wf 0 rfl rfl (fun hg=>Cb rfl (ec_ (eg_ hg rfl) (ec_ (eg_ hg rfl) en_)) IL (fun u hu=>CA _ _ u (aw.st hu) (bw.st hu))) ?_;refine Wf 0 rfl rfl (fun hg=>Fn) ?_;refine Wk 0 Po ?_;refine Wp ?_ ?_<;>intro hc7
   ·refine Nz 1 ?_;refine Wd (Qc (Cr (Qs (Qr (Qr (Qs (Qr ?_)))))))
    exact out1 rfl rfl (Af (by rw[CO (fun h=>by
       have q:=(E1 h).pr d;simp only[q.1,q.2.1,q.2.2,CI,DB]at hc7
       simp at hc7)]))
   refine Ck (Qb (Qc (Ny 1 ?_)));refine Wk 1 Za ?_;refine Wd ?_;refine QS.sel [2,2] rfl ?_
   exact QS.head (d+1) rfl rfl ⟨⟨by omega,by omega,fun j h0 h1=>by
      rcases(show j<d\/j=d by omega)with h|h
      ·exact hd3 j h0 h
      rw[h];exact Jcm (EH.1 hc7.1.1) hc7.1.2 (Cq.1 hc7.2)⟩,by omega⟩
  refine Wq 0 EP fun b9 hb9=>?_;refine Wd (Qa ?_);refine Ao 10 rfl ?_;refine Wq 0 EP fun b8 hb8=>?_;refine Wd (Qa ?_);refine Ao 12 rfl ?_;refine Wv 0 0 ?_;refine Wd (Qa ?_);refine Ao 13 rfl ?_;refine Wv 0 1 ?_;refine Wd (Qa ?_);refine Ae ?_;refine Qc (Nz 1 ?_);refine Wk 1 (Ba 0) ?_;refine Wk 0 (Ba 1) ?_;refine Wk 1 (A3 rfl rfl) ?_;refine Wf 0 rfl rfl (fun hg=>Ff) ?_;refine Wf 0 rfl rfl (fun hg=>Ba 0) ?_;refine Wf 0 rfl rfl (fun hg=>Ff) ?_;refine Wf 0 rfl rfl (fun hg=>Ba 1) ?_;refine Wf 0 rfl rfl (fun hg=>Fr) ?_;refine Wk 1 Po ?_;refine Wf 0 rfl rfl (fun hg=>Ff) ?_;refine Wf 0 rfl rfl (fun hg=>Ba 0) ?_;refine Wf 0 rfl rfl (fun hg=>Ff) ?_;refine Wf 0 rfl rfl (fun hg=>Ba 1) ?_;refine Wf 0 rfl rfl (fun hg=>Cb rfl (ec_ (eg_ hg rfl) (ec_ (eg_ hg rfl) en_)) IL (fun u hu=>CA _ _ u (aw.st hu) (bw.st hu))) ?_;refine Wf 0 rfl rfl (fun hg=>Fn) ?_;refine Wk 0 Po ?_;refine Wp ?_ ?_<;>intro hc7
  ·refine Nz 1 ?_;refine Wd (Qc (Cr (Qs (Qr (Qr (Qs (Qr ?_)))))))
   exact out1 rfl rfl (Af (by rw[CO (fun h=>by
      have q:=(E1 h).pr d;simp only[q.1,q.2.1,q.2.2,CI,DB]at hc7
      simp at hc7)]))
  refine Ck (Qb (Qc (Ny 1 ?_)));refine Wk 1 Za ?_;refine Wd ?_;refine QS.sel [2,2] rfl ?_
  exact QS.head (d+1) rfl rfl ⟨⟨by omega,by omega,fun j h0 h1=>by
     rcases(show j<d\/j=d by omega)with h|h
     ·exact hd3 j h0 h
     rw[h];exact Jcm (EH.1 hc7.1.1) hc7.1.2 (Cq.1 hc7.2)⟩,by omega⟩
 refine Cv (Qe (Qe (Qx (Qc (Cs (Nz 1 ?_))))));refine Nu ?_;refine CS.loopM (σ:=Int) (rsL [4,4,11,12,155,191]) (fun s=>[(10,.int .i64 s)]) (fun _=>_) (fun s=>0<=s/\s<=a.wys.l.length/\∀j:Int,0<=j->j<s->(nth a.wys.l j).e=(nth b.wys.l j).e) (fun s=>(a.wys.l.length-s).toNat) 0 (fun _ _=>rfl) rfl rfl ⟨by omega,by omega,fun j _ _=>by omega⟩ ?_;intro e t hs;obtain⟨he1,he2,he3⟩:=hs;refine Cs (Nz 2 ?_);refine Wk 0 (Ba 1) ?_;refine Wk 1 Nc ?_;refine Wp ?_ ?_<;>intro hc8
 ·have aw:SlT cLit w (nth a.wys.l e).wh:=ha.wys.at he1 (by omega);have bw:SlT cLit w (nth b.wys.l e).wh:=hb.wys.at he1 (by omega);refine Ck (Qc (Cs (Ce (Cs ?_))));refine CS.drawnAll (k:=14) mixed rfl rfl ?_;refine Ar [0] ?_;refine Ak 1 [2] rfl (Ba 1) ?_;refine Ak 3 [] rfl Xc ?_;refine Ak 4 [5] rfl Ua ?_;refine Ak 6 [7] rfl (Ba 0) ?_;refine Ak 8 [] rfl Xc ?_;refine Ak 9 [] rfl Ua ?_;refine AS.two (i:=10) (j:=11) (by kernel_rfl) rfl rfl (by first|exact fun _ h=>h|exact fun _ h=>h.sub (by repeat first|exact List.Sublist.refl _|apply List.Sublist.cons_cons|apply List.Sublist.cons)) rfl rfl ?_ ?_
  ·refine Wq 0 Ex fun b11 hb11=>?_;refine Wd (Qa ?_);refine Ao 11 rfl ?_;refine Wq 0 Ex fun b12 hb12=>?_;refine Wd (Qa ?_);refine Ao 12 rfl ?_;refine Wv 0 1 ?_;refine Wd (Qa ?_);refine Ao 13 rfl ?_;refine Wv 0 0 ?_;refine Wd (Qa ?_);refine Ae ?_;refine Qc (Nz 1 ?_);refine Wk 1 (Ba 1) ?_;refine Wk 2 (Ba 0) ?_;refine Wf 0 rfl rfl (fun hg=>Ff) ?_;refine Wf 0 rfl rfl (fun hg=>Ba 1) ?_;refine Wf 0 rfl rfl (fun hg=>Ff) ?_;refine Wf 0 rfl rfl (fun hg=>Ba 0) ?_;refine Wf 0 rfl rfl (fun hg=>Fr) ?_;refine Wk 1 Po ?_;refine Wf 0 rfl rfl (fun hg=>Ff) ?_;refine Wf 0 rfl rfl (fun hg=>Ba 1) ?_;refine Wf 0 rfl rfl (fun hg=>Ff) ?_;refine Wf 0 rfl rfl (fun hg=>Ba 0) ?_;refine Wf 0 rfl rfl (fun hg=>Cb rfl (ec_ (eg_ hg rfl) (ec_ (eg_ hg rfl) en_)) IL (fun u hu=>CA _ _ u (aw.st hu) (bw.st hu))) ?_;refine Wf 0 rfl rfl (fun hg=>Fn) ?_;refine Wk 0 Po ?_;refine Wp ?_ ?_<;>intro hc9
   ·refine Nz 1 ?_;refine Wd (Qc (Cr (Qs (Qr (Qr (Qs (Qr ?_)))))))
    exact out1 rfl rfl (Af (by rw[CO (fun h=>by
       have q:=(E1 h).wy e;simp only[q.1,q.2.1,q.2.2,DB]at hc9
       simp at hc9)]))
   refine Ck (Qb (Qc (Ny 1 ?_)));refine Wk 1 Za ?_;refine Wd ?_;refine QS.sel [2,2] rfl ?_
   exact QS.head (e+1) rfl rfl ⟨⟨by omega,by omega,fun j h0 h1=>by
      rcases(show j<e\/j=e by omega)with h|h
      ·exact he3 j h0 h
      rw[h];exact Jc4 hc9.1.1 hc9.1.2 (Cq.1 hc9.2)⟩,by omega⟩
  refine Wq 0 Ex fun b12 hb12=>?_;refine Wd (Qa ?_);refine Ao 10 rfl ?_;refine Wq 0 Ex fun b11 hb11=>?_;refine Wd (Qa ?_);refine Ao 12 rfl ?_;refine Wv 0 0 ?_;refine Wd (Qa ?_);refine Ao 13 rfl ?_;refine Wv 0 1 ?_;refine Wd (Qa ?_);refine Ae ?_;refine Qc (Nz 1 ?_);refine Wk 1 (Ba 0) ?_;refine Wk 2 (Ba 1) ?_;refine Wf 0 rfl rfl (fun hg=>Ff) ?_;refine Wf 0 rfl rfl (fun hg=>Ba 0) ?_;refine Wf 0 rfl rfl (fun hg=>Ff) ?_;refine Wf 0 rfl rfl (fun hg=>Ba 1) ?_;refine Wf 0 rfl rfl (fun hg=>Fr) ?_;refine Wk 1 Po ?_;refine Wf 0 rfl rfl (fun hg=>Ff) ?_;refine Wf 0 rfl rfl (fun hg=>Ba 0) ?_;refine Wf 0 rfl rfl (fun hg=>Ff) ?_;refine Wf 0 rfl rfl (fun hg=>Ba 1) ?_;refine Wf 0 rfl rfl (fun hg=>Cb rfl (ec_ (eg_ hg rfl) (ec_ (eg_ hg rfl) en_)) IL (fun u hu=>CA _ _ u (aw.st hu) (bw.st hu))) ?_;refine Wf 0 rfl rfl (fun hg=>Fn) ?_;refine Wk 0 Po ?_;refine Wp ?_ ?_<;>intro hc9
  ·refine Nz 1 ?_;refine Wd (Qc (Cr (Qs (Qr (Qr (Qs (Qr ?_)))))))
   exact out1 rfl rfl (Af (by rw[CO (fun h=>by
      have q:=(E1 h).wy e;simp only[q.1,q.2.1,q.2.2,DB]at hc9
      simp at hc9)]))
  refine Ck (Qb (Qc (Ny 1 ?_)));refine Wk 1 Za ?_;refine Wd ?_;refine QS.sel [2,2] rfl ?_
  exact QS.head (e+1) rfl rfl ⟨⟨by omega,by omega,fun j h0 h1=>by
     rcases(show j<e\/j=e by omega)with h|h
     ·exact he3 j h0 h
     rw[h];exact Jc4 hc9.1.1 hc9.1.2 (Cq.1 hc9.2)⟩,by omega⟩
 refine Cv (Qe (Qe (Qx (Qc (Cs (Nz 1 ?_))))));refine Nu ?_;refine CS.loopM (σ:=Int) (rsL [4,4,192,210]) (fun s=>[(13,.int .i64 s)]) (fun _=>_) (fun s=>0<=s/\s<=a.acs.l.length/\∀j:Int,0<=j->j<s->(nth a.acs.l j).e=(nth b.acs.l j).e) (fun s=>(a.acs.l.length-s).toNat) 0 (fun _ _=>rfl) rfl rfl ⟨by omega,by omega,fun j _ _=>by omega⟩ ?_;intro f t hs;obtain⟨hf1,hf2,hf3⟩:=hs;refine Cs (Nz 2 ?_);refine Wk 0 (Ba 1) ?_;refine Wk 1 Nc ?_;refine Wp ?_ ?_<;>intro hc10
 ·have aw:ActOk w (nth a.acs.l f):=ha.acs.at hf1 (by omega);have bw:ActOk w (nth b.acs.l f):=hb.acs.at hf1 (by omega);refine Ck (Qc (Cs (Ce (Cs (Dr mixed 1 ?_)))));refine Dk 1 (Ba 1) ?_;refine Dk 0 Xc ?_;refine Dk 1 Ua ?_;refine Dk 1 (Ba 0) ?_;refine Dk 0 Xc ?_;refine Dk 0 Ua ?_;refine Dk 1 (Cb rfl rfl Jc3 (fun u hu=>RE (nth a.acs.l f) (nth b.acs.l f) u (cAct.ext _ _ _ aw hu.below) (cAct.ext _ _ _ bw hu.below))) ?_;refine Dd (Qc (Cn ?_ ?_))<;>intro hc11
  ·refine Nz 1 ?_;exact Wd (Qc (Cr (Qs (Qr (Qr (Qs (Qr (out1 rfl rfl (Af (by rw[CO (fun h=>by rw[DB ((E1 h).ac f)]at hc11;cases hc11)]))))))))))
  refine Ck (Qb (Qc (Ny 1 ?_)));refine Wk 1 Za ?_;refine Wd ?_
  exact QS.head (f+1) rfl rfl ⟨⟨by omega,by omega,fun j h0 h1=>by
     rcases(show j<f\/j=f by omega)with h|h
     ·exact hf3 j h0 h
     rw[h];exact Cq.1 hc11⟩,by omega⟩
 refine Cv (Qe (Qe (Qx (Qc (Cs (Nz 1 ?_))))));refine Nu ?_;refine CS.loopM (σ:=Int) (rsL [4,4,211,246]) (fun s=>[(14,.int .i64 s)]) (fun _=>_) (fun s=>0<=s/\s<=a.aus.l.length/\∀j:Int,0<=j->j<s->(nth a.aus.l j).e=(nth b.aus.l j).e) (fun s=>(a.aus.l.length-s).toNat) 0 (fun _ _=>rfl) rfl rfl ⟨by omega,by omega,fun j _ _=>by omega⟩ ?_;intro k t hs;obtain⟨hk1,hk2,hk3⟩:=hs;refine Cs (Nz 2 ?_);refine Wk 0 (Ba 1) ?_;refine Wk 1 Nc ?_;refine Wp ?_ ?_<;>intro hc12
 ·have aw:SlT cLit w (nth a.aus.l k).wh:=ha.aus.at hk1 (by omega);have bw:SlT cLit w (nth b.aus.l k).wh:=hb.aus.at hk1 (by omega);refine Ck (Qc (Cs (Ce (Cs (Dr mixed 1 ?_)))));refine Dk 1 (Ba 1) ?_;refine Dk 1 Xc ?_;refine Dk 1 (OK 3 1 2 rfl aaus rfl ⟨by omega,by omega⟩ rfl rfl ZY) ?_;refine Dk 1 (Ba 0) ?_;refine Dk 1 Xc ?_;refine Dk 0 (OK 3 1 2 rfl baus rfl ⟨by omega,by omega⟩ rfl rfl ZY) ?_;refine Dk 1 (DL Jbt rfl rfl (@YX (nth a.aus.l k) (nth b.aus.l k))) ?_;refine Df 0 rfl rfl (fun hg=>Ff) ?_;refine Df 0 rfl rfl (fun hg=>Ba 1) ?_;refine Df 0 rfl rfl (fun hg=>Fm) ?_;refine Df 0 rfl rfl (fun hg=>Xc (eg_ hg rfl)) ?_;refine Df 0 rfl rfl (fun hg=>Ff) ?_;refine Df 0 rfl rfl (fun hg=>Uc 3 0) ?_;refine Df 0 rfl rfl (fun hg=>Ff) ?_;refine Df 0 rfl rfl (fun hg=>Ba 0) ?_;refine Df 0 rfl rfl (fun hg=>Fm) ?_;refine Df 0 rfl rfl (fun hg=>Xc (eg_ hg rfl)) ?_;refine Df 0 rfl rfl (fun hg=>Ff) ?_;refine Df 0 rfl rfl (fun hg=>Uc 3 0) ?_;refine Df 0 rfl rfl (fun hg=>Cb rfl (ec_ (eg_ hg rfl) (ec_ (eg_ hg rfl) en_)) IL (fun u hu=>CA _ _ u (aw.st hu) (bw.st hu))) ?_;refine Df 0 rfl rfl (fun hg=>Fn) ?_;refine Dk 0 Po ?_;refine Dd (Qc (Cn ?_ ?_))<;>intro hc13
  ·refine Nz 1 ?_;refine Wd (Qc (Cr (Qs (Qr (Qr (Qs (Qr ?_)))))))
   exact out1 rfl rfl (Af (by rw[CO (fun h=>by
      have q:=(E1 h).au k;simp only[q.1,q.2.1,q.2.2,DB]at hc13
      simp at hc13)]))
  refine Ck (Qb (Qc (Ny 1 ?_)));refine Wk 1 Za ?_;refine Wd ?_
  exact QS.head (k+1) rfl rfl ⟨⟨by omega,by omega,fun j h0 h1=>by
     rcases(show j<k\/j=k by omega)with h|h
     ·exact hk3 j h0 h
     rw[h];exact Jc5 hc13.1.1 hc13.1.2 (Cq.1 hc13.2)⟩,by omega⟩
 refine Cv (Qe (Qe (Qx (Qc (Nz 1 ?_)))));exact Wd (Qc (Cr (out1 rfl rfl (Af (by rw[DB (Jep (JE hc2 (by omega) ha_3) (JE hc4 (by omega) hb_3) (CC Pro.e hc6 (by omega) hd3) (CC Way.e hc8 (by omega) he3) (CC Actn.e hc10 (by omega) hf3) (CC Auto.e hc12 (by omega) hk3) (by omega) hgl)])))))
end Go.Proofs.YtllebkdchemabaaGreatDoor
