/- Merged texts of this proof. -/
import Derived.Test.YtllebkdchemabaaGreatDoorZu
import Derived.Test.YtllebkdchemabaaGreatDoorZw0
set_option maxHeartbeats 8000000
namespace Go.Proofs.YtllebkdchemabaaGreatDoor
open Go.RowKit Go.Proofs Tryz
set_option maxRecDepth 100000
set_option linter.unusedVariables false
set_option linter.unusedSimpArgs false
theorem Jbi:agq prog 85=some [(0,0),(1,0)]:=by kernel_rfl
theorem Xx (x y:LockD):cmps (cLock.cells x) (cLock.cells y) [(0,0),(1,0)]=some (decide (x=y)):=by
 cases x;cases y
 simp only[cmps,cmp1,cLock,List.getElem?_cons_zero,List.getElem?_cons_succ,LockD.mk.injEq];simp
theorem XK {a b:NoteD} (h:a.p=b.p):a.nm=b.nm/\a.pl=b.pl/\a.lk=b.lk/\a.wh.l=b.wh.l/\a.cl=b.cl:=
 ⟨congrArg NoteP.nm h,congrArg NoteP.pl h,congrArg NoteP.lk h,congrArg NoteP.wh h,congrArg NoteP.cl h⟩
theorem Jcu {a b:NoteD} (h1:a.nm=b.nm) (h2:a.pl=b.pl) (h3:a.lk=b.lk) (h4:a.wh.l=b.wh.l) (h5:a.cl=b.cl):a.p=b.p:=by
 unfold NoteD.p;rw[h1,h2,h3,h4,h5]
theorem OD {a b:Game} (h:a.p=b.p):a.rm.e=b.rm.e/\a.lks.l=b.lks.l/\a.cds.l.map Sl.l=b.cds.l.map Sl.l/\a.nts.l.map NoteD.p=b.nts.l.map NoteD.p/\a.tr=b.tr:=
 ⟨congrArg GP.rm h,congrArg GP.lks h,congrArg GP.cds h,congrArg GP.nts h,congrArg GP.tr h⟩
theorem Je9 {a b:Game} (h1:a.rm.e=b.rm.e) (h2:a.lks.l=b.lks.l) (h3:a.cds.l.map Sl.l=b.cds.l.map Sl.l) (h4:a.nts.l.map NoteD.p=b.nts.l.map NoteD.p) (h5:a.tr=b.tr):a.p=b.p:=by
 unfold Game.p;rw[h1,h2,h3,h4,h5]
theorem XX {α β:Type} [Inhabited α] {f:α->β} {l m:List α} (h:l.map f=m.map f) (i:Int):f (nth l i)=f (nth m i):=by
 have h2:=congrArg (fun q:List β=>q[i.toNat]?) h;simp only[List.getElem?_map]at h2;unfold nth;simp only[List.getD];cases h3:l[i.toNat]?<;>cases h4:m[i.toNat]?<;>simp_all
theorem NS (c d:Clue) (gv hv:Value) (w:World) (h1:SlI w gv c.g) (h2:SlI w hv d.g):
  Calls prog 104 #[.agg #[.int .i64 c.k,.int .i64 c.a,.int .i64 c.b,.int .i64 c.n,.int .i64 c.m,gv,.bool c.nt],.agg #[.int .i64 d.k,.int .i64 d.a,.int .i64 d.b,.int .i64 d.n,.int .i64 d.m,hv,.bool d.nt]] w (RetB w (.bool (decide (c=d)))):=by
 refine En func104 ?_;refine Nz 0 ?_;refine Wr 0 fun b2 hb2=>?_;refine Wr 1 fun b3 hb3=>?_;refine Nx 1 ?_;refine Wk 1 (Ba 1) ?_;refine Wk 2 (Ba 0) ?_;refine Wj 0 ?_;refine Wj 0 ?_;refine Wj 0 ?_;refine Wj 0 ?_;refine Wj 0 ?_;refine Wk 1 Pa ?_;refine Wj 0 ?_;refine Wj 0 ?_;refine Wj 0 ?_;refine Wj 0 ?_;refine Wj 0 ?_;refine Wk 1 Pa ?_;refine Wj 0 ?_;refine Wj 0 ?_;refine Wj 0 ?_;refine Wj 0 ?_;refine Wj 0 ?_;refine Wk 1 Pa ?_;refine Wj 0 ?_;refine Wj 0 ?_;refine Wj 0 ?_;refine Wj 0 ?_;refine Wj 0 ?_;refine Wk 1 Pa ?_;refine Wj 0 ?_;refine Wj 0 ?_;refine Wj 0 ?_;refine Wj 0 ?_;refine Wt 0 rfl rfl (fun hg=>MZ (eg_ hg rfl) (eg_ hg rfl) underlying4) ?_;refine Wk 1 Pa ?_;refine Wj 0 ?_;refine Wj 0 ?_;refine Wj 0 ?_;refine Wj 0 ?_;refine Wt 0 rfl rfl (fun hg=>Cb rfl (ec_ (eg_ hg rfl) (ec_ (eg_ hg rfl) en_)) S7 (fun u hu=>DK _ _ _ _ u (h1.st hu) (h2.st hu))) ?_;refine Wk 1 Pa ?_;exact Wd (Qc (Cr (out1 rfl rfl (Af (by cases c;cases d;simp[Clue.mk.injEq,Bool.and_assoc,and_assoc];grind)))))
theorem QG (a b:NoteD) (w:World) (ha:cNote.ok w a) (hb:cNote.ok w b):
  Calls prog 39 #[.agg #[.string a.nm,.int .i64 a.pl,.int .i64 a.lk,a.wh.v,.int .i64 a.cl.k,.int .i64 a.cl.a,.int .i64 a.cl.b,.int .i64 a.cl.n,.int .i64 a.cl.m,a.gv,.bool a.cl.nt],.agg #[.string b.nm,.int .i64 b.pl,.int .i64 b.lk,b.wh.v,.int .i64 b.cl.k,.int .i64 b.cl.a,.int .i64 b.cl.b,.int .i64 b.cl.n,.int .i64 b.cl.m,b.gv,.bool b.cl.nt]] w (RetB w (.bool (clB (a.p=b.p)))):=by
 have awh:=ha.1;have bwh:=hb.1;have agv:=ha.2;have bgv:=hb.2;have la:=awh.le;have lb:=bwh.le;refine En func39 ?_;refine Nz 0 ?_;refine Wr 0 fun b2 hb2=>?_;refine Wr 1 fun b3 hb3=>?_;refine Nv 1 ?_;refine Wk 1 (Ba 1) ?_;refine Wk 0 (Ba 0) ?_;refine Wk 1 (A3 rfl rfl) ?_;refine We 0 ?_;refine We 0 ?_;refine We 0 ?_;refine We 0 ?_;refine We 0 ?_;refine Wk 1 Po ?_;refine We 0 ?_;refine We 0 ?_;refine We 0 ?_;refine We 0 ?_;refine We 0 ?_;refine Wk 1 Po ?_;refine We 0 ?_;refine Wf 0 rfl rfl (fun hg=>Bc 1) ?_;refine We 0 ?_;refine Wf 0 rfl rfl (fun hg=>Bc 0) ?_;refine Wf 0 rfl rfl (fun hg=>Cb rfl (ec_ (eg_ hg rfl) (ec_ (eg_ hg rfl) en_)) Jby (fun u hu=>NS _ _ _ _ u (agv.st hu) (bgv.st hu))) ?_;refine We 0 ?_;refine Wk 1 Po ?_;refine We 0 ?_;refine We 0 ?_;refine We 0 ?_;refine We 0 ?_;refine We 0 ?_;refine We 0 ?_;refine We 0 ?_;refine Wk 0 Po ?_;refine Wp ?_ ?_<;>intro hc1
 ·refine Nz 1 ?_;refine Wd (Qc (Cr (Qr ?_)))
  exact out1 rfl rfl (Af (by rw[CO (fun h=>by
     obtain⟨q1,q2,q3,q4,q5⟩:=XK h;simp only[q1,q2,q3,q4,q5,CI]at hc1
     simp at hc1)]))
 refine Ck (Qc (Cs (Nz 1 ?_)));refine Nu ?_;refine CS.loopM (σ:=Int) (rsL [4,4,42,59]) (fun s=>[(5,.int .i64 s)]) (fun _=>_) (fun s=>0<=s/\s<=a.wh.l.length/\∀j:Int,0<=j->j<s->nth a.wh.l j=nth b.wh.l j) (fun s=>(a.wh.l.length-s).toNat) 0 (fun _ _=>rfl) rfl rfl ⟨by omega,by omega,fun j _ _=>by omega⟩ ?_;intro s t hs;obtain⟨hs1,hs2,hs3⟩:=hs;refine Cs (Nz 2 ?_);refine Wk 0 (Ba 1) ?_;refine Wk 1 Nc ?_;refine Wp ?_ ?_<;>intro hc2
 ·refine Ck (Qc (Cs (Ce (Cs (Dr mixed 1 ?_)))));refine Dk 1 (Ba 1) ?_;refine Dk 0 Xc ?_;refine Dk 1 Ua ?_;refine Dk 1 (Ba 0) ?_;refine Dk 0 Xc ?_;refine Dk 0 Ua ?_;refine Dk 0 (DL Jd5 rfl rfl (T5 (nth a.wh.l s) (nth b.wh.l s))) ?_;refine Dd (Qc (Cn ?_ ?_))<;>intro hc3
  ·refine Nz 1 ?_;exact Wd (Qc (Cr (Qs (Qr (Qr (Qs (Qr (out1 rfl rfl (Af (by rw[CO (fun h=>hc3 (by rw[(XK h).2.2.2.1]))]))))))))))
  refine Ck (Qb (Qc (Ny 1 ?_)));refine Wk 1 Za ?_;refine Wd ?_
  exact QS.head (s+1) rfl rfl ⟨⟨by omega,by omega,fun j h0 h1=>by
     rcases(show j<s\/j=s by omega)with h|h
     ·exact hs3 j h0 h
     rw[h];exact hc3⟩,by omega⟩
 refine Cv (Qe (Qe (Qx (Qc (Nz 1 ?_)))));exact Wd (Qc (Cr (out1 rfl rfl (Af (by rw[DB (Jcu (EH.1 (by grind)) (by grind) (by grind) (JE hc2 (by omega) hs3) (by grind))])))))
theorem ZZ (a b:Game) (w:World) (ha:GameOk w a) (hb:GameOk w b):
  Calls prog 8 #[.agg (gcl a).toArray,.agg (gcl b).toArray] w (RetB w (.bool (clB (a.p=b.p)))):=by
 have alks:=ha.lks;have allks:=ha.lks.le;have acds:=ha.cds;have alcds:=ha.cds.le;have ants:=ha.nts;have alnts:=ha.nts.le;have blks:=hb.lks;have bllks:=hb.lks.le;have bcds:=hb.cds;have blcds:=hb.cds.le;have bnts:=hb.nts;have blnts:=hb.nts.le;refine En func8 ?_;refine Nz 0 ?_;refine Wr 0 fun b2 hb2=>?_;refine Wr 1 fun b3 hb3=>?_;refine Nv 1 ?_;refine Wk 1 (Bc 1) ?_;refine Wk 0 (Bc 0) ?_;refine Wk 2 (Cb rfl rfl Jhb (fun u hu=>Z7 a.rm b.rm u (ha.rm.st hu) (hb.rm.st hu))) ?_;refine We 0 ?_;refine We 0 ?_;refine We 0 ?_;refine We 0 ?_;refine We 0 ?_;refine We 0 ?_;refine We 0 ?_;refine Wk 1 Po ?_;refine We 0 ?_;refine We 0 ?_;refine We 0 ?_;refine We 0 ?_;refine We 0 ?_;refine We 0 ?_;refine We 0 ?_;refine Wk 1 Po ?_;refine We 0 ?_;refine We 0 ?_;refine We 0 ?_;refine We 0 ?_;refine We 0 ?_;refine We 0 ?_;refine We 0 ?_;refine Wk 1 Po ?_;refine We 0 ?_;refine We 0 ?_;refine We 0 ?_;refine We 0 ?_;refine We 0 ?_;refine Wk 0 Po ?_;refine Wp ?_ ?_<;>intro hc1
 ·refine Nz 1 ?_;refine Wd (Qc (Cr (Qr ?_)))
  exact out1 rfl rfl (Af (by rw[CO (fun h=>by
     obtain⟨q1,q2,q3,q4,q5⟩:=OD h;have l3:a.cds.l.length=b.cds.l.length:=by simpa using congrArg List.length q3
     have l4:a.nts.l.length=b.nts.l.length:=by simpa using congrArg List.length q4
     simp only[q1,q2,l3,l4,q5,DB]at hc1
     simp at hc1)]))
 have hrm:a.rm.e=b.rm.e:=Cq.1 (by grind);refine Ck (Qc (Cs (Nz 1 ?_)));refine Nu ?_;refine CS.loopM (σ:=Int) (rsL [4,4,48,65]) (fun s=>[(5,.int .i64 s)]) (fun _=>_) (fun s=>0<=s/\s<=a.lks.l.length/\∀j:Int,0<=j->j<s->nth a.lks.l j=nth b.lks.l j) (fun s=>(a.lks.l.length-s).toNat) 0 (fun _ _=>rfl) rfl rfl ⟨by omega,by omega,fun j _ _=>by omega⟩ ?_;intro a_ t hs;obtain⟨ha_1,ha_2,ha_3⟩:=hs;refine Cs (Nz 2 ?_);refine Wk 0 (Ba 1) ?_;refine Wk 1 Nc ?_;refine Wp ?_ ?_<;>intro hc2
 ·refine Ck (Qc (Cs (Ce (Cs (Dr mixed 1 ?_)))));refine Dk 1 (Ba 1) ?_;refine Dk 0 Xc ?_;refine Dk 1 Ua ?_;refine Dk 1 (Ba 0) ?_;refine Dk 0 Xc ?_;refine Dk 0 Ua ?_;refine Dk 0 (DL Jbi rfl rfl (Xx (nth a.lks.l a_) (nth b.lks.l a_))) ?_;refine Dd (Qc (Cn ?_ ?_))<;>intro hc3
  ·refine Nz 1 ?_;exact Wd (Qc (Cr (Qs (Qr (Qr (Qs (Qr (out1 rfl rfl (Af (by rw[CO (fun h=>hc3 (by rw[(OD h).2.1]))]))))))))))
  refine Ck (Qb (Qc (Ny 1 ?_)));refine Wk 1 Za ?_;refine Wd ?_
  exact QS.head (a_+1) rfl rfl ⟨⟨by omega,by omega,fun j h0 h1=>by
     rcases(show j<a_\/j=a_ by omega)with h|h
     ·exact ha_3 j h0 h
     rw[h];exact hc3⟩,by omega⟩
 refine Cv (Qe (Qe (Qx (Qc (Cs (Nz 1 ?_))))));refine Nu ?_;refine CS.loopM (σ:=Int) (rsL [4,4,66,84]) (fun s=>[(6,.int .i64 s)]) (fun _=>_) (fun s=>0<=s/\s<=a.cds.l.length/\∀j:Int,0<=j->j<s->(nth a.cds.l j).l=(nth b.cds.l j).l) (fun s=>(a.cds.l.length-s).toNat) 0 (fun _ _=>rfl) rfl rfl ⟨by omega,by omega,fun j _ _=>by omega⟩ ?_;intro b_ t hs;obtain⟨hb_1,hb_2,hb_3⟩:=hs;refine Cs (Nz 2 ?_);refine Wk 0 (Ba 1) ?_;refine Wk 1 Nc ?_;refine Wp ?_ ?_<;>intro hc4
 ·have ac:SlI w (nth a.cds.l b_).v (nth a.cds.l b_).l:=(acds.at hb_1 (by omega):SlT cInt w _).ints;have bc:SlI w (nth b.cds.l b_).v (nth b.cds.l b_).l:=(bcds.at hb_1 (by omega):SlT cInt w _).ints;refine Ck (Qc (Cs (Ce (Cs (Dr mixed 1 ?_)))));refine Dk 1 (Ba 1) ?_;refine Dk 0 Xc ?_;refine Dk 1 Ub ?_;refine Dk 1 (Ba 0) ?_;refine Dk 0 Xc ?_;refine Dk 0 Ub ?_;refine Dk 1 (Cb rfl rfl S7 (fun u hu=>DK _ _ _ _ u (ac.st hu) (bc.st hu))) ?_;refine Dd (Qc (Cn ?_ ?_))<;>intro hc5
  ·refine Nz 1 ?_;exact Wd (Qc (Cr (Qs (Qr (Qr (Qs (Qr (out1 rfl rfl (Af (by rw[CO (fun h=>hc5 (XX (OD h).2.2.1 b_))]))))))))))
  refine Ck (Qb (Qc (Ny 1 ?_)));refine Wk 1 Za ?_;refine Wd ?_
  exact QS.head (b_+1) rfl rfl ⟨⟨by omega,by omega,fun j h0 h1=>by
     rcases(show j<b_\/j=b_ by omega)with h|h
     ·exact hb_3 j h0 h
     rw[h];exact hc5⟩,by omega⟩
 refine Cv (Qe (Qe (Qx (Qc (Cs (Nz 1 ?_))))));refine Nu ?_;refine CS.loopM (σ:=Int) (rsL [4,4,85,103]) (fun s=>[(7,.int .i64 s)]) (fun _=>_) (fun s=>0<=s/\s<=a.nts.l.length/\∀j:Int,0<=j->j<s->(nth a.nts.l j).p=(nth b.nts.l j).p) (fun s=>(a.nts.l.length-s).toNat) 0 (fun _ _=>rfl) rfl rfl ⟨by omega,by omega,fun j _ _=>by omega⟩ ?_;intro d t hs;obtain⟨hd1,hd2,hd3⟩:=hs;refine Cs (Nz 2 ?_);refine Wk 0 (Ba 1) ?_;refine Wk 1 Nc ?_;refine Wp ?_ ?_<;>intro hc6
 ·have an:cNote.ok w (nth a.nts.l d):=ants.at hd1 (by omega);have bn:cNote.ok w (nth b.nts.l d):=bnts.at hd1 (by omega);refine Ck (Qc (Cs (Ce (Cs (Dr mixed 1 ?_)))));refine Dk 1 (Ba 1) ?_;refine Dk 0 Xc ?_;refine Dk 1 Ua ?_;refine Dk 1 (Ba 0) ?_;refine Dk 0 Xc ?_;refine Dk 0 Ua ?_;refine Dk 1 (Cb rfl rfl Jht (fun u hu=>QG (nth a.nts.l d) (nth b.nts.l d) u (cNote.ext _ _ _ an hu.below) (cNote.ext _ _ _ bn hu.below))) ?_;refine Dd (Qc (Cn ?_ ?_))<;>intro hc7
  ·refine Nz 1 ?_;exact Wd (Qc (Cr (Qs (Qr (Qr (Qs (Qr (out1 rfl rfl (Af (by rw[CO (fun h=>by rw[DB (XX (OD h).2.2.2.1 d)]at hc7;cases hc7)]))))))))))
  refine Ck (Qb (Qc (Ny 1 ?_)));refine Wk 1 Za ?_;refine Wd ?_
  exact QS.head (d+1) rfl rfl ⟨⟨by omega,by omega,fun j h0 h1=>by
     rcases(show j<d\/j=d by omega)with h|h
     ·exact hd3 j h0 h
     rw[h];exact Cq.1 hc7⟩,by omega⟩
 refine Cv (Qe (Qe (Qx (Qc (Nz 1 ?_)))));exact Wd (Qc (Cr (out1 rfl rfl (Af (by rw[DB (Je9 hrm (JE hc2 (by omega) ha_3) (CC Sl.l hc4 (by omega) hb_3) (CC NoteD.p hc6 (by omega) hd3) (by omega))])))))
end Go.Proofs.YtllebkdchemabaaGreatDoor
