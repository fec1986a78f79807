/- Merged texts of this proof. -/
import Derived.Test.YtllebkdchemabaaGreatDoorZh4
import Derived.Test.YtllebkdchemabaaGreatDoorZh2
import Derived.Test.YtllebkdchemabaaGreatDoorZb
import Derived.Test.YtllebkdchemabaaGreatDoorZc
import Derived.Test.YtllebkdchemabaaGreatDoorZf2
set_option maxHeartbeats 8000000
namespace Go.Proofs.YtllebkdchemabaaGreatDoor
open Go.RowKit Go.Proofs Tryz
set_option maxRecDepth 100000
set_option linter.unusedVariables false
set_option linter.unusedSimpArgs false
theorem Ki (r:Room) (w:World) (hr:RoomOk w r) (g:Sl ByteArray) (hG:GOk w g) (hn:Near r) (z:Stt) (hz:SttOk w z) (m:Move):
  Calls prog 230 #[.agg (rcl r).toArray,.agg #[z.ths.v,z.prs.v,z.pls.v],.agg #[.int .i64 m.p,.int .i64 m.k,.int .i64 m.n]] w (RetS w (StepV r z.x m).2 fun v=>.tuple #[v,.int .i64 (StepV r z.x m).1]):=by
 refine En func230 ?_;refine Nz 0 ?_;refine Wr 0 fun b3 hb3=>?_;refine Wr 0 fun b4 hb4=>?_;refine Wr 0 fun b5 hb5=>?_;refine Wq 1 zv50 fun b6 hb6=>?_;refine Nv 0 ?_;refine Wk 0 (Bb 3) ?_;refine Wk 0 (Bb 2) ?_;refine Wk 1 (Cb rfl rfl Ou (fun u hu=>C2 r u (hr.st hu) g (hG.st hu) hn z (hz.st hu))) ?_;refine Nx 2 ?_;refine Wp ?_ ?_<;>intro hc1
 ·have hS:¬stL r z.x=0:=hc1;refine Nz 0 ?_;refine Wk 1 (Db I6 zv50) ?_;refine Wv 1 0 ?_;refine Wd (Qc (Cr (Qr ?_)))
  exact outR (Bv rfl (Ag (j:=0) rfl rfl tk50) rfl) (by
    have hv:StepV r z.x m=(stL r z.x,no3):=if_neg hS;rw[hv]
    exact fun u hu=>S5 (f:=fun v=>.tuple #[v,.int .i64 (stL r z.x)]) hu)
 have hc1:Hc r z=0:=hc1;have hc1:stL r z.x=0:=hc1;have hS:stL r z.x=0:=by omega
 obtain⟨hC,hI⟩:=E4.1 hS;have hR:=D0 hC;have hlen:=hR.lens;have hply:=hR.ply;have hlt:z.ths.l.length=r.ths.l.length:=hI.lt;have hlp:z.prs.l.length=r.prs.l.length:=hI.lp;have hll:(z.pls.l.length:Int)=r.ply:=hI.ll;refine Ck (Qc (Nz 0 ?_));refine Wk 0 (Bb 3) ?_;refine Wk 0 (Bb 2) ?_;refine Wc rfl rfl KY (fun u hu=>R7 r u (hr.st hu) z (hz.st hu) (hI.small hR)) (fun _=>rfl) ?_;rintro⟨tb,va,vb,vc⟩ ⟨hva,hvb,hvc⟩;refine WS.unpack ?_;refine Wz 1 ?_;refine Nv 1 ?_;refine Wk 0 (Bb 5) ?_;refine Wk 1 (Cb rfl rfl X3 (fun u hu=>OS tb r ⟨⟨va,z.ths.l⟩,⟨vb,z.prs.l⟩,⟨vc,z.pls.l⟩⟩ u ⟨AN hu (j:=0) rfl,hr.st hu,(AK hu (j:=1) rfl).tree,(AK hu (j:=2) rfl).tree,(AK hu (j:=3) rfl).tree⟩ hR hI m)) ?_;refine Wp ?_ ?_<;>intro hc2
 ·refine Nz 0 ?_;refine Wk 0 (Db I6 zv50) ?_;refine Wv 1 4 ?_;refine Wd (Qc (Cr (Qr ?_)))
  exact outR (Bv rfl (Ag (j:=4) rfl rfl tk50) rfl) (by
    have hv:StepV r z.x m=(29,no3):=(if_pos hS).trans (if_neg (by rw[show legalB r z.x m=false from hc2];decide));rw[hv]
    exact fun u hu=>S5 (f:=fun v=>.tuple #[v,.int .i64 (29)]) hu)
 refine Ck (Qc (Nz 1 ?_));refine Wk 0 (Bb 5) ?_;refine WS.callS rfl rfl Je3 (fun u hu=>Xv [] _ r hr hR tb va vb vc z.x hI m hc2 hu) (fun _=>rfl) ?_;rintro _ _;refine Wd (Qc (Cs ?_));rcases Bool.eq_false_or_eq_true ((settleN r.aus.l 101 (moveX r z.x m).1).isSome)with hb|hb
 ·refine Ny 1 ?_;refine WS.callS rfl rfl OY (fun u hu=>Ea [] _ r hr tb va vb vc hva hvb hvc (moveX r z.x m).1 (moveX r z.x m).2.1 (moveX r z.x m).2.2 (by rw[HX.1];exact hI.autos hR) hb hu) (fun _=>rfl) ?_;rintro o ⟨ho,hol⟩;refine Wz 2 ?_;refine Wv 1 4 ?_;refine Wd (Qc (Cr ?_))
  exact outR (Bv rfl (Ag (j:=4) rfl rfl tk50) rfl) (by
    have hv:StepV r z.x m=(0,(o,(moveX r z.x m).2.1,(moveX r z.x m).2.2)):=(if_pos hS).trans ((if_pos hc2).trans (by rw[KW (r:=r) (x:=moveX r z.x m) hb ho];rfl));rw[hv]
    exact fun u hu=>retS (f:=fun v=>.tuple #[v,.int .i64 0]) (is:=[1,1,1]) rfl hu)
 refine Ny 1 ?_;refine WS.callS rfl rfl OY (fun u hu=>Ea [] _ r hr tb va vb vc hva hvb hvc (moveX r z.x m).1 (moveX r z.x m).2.1 (moveX r z.x m).2.2 (by rw[HX.1];exact hI.autos hR) hb hu) (fun _=>rfl) ?_;rintro o ⟨ho,hol⟩;refine Wz 2 ?_;refine Wv 1 4 ?_;refine Wd (Qc (Cr ?_))
 exact outR (Bv rfl (Ag (j:=4) rfl rfl tk50) rfl) (by
   have hv:StepV r z.x m=(27,no3):=(if_pos hS).trans ((if_pos hc2).trans (by rw[Ll (r:=r) (x:=moveX r z.x m) hb];rfl));rw[hv]
   exact fun u hu=>S5 (f:=fun v=>.tuple #[v,.int .i64 (27)]) hu)
theorem WI (r:Room) (w:World) (hr:RoomOk w r) (g:Sl ByteArray) (hG:GOk w g) (hn:Near r) (z:Stt) (hz:SttOk w z):
  Calls prog 69 #[.agg (rcl r).toArray,.agg #[z.ths.v,z.prs.v,z.pls.v]] w (RetM w (LegalV r z.x).2 fun v=>.tuple #[v,.int .i64 (LegalV r z.x).1]):=by
 refine Ri St.nil func69 rfl rfl (Nat.le_of_ble_eq_true rfl) ?_;refine Nz 0 ?_;refine Wr 0 fun b2 hb2=>?_;refine Wr 0 fun b3 hb3=>?_;refine Wq 1 zv58 fun b4 hb4=>?_;refine Nv 0 ?_;refine Wk 0 (Bb 2) ?_;refine Wk 0 (Bb 1) ?_;refine Wk 1 (Cb rfl rfl Ou (fun u hu=>C2 r u (hr.st hu) g (hG.st hu) hn z (hz.st hu))) ?_;refine Nx 2 ?_;refine Wp ?_ ?_<;>intro hc1
 ·have hS:¬stL r z.x=0:=hc1;refine Nz 1 ?_;refine Ws 1 0 ?_;refine Wd (Qc (Cr (Qr ?_)))
  exact outE (Or.inl rfl) (Bv rfl (JX (j:=0) rfl rfl rfl tk58) rfl) (by
    have hv:LegalV r z.x=(stL r z.x,[]):=if_neg hS;rw[hv]
    exact fun u hu=>Jco (f:=fun v=>.tuple #[v,.int .i64 (stL r z.x)]) hu)
 have hc1:Hc r z=0:=hc1;have hc1:stL r z.x=0:=hc1;have hS:stL r z.x=0:=by omega
 obtain⟨hC,hI⟩:=E4.1 hS;have hR:=D0 hC;have hlen:=hR.lens;have hply:=hR.ply;have hlt:z.ths.l.length=r.ths.l.length:=hI.lt;have hlp:z.prs.l.length=r.prs.l.length:=hI.lp;have hll:(z.pls.l.length:Int)=r.ply:=hI.ll;refine Ck (Qc (Nz 0 ?_));refine Wk 0 (Bb 2) ?_;refine Wk 0 (Bb 1) ?_;refine Wc rfl rfl KY (fun u hu=>R7 r u (hr.st hu) z (hz.st hu) (hI.small hR)) (fun _=>rfl) ?_;rintro⟨tb,va,vb,vc⟩ ⟨hva,hvb,hvc⟩;refine WS.unpack ?_;refine Wq 0 Jg9 fun b7 hb7=>?_;refine Ws 0 0 ?_;refine Nv 0 ?_;refine Wk 0 (Bb 7) ?_;refine Wc rfl rfl Jbd (fun u hu=>Y9 r u) (fun _=>rfl) ?_;intro bm _;refine Nu ?_;refine CS.sel [6,2,2,2,2,1,0] rfl ?_;refine CS.weak (L':=[exS fun q:Value=>star [blk b4 [q] 58,oT cMove 131 q ([])],blk tb [r.pls.v,r.ths.v,r.prs.v,r.wys.v,r.acs.v,r.aus.v,.int .i64 r.ply,r.gl.v,va,vb,vc] 281,oints 3 va (z.ths.l),oints 3 vb (z.prs.l),oints 3 vc (z.pls.l),blk b7 [.pointer (some ⟨tb,0,none⟩)] 207]++[blk bm (rcl r) 32]) (fun u hu=>St.exI (Value.slice none 0 0) (St.pack (L1:=[_,_]) ((hu.osl0 (e:=131) (size:=3)).sel [1,0,0,0,0,0,0,0] rfl))) ?_;refine CS.rangeB (V:=mvV) (cMove.cells) (fun _=>rfl) (fun _=>rfl) (fun x=>cMove.one w x trivial) MP rfl Qf (by decide) (A:=[blk bm (rcl r) 32]) rfl Jf8 (WG r w hr hR bm) (fun pre=>[exS fun q:Value=>star [blk b4 [q] 58,oT cMove 131 q (pre.filter (legalB r z.x))],blk tb [r.pls.v,r.ths.v,r.prs.v,r.wys.v,r.acs.v,r.aus.v,.int .i64 r.ply,r.gl.v,va,vb,vc] 281,oints 3 va (z.ths.l),oints 3 vb (z.prs.l),oints 3 vc (z.pls.l),blk b7 [.pointer (some ⟨tb,0,none⟩)] 207]) (fun kd pre=>match kd with|_=>[fact False]) (fun _=>rfl) (Nat.le_of_ble_eq_true rfl) (fun _ _=>rfl) (fun _=>Nat.le_of_ble_eq_true rfl) ?_ ?_ ?_
 ·intro lr pre x post v b8 F hall;have hal:=OQ hR r.ply.toNat;rw[hall]at hal;simp only[List.length_append,List.length_cons]at hal;have hfl:=List.length_filter_le (legalB r z.x) pre;refine CS.factE (j:=1) rfl (fun hv=>?_);subst hv;refine CS.sel [2,0,0,0,0,0,0,0,0] rfl ?_;refine CS.ex ?_;intro q;refine CS.unpack ?_;refine Ce (Nz 0 ?_);refine Wk 0 (Ba 8) ?_;refine Wk 0 (Bb 2) ?_;refine Wk 0 (Cb rfl rfl X3 (fun u hu=>OS tb r ⟨⟨va,z.ths.l⟩,⟨vb,z.prs.l⟩,⟨vc,z.pls.l⟩⟩ u ⟨AN hu (j:=4) rfl,hr.st hu,(AK hu (j:=5) rfl).tree,(AK hu (j:=6) rfl).tree,(AK hu (j:=7) rfl).tree⟩ hR hI x)) ?_;refine Wp ?_ ?_<;>intro hc2
  ·have hc2:legalB r z.x x=true:=hc2;refine Ny 0 ?_;refine Wk 0 (Ba 0) ?_;refine Wk 0 (Bb 2) ?_;refine WS.buildT1 cMove (a:=x) sl58 MP rfl (by decide) (fun _=>rfl) ?_;intro v26;refine WS.appendT1 (j:=2) (jz:=0) sl58 MP rfl (by decide) rfl rfl rfl rfl (w:=w) trivial (by omega) (by omega) (fun _=>rfl) (fun _=>rfl) ?_;intro v27 hv27;refine Ws 0 1 ?_;refine Wd (Qb ?_);refine QS.sel [1,1,2,2,2,2,2,2,2] rfl ?_
   exact fun u hu=>by
    change St _ _ (_::(_++[_])) u
    dsimp only;rw[List.filter_append,show[x].filter (legalB r z.x)=[x] by simp[hc2]];exact St.perm (St.exI (f:=fun q:Value=>star [blk b4 [q] 58,oT cMove 131 q (pre.filter (legalB r z.x)++[x])]) v27 (St.pack (L1:=[_,_]) hu)) (List.Perm.swap _ _ _)
  have hc2:legalB r z.x x=false:=hc2;refine Ck (Qb ?_);refine QS.sel [0,0,1,1,1,1,1,1,1] rfl ?_
  exact fun u hu=>by
   change St _ _ (_::(_++[_])) u
   dsimp only;rw[List.filter_append,show[x].filter (legalB r z.x)=[] by simp[hc2],List.append_nil];exact St.perm (St.exI (f:=fun q:Value=>star [blk b4 [q] 58,oT cMove 131 q (pre.filter (legalB r z.x))]) q (St.pack (L1:=[_,_]) hu)) (List.Perm.swap _ _ _)
 ·intro D;refine QS.sel [1,0] rfl ?_;refine QS.ex ?_;intro q;refine QS.unpack ?_;refine QS.oc (j:=1) rfl (fun hq=>?_);refine Qb (Qc (Nz 0 ?_));refine Wk 0 (Ba 0) ?_;refine Ws 1 0 ?_;refine Wd (Qc (Cr ?_))
  exact outM (j:=2) (Or.inl rfl) rfl (Bv rfl (JX (j:=0) rfl rfl rfl tk58) rfl) (by
    have hv:LegalV r z.x=(0,(allM r r.ply.toNat).filter (legalB r z.x)):=(if_pos hS).trans (by rw[H4 hR];rfl);rw[hv]
    exact fun u hu=>retM (f:=fun v=>.tuple #[v,.int .i64 0]) (j:=1) rfl hu)
 intro D kd pre x post hall;cases kd with
 |_=>exact fun u hu=>(hu.factE (j:=1) rfl).elim
end Go.Proofs.YtllebkdchemabaaGreatDoor
