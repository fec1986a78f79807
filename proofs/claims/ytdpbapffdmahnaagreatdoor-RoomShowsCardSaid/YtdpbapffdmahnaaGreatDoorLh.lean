/- Contracts of functions, printed by a program of the prover (gen.py). -/
import Derived.Test.YtdpbapffdmahnaaGreatDoorZz
import Derived.Test.YtdpbapffdmahnaaGreatDoorZn
set_option maxHeartbeats 8000000
namespace Go.Proofs.YtdpbapffdmahnaaGreatDoor
open Go.RowKit Go.Proofs
set_option maxRecDepth 100000
set_option linter.unusedVariables false
set_option linter.unusedSimpArgs false
theorem Alike.ShowV {c r:Room} (h:Alike c r) (x:P3):ShowV c x=ShowV r x:=by
 have e1:pcT c x=pcT r x:=by funext i; unfold pcT; rw [h.ths]
 have e2:pcP c x=pcP r x:=by
  funext i
  have:=(h.pr i).1
  unfold pcP whP; rw [h.pls,this]
 have e3:pcL c x=pcL r x:=by funext i; unfold pcL; rw [h.pls]
 have e4:pcs c x=pcs r x:=by unfold pcs; rw [e1,e2,e3,h.ths,h.lprs]
 unfold Go.Proofs.YtdpbapffdmahnaaGreatDoor.ShowV; rw [h.stL,e4]
theorem Jf2 (r:Room) (w:World) (hr:RoomOk w r) (g:Sl ByteArray) (hG:GOk w g) (z:Stt) (hz:SttOk w z) :
  Calls Tryz.prog 3 #[.agg #[r.pls.v,r.ths.v,r.prs.v,r.wys.v,r.acs.v,r.aus.v,.int .i64 r.ply,r.gl.v],.agg #[z.ths.v,z.prs.v,z.pls.v]] w (RetB w (.bool true)):=by
 refine enter Tryz.func3 rfl rfl (Nat.le_of_ble_eq_true rfl) ?_
 refine Nz 0 ?_
 refine Wb 0 rfl rfl (fun _=>rfl) (fun _=>rfl) fun b2 hb2=>?_
 refine Wb 1 rfl rfl (fun _=>rfl) (fun _=>rfl) fun b3 hb3=>?_
 refine Wd (Qc (Cs (Nz 0 ?_)))
 refine Wk 0 (by first | exact Ja3 (j:=1) rfl rfl tk31 | exact Jat (j:=1) rfl rfl (by rfl) tk31 | exact Ja2 rfl (by assumption) (by rfl) tk31 | exact Ja1 (n:=8) (j:=1) rfl rfl rfl rfl tk31) ?_
 refine Wk 1 (Cb rfl rfl ent6 (fun u hu=>Jpn r u (hr.st hu))) ?_
 refine Wf 0 rfl rfl (fun hg=>by first | exact Ja3 (j:=0) rfl rfl tk34 | exact Jat (j:=0) rfl rfl (by rfl) tk34 | exact Ja2 rfl (by assumption) (by rfl) tk34 | exact Ja1 (n:=3) (j:=0) rfl rfl rfl rfl tk34) ?_
 refine Wf 0 rfl rfl (fun hg=>Cb rfl (ec_ (eg_ hg rfl) en_) ent7 (fun u hu=>Jnw z u (hz.st hu))) ?_
 refine Wk 0 Po ?_
 refine Wd (Qc (CS.cond rfl ?_ ?_))<;>intro hc1<;>try simp only [bq] at hc1
 ·
  refine Nz 0 ?_
  refine Wk 1 (Cb rfl rfl ent8 (fun u hu=>Jim u g (hG.st hu))) ?_
  exact Wd (Qc (Cr (Qr (out1 rfl rfl retB))))
 have hn:Near r:=Jf6.1 hc1.1
 have hsm:z.ths.l.length≤1000000∧z.prs.l.length≤1000000∧z.pls.l.length≤1000000:=by have:=hc1.2; omega
 refine Ck (Qc (Cs ?_))
 refine CS.drawnAll (k:=10) mixed rfl rfl ?_
 refine Ak 0 [] rfl (by first | exact Ja3 (j:=1) rfl rfl tk31 | exact Jat (j:=1) rfl rfl (by rfl) tk31 | exact Ja2 rfl (by assumption) (by rfl) tk31 | exact Ja1 (n:=8) (j:=1) rfl rfl rfl rfl tk31) ?_
 refine Ak 2 [] rfl (by first | exact Ja3 (j:=0) rfl rfl tk34 | exact Jat (j:=0) rfl rfl (by rfl) tk34 | exact Ja2 rfl (by assumption) (by rfl) tk34 | exact Ja1 (n:=3) (j:=0) rfl rfl rfl rfl tk34) ?_
 refine Ao 1 rfl ?_
 refine Wc rfl rfl Jp3 (fun u hu=>Jog r u (hr.st hu) hn) (fun _=>rfl) ?_; rintro c ⟨hce,uc,hcok⟩
 have hA:=Jlo hce
 have hnc:=Jmg hce hn
 have o1:=Sl.one hcok.pls
 have o2:=Sl.one hcok.ths
 have o3:=Sl.one hcok.prs
 have o4:=Sl.one hcok.wys
 have o5:=Sl.one hcok.acs
 have o6:=Sl.one hcok.aus
 have o7:=Sl.one hcok.gl
 refine Wd (Qa ?_)
 refine Ao 3 rfl ?_
 refine Wc rfl rfl Jpw (fun u hu=>Jfu z u (hz.st hu) hsm) (fun _=>rfl) ?_; rintro y ⟨hyx,uy,hyok⟩
 obtain ⟨hya,hyb,hyc⟩:=hyok.ones
 refine Wd (Qa ?_)
 refine Ao 4 rfl ?_
 refine Wk 0 (Cb rfl rfl ent9 (fun u hu=>(by have q:=Jm6 c u (hu.ro (j:=1) rfl) g (hG.st hu) hnc y (hu.ro (j:=0) rfl); rw [hA.ShowV,hyx] at q; exact q))) ?_
 refine Wd (Qa ?_)
 refine Ar [5,6,7,8,9] ?_
 refine Ae ?_
 refine Qc (Nz 0 ?_)
 refine Wk 0 (by first | exact Ja3 (j:=3) rfl rfl tk31 | exact Jat (j:=3) rfl rfl (by rfl) tk31 | exact Ja2 rfl (by assumption) (by rfl) tk31 | exact Ja1 (n:=8) (j:=3) rfl rfl rfl rfl tk31) ?_
 refine Wk 0 (by first | exact Ja3 (j:=2) rfl rfl tk34 | exact Jat (j:=2) rfl rfl (by rfl) tk34 | exact Ja2 rfl (by assumption) (by rfl) tk34 | exact Ja1 (n:=3) (j:=2) rfl rfl rfl rfl tk34) ?_
 refine Wk 5 (Cb rfl rfl Jqh (fun u hu=>Jnl r u (hr.st hu) hn z (hz.st hu))) ?_
 refine Wd (Qc (Nz 2 ?_))
 refine Wk 1 (Jbf rfl rfl) ?_
 refine Wt 0 rfl rfl (fun hg=>Fm) ?_
 refine Wt 0 rfl rfl (fun hg=>Fm) ?_
 refine Wt 0 rfl rfl (fun hg=>Fq) ?_
 refine Wk 1 Pa ?_
 refine Wt 0 rfl rfl (fun hg=>Cb rfl rfl ent8 (fun u hu=>Jim u g (hG.st hu))) ?_
 refine Wk 1 Pa ?_
 exact Wd (Qc (Cr (out1 rfl rfl (Jaa (by simp [Jl6])))))
end Go.Proofs.YtdpbapffdmahnaaGreatDoor
