/- Contracts of functions, printed by a program of the prover (gen.py). -/
import Derived.Test.YtkekjhcmephhjaaGreatDoorZt
import Derived.Test.YtkekjhcmephhjaaGreatDoorZu
import Derived.Test.YtkekjhcmephhjaaGreatDoorZi
import Derived.Test.YtkekjhcmephhjaaGreatDoorZp
set_option maxHeartbeats 8000000
namespace Go.Proofs.YtkekjhcmephhjaaGreatDoor
open Go.RowKit Go.Proofs
set_option maxRecDepth 100000
set_option linter.unusedVariables false
set_option linter.unusedSimpArgs false
theorem Alike.lits {c r:Room} (h:Alike c r) (l:List Lit):Jaq c l=Jaq r l:=by
 unfold Jaq litF
 rw [h.ths]
theorem Alike.names {c r:Room} (h:Alike c r) (l:List Int):Ja0 c l=Ja0 r l:=by
 unfold Ja0
 exact List.map_congr_left fun p _=>(h.pr p).1
theorem Jo3 {α β γ:Type} {e:α→γ} {f g:α→β} {a b:List α} (h:a.map e=b.map e) (hf:∀ x y,e x=e y→f x=g y):a.map f=b.map g:=by
 induction a generalizing b with
 | nil =>
  cases b with
  | nil=>rfl
  | cons y b=>cases h
 | cons x a ih =>
  cases b with
  | nil=>cases h
  | cons y b =>
   simp only [List.map_cons,List.cons.injEq] at h ⊢
   exact ⟨hf x y h.1,ih h.2⟩
theorem Alike.fmtL {c r:Room} (h:Alike c r) (hw:c.wys.l.map Way.e=r.wys.l.map Way.e):fmtL c=fmtL r:=by
 unfold Go.Proofs.YtkekjhcmephhjaaGreatDoor.fmtL Jiz
 rw [h.pls,h.ths,h.ply,h.gl,h.lits,
  show Jc9 c=Jc9 r from by funext x; unfold Jc9; rw [h.pls],
  Jo3 (f:=Jfm c) (g:=Jfm r) h.prs fun x y e=>by
   have e1:=congrArg Pro.nm e
   have e2:=congrArg Pro.pl e
   have e3:=Je0 (congrArg Pro.wh e)
   simp only [Pro.e] at e1 e2
   unfold Jfm Jde
   rw [e1,e2,e3,h.lits,h.pls],
  Jo3 (f:=wayF c) (g:=wayF r) hw fun x y e=>by
   have e1:=congrArg Way.a e
   have e2:=congrArg Way.b e
   have e3:=Je0 (congrArg Way.wh e)
   simp only [Way.e] at e1 e2
   unfold wayF
   rw [e1,e2,e3,h.lits,h.pls],
  Jo3 (f:=actF c) (g:=actF r) h.acs fun x y e=>by
   have q:=Je1 e
   unfold actF
   rw [q.nm,q.pl,q.lk,q.us,q.wh,q.se,q.sp,q.br,h.lits,h.lits,h.names,h.names,h.names,h.pls],
  Jo3 (f:=Jen c) (g:=Jen r) h.aus fun x y e=>by
   have e1:=congrArg Auto.t e
   have e2:=congrArg Auto.s e
   have e3:=Je0 (congrArg Auto.wh e)
   simp only [Auto.e] at e1 e2
   unfold Jen
   rw [e1,e2,e3,h.lits,h.lits]]
theorem Jzl {c r:Room} (h:c.e=r.e):Jbi c=Jbi r:=by
 have hA:=Jeq h
 unfold Jbi
 rw [hA.checkE,hA.fmtL (Jea (congrArg Room.wys h))]
theorem Jwz {r:Room} (h:(Jbi r).2=0):(Jbi r).1.size≤40000∧(Ji5 (Jbi r).1).1.e=r.e∧(Ji5 (Jbi r).1).2=(0,0):=by
 by_cases hE:checkE r=0
 ·
  rw [show Jbi r=(Jbc (fmtL r),0) from if_pos hE,Jkz hE]
  exact ⟨(Jo6 (Jd0 hE)).1,Jr5 r,rfl⟩
 rw [show Jbi r=(⟨#[]⟩,checkE r) from if_neg hE] at h
 exact (hE h).elim
theorem Jk5 (r z:Room) (w:World) (hr:RoomOk w r) (hz:RoomOk w z) (g:Sl ByteArray) (hG:GOk w g) (gk:Sl ByteArray) (hK:KOk w gk) (hM:MaxOk w) :
  Calls Tryz.prog 4 #[.agg #[r.pls.v,r.ths.v,r.prs.v,r.wys.v,r.acs.v,r.aus.v,.int .i64 r.ply,r.gl.v],.agg #[z.pls.v,z.ths.v,z.prs.v,z.wys.v,z.acs.v,z.aus.v,.int .i64 z.ply,z.gl.v]] w (RetB w (.bool true)):=by
 obtain ⟨F,hF⟩:∃ F,F=Jbi r:=⟨_,rfl⟩
 obtain ⟨V,hVe⟩:∃ V,V=Ji5 F.1:=⟨_,rfl⟩
 refine enter Tryz.func4 rfl rfl (Nat.le_of_ble_eq_true rfl) ?_
 refine Nz 0 ?_
 refine Wb 0 rfl rfl (fun _=>rfl) (fun _=>rfl) fun b2 hb2=>?_
 refine Wb 1 rfl rfl (fun _=>rfl) (fun _=>rfl) fun b3 hb3=>?_
 refine Wd (Qc (Cs (Nz 0 ?_)))
 refine Wk 0 (by first | exact Jad (j:=1) rfl rfl tk32 | exact Jae (j:=1) rfl rfl (by rfl) tk32 | exact Jai rfl (by assumption) (by rfl) tk32 | exact Jaf (n:=8) (j:=1) rfl rfl rfl rfl tk32) ?_
 refine Wk 1 (Cb rfl rfl ent9 (fun u hu=>J11 r u (hr.st hu))) ?_
 refine Wf 0 rfl rfl (fun hg=>by first | exact Jad (j:=0) rfl rfl tk32 | exact Jae (j:=0) rfl rfl (by rfl) tk32 | exact Jai rfl (by assumption) (by rfl) tk32 | exact Jaf (n:=8) (j:=0) rfl rfl rfl rfl tk32) ?_
 refine Wf 0 rfl rfl (fun hg=>Cb rfl (ec_ (eg_ hg rfl) en_) ent9 (fun u hu=>J11 z u (hz.st hu))) ?_
 refine Wk 0 Po ?_
 refine Wd (Qc (CS.cond rfl ?_ ?_))<;>intro hc1<;>try simp only [bq] at hc1
 ·
  refine Nz 0 ?_
  refine Wk 1 (Cb rfl rfl ent5 (fun u hu=>Jmv u g (hG.st hu))) ?_
  exact Wd (Qc (Cr (Qr (out1 rfl rfl retB))))
 have hn:Near r:=Jbv.1 hc1.1
 have hnz:Near z:=Jbv.1 hc1.2
 refine Ck (Qc (Nz 0 ?_))
 refine Wk 0 (by first | exact Jad (j:=1) rfl rfl tk32 | exact Jae (j:=1) rfl rfl (by rfl) tk32 | exact Jai rfl (by assumption) (by rfl) tk32 | exact Jaf (n:=8) (j:=1) rfl rfl rfl rfl tk32) ?_
 refine Wc rfl rfl Juh (fun u hu=>Jly r u (hr.st hu) hn) (fun _=>rfl) ?_; rintro c ⟨ce,uc,cok⟩
 have co0:=Sl.one cok.pls
 have co1:=Sl.one cok.ths
 have co2:=Sl.one cok.prs
 have co3:=Sl.one cok.wys
 have co4:=Sl.one cok.acs
 have co5:=Sl.one cok.aus
 have co6:=Sl.one cok.gl
 refine Wk 5 (Cb rfl rfl J4m (fun u hu=>(by have q:=Jxg c u (hu.ro (j:=0) rfl) (Jya ce hn) g (hG.st hu); rw [Jzl ce, ← hF] at q; exact q))) ?_
 refine Wd (Qc (Nz 0 ?_))
 refine Wk 0 (by first | exact Jad (j:=2) rfl rfl tk32 | exact Jae (j:=2) rfl rfl (by rfl) tk32 | exact Jai rfl (by assumption) (by rfl) tk32 | exact Jaf (n:=8) (j:=2) rfl rfl rfl rfl tk32) ?_
 refine Wk 5 (Cb rfl rfl J3l (fun u hu=>(by have q:=Jrt r u (hr.st hu) hn; rw [← hF] at q; exact q))) ?_
 refine Wd (Qc (Cs (Cs ?_)))
 refine CS.drawnAll (k:=27) mixed rfl rfl ?_
 refine Ar [0,1] ?_
 refine Ak 2 [] rfl (Jcm rfl rfl) ?_
 refine Ak 3 [] rfl (Jbg (v:=.bool false) (congrArg (fun b=>some (Value.bool b)) (by rw [Jcy]; rfl))) ?_
 refine Af 4 [] rfl rfl rfl (fun hg=>Fm) ?_
 refine Af 5 [] rfl rfl rfl (fun hg=>Fm) ?_
 refine Af 6 [] rfl rfl rfl (fun hg=>Fr) ?_
 refine Ak 7 [] rfl Po ?_
 refine Ak 8 [] rfl (Jbg (v:=.bool false) (congrArg (fun b=>some (Value.bool b)) (by simp))) ?_
 refine Af 9 [] rfl rfl rfl (fun hg=>by first | exact Jad (j:=2) rfl rfl tk32 | exact Jae (j:=2) rfl rfl (by rfl) tk32 | exact Jai rfl (by assumption) (by rfl) tk32 | exact Jaf (n:=8) (j:=2) rfl rfl rfl rfl tk32) ?_
 refine Af 11 [] rfl rfl rfl (fun hg=>by first | exact Jad (j:=1) rfl rfl tk32 | exact Jae (j:=1) rfl rfl (by rfl) tk32 | exact Jai rfl (by assumption) (by rfl) tk32 | exact Jaf (n:=8) (j:=1) rfl rfl rfl rfl tk32) ?_
 refine Af 14 [] rfl rfl rfl (fun hg=>by first | exact Jad (j:=2) rfl rfl tk32 | exact Jae (j:=2) rfl rfl (by rfl) tk32 | exact Jai rfl (by assumption) (by rfl) tk32 | exact Jaf (n:=8) (j:=2) rfl rfl rfl rfl tk32) ?_
 refine Af 15 [] rfl rfl rfl (fun hg=>by first | exact Jad (j:=1) rfl rfl tk32 | exact Jae (j:=1) rfl rfl (by rfl) tk32 | exact Jai rfl (by assumption) (by rfl) tk32 | exact Jaf (n:=8) (j:=1) rfl rfl rfl rfl tk32) ?_
 refine Ao 10 rfl ?_
 refine WS.callFg rfl rfl rfl Juh (fun u hu=>Jly r u (hr.st hu) hn) (fun _=>rfl) ?_; rintro c1 ⟨c1e,uc1,c1ok⟩
 have c1o0:=Sl.one c1ok.pls
 have c1o1:=Sl.one c1ok.ths
 have c1o2:=Sl.one c1ok.prs
 have c1o3:=Sl.one c1ok.wys
 have c1o4:=Sl.one c1ok.acs
 have c1o5:=Sl.one c1ok.aus
 have c1o6:=Sl.one c1ok.gl
 refine Wd (Qa ?_)
 refine Ao 12 rfl ?_
 refine WS.callFg rfl rfl rfl Juh (fun u hu=>Jly z u (hz.st hu) hnz) (fun _=>rfl) ?_; rintro d1 ⟨d1e,ud1,d1ok⟩
 have d1o0:=Sl.one d1ok.pls
 have d1o1:=Sl.one d1ok.ths
 have d1o2:=Sl.one d1ok.prs
 have d1o3:=Sl.one d1ok.wys
 have d1o4:=Sl.one d1ok.acs
 have d1o5:=Sl.one d1ok.aus
 have d1o6:=Sl.one d1ok.gl
 refine Wd (Qa ?_)
 refine Ao 13 rfl ?_
 refine Wf 0 rfl rfl (fun hg=>Cb rfl rfl J3j (fun u hu=>Jyd c1 d1 u (hu.ro (j:=1) rfl) (hu.ro (j:=0) rfl))) ?_
 refine Wd (Qa ?_)
 refine Af 16 [] rfl rfl rfl (fun hg=>Cb rfl (ec_ (eg_ hg rfl) (ec_ (eg_ hg rfl) en_)) ent8 (fun u hu=>Jtl r z u (hr.st hu) (hz.st hu))) ?_
 refine Af 17 [] rfl rfl rfl (fun hg=>J0m (eg_ hg rfl) (eg_ hg rfl) Tryz.underlying4) ?_
 refine Ak 18 [] rfl Po ?_
 refine Ak 19 [] rfl (Jbg (v:=.bool false) (congrArg (fun b=>some (Value.bool b)) (by rw [c1e,d1e]; simp))) ?_
 refine Af 20 [] rfl rfl rfl (fun hg=>by first | exact Jad (j:=2) rfl rfl tk32 | exact Jae (j:=2) rfl rfl (by rfl) tk32 | exact Jai rfl (by assumption) (by rfl) tk32 | exact Jaf (n:=8) (j:=2) rfl rfl rfl rfl tk32) ?_
 refine Af 22 [] rfl rfl rfl (fun hg=>by first | exact Jad (j:=2) rfl rfl tk32 | exact Jae (j:=2) rfl rfl (by rfl) tk32 | exact Jai rfl (by assumption) (by rfl) tk32 | exact Jaf (n:=8) (j:=2) rfl rfl rfl rfl tk32) ?_
 refine Ao 21 rfl ?_
 refine WS.callFg rfl rfl rfl Juh (fun u hu=>Jly r u (hr.st hu) hn) (fun _=>rfl) ?_; rintro c2 ⟨c2e,uc2,c2ok⟩
 have c2o0:=Sl.one c2ok.pls
 have c2o1:=Sl.one c2ok.ths
 have c2o2:=Sl.one c2ok.prs
 have c2o3:=Sl.one c2ok.wys
 have c2o4:=Sl.one c2ok.acs
 have c2o5:=Sl.one c2ok.aus
 have c2o6:=Sl.one c2ok.gl
 refine Wd (Qa ?_)
 refine Ao 23 rfl ?_
 refine WS.callFg rfl rfl rfl Juh (fun u hu=>Jly r u (hr.st hu) hn) (fun _=>rfl) ?_; rintro d2 ⟨d2e,ud2,d2ok⟩
 have d2o0:=Sl.one d2ok.pls
 have d2o1:=Sl.one d2ok.ths
 have d2o2:=Sl.one d2ok.prs
 have d2o3:=Sl.one d2ok.wys
 have d2o4:=Sl.one d2ok.acs
 have d2o5:=Sl.one d2ok.aus
 have d2o6:=Sl.one d2ok.gl
 refine Wd (Qa ?_)
 refine Ao 24 rfl ?_
 refine Wf 0 rfl rfl (fun hg=>Cb rfl rfl J3j (fun u hu=>Jyd c2 d2 u (hu.ro (j:=1) rfl) (hu.ro (j:=0) rfl))) ?_
 refine Wd (Qa ?_)
 refine Af 25 [] rfl rfl rfl (fun hg=>Fn) ?_
 refine Ak 26 [] rfl Po ?_
 refine Ae ?_
 refine Qc (CS.cond rfl ?_ ?_)<;>intro hc2<;>try simp only [bq] at hc2
 ·
  exact absurd hc2 (by rw [c2e,d2e,Jbz rfl]; simp)
 refine Ck (Qc (Cs (Nz 2 ?_)))
 refine Wd (Qc (CS.cond rfl ?_ ?_))<;>intro hc3<;>try simp only [bq] at hc3
 ·
  refine Nz 0 ?_
  refine Wk 1 (Cb rfl rfl ent5 (fun u hu=>Jmv u g (hG.st hu))) ?_
  exact Wd (Qc (Cr (Qr (out1 rfl rfl retB))))
 have hV:F.1.size≤40000∧V.1.e=r.e∧V.2=(0,0):=by
  rw [hVe]
  subst hF
  exact Jwz hc3
 refine Ck (Qc (Nz 1 ?_))
 refine Wc rfl rfl ent6 (fun u hu=>(by have q:=Jyt F.1 u g (hG.st hu) gk (hK.st hu) (hM.st hu) hV.1; rw [← hVe] at q; exact q)) (fun _=>rfl) ?_; rintro y ⟨hye,uy,hyok⟩
 have y0:=Sl.one hyok.pls
 have y1:=Sl.one hyok.ths
 have y2:=Sl.one hyok.prs
 have y3:=Sl.one hyok.wys
 have y4:=Sl.one hyok.acs
 have y5:=Sl.one hyok.aus
 have y6:=Sl.one hyok.gl
 refine Wz 4 ?_
 refine Wl 0 zv32 (fun _=>rfl) (fun _=>rfl) fun b9 hb9=>?_
 refine Wv 2 0 ?_
 refine Wd (Qc (Nz 3 ?_))
 refine Wt 0 rfl rfl (fun hg=>Fm) ?_
 refine Wt 0 rfl rfl (fun hg=>Fq) ?_
 refine Wk 1 Pa ?_
 refine Wt 0 rfl rfl (fun hg=>by first | exact Jad (j:=8) rfl rfl tk32 | exact Jae (j:=8) rfl rfl (by rfl) tk32 | exact Jai rfl (by assumption) (by rfl) tk32 | exact Jaf (n:=8) (j:=8) rfl rfl rfl rfl tk32) ?_
 refine Wt 0 rfl rfl (fun hg=>by first | exact Jad (j:=0) rfl rfl tk32 | exact Jae (j:=0) rfl rfl (by rfl) tk32 | exact Jai rfl (by assumption) (by rfl) tk32 | exact Jaf (n:=8) (j:=0) rfl rfl rfl rfl tk32) ?_
 refine Wt 0 rfl rfl (fun hg=>Cb rfl (ec_ (eg_ hg rfl) (ec_ (eg_ hg rfl) en_)) ent8 (fun u hu=>Jtl r y u (hr.st hu) (hu.ro (j:=1) rfl))) ?_
 refine Wk 1 Pa ?_
 refine Wt 0 rfl rfl (fun hg=>Cb rfl rfl ent5 (fun u hu=>Jmv u g (hG.st hu))) ?_
 refine Wk 1 Pa ?_
 exact Wd (Qc (Cr (out1 rfl rfl (Jah (by rw [show V.2.2=0 from congrArg Prod.snd hV.2.2,show V.2.1=0 from congrArg Prod.fst hV.2.2,show clB (r.e=y.e)=true from Jbv.2 (hV.2.1.symm.trans hye.symm)]; rfl)))))
end Go.Proofs.YtkekjhcmephhjaaGreatDoor
