/- Merged texts of this proof (walks and plain laws), printed by a program of the prover. -/
import Derived.Test.YtkekjhcmephhjaaGreatDoorZo
import Derived.Test.YtkekjhcmephhjaaGreatDoorZb
set_option maxHeartbeats 8000000
namespace Go.Proofs.YtkekjhcmephhjaaGreatDoor
open Go.RowKit Go.Proofs
set_option maxRecDepth 100000
set_option linter.unusedVariables false
set_option linter.unusedSimpArgs false
theorem Jsb (w:World):Calls Tryz.prog 14 #[] w (Jxf w exR):=by
 refine enter Tryz.func14 rfl rfl (Nat.le_of_ble_eq_true rfl) ?_
 refine Nz 0 ?_
 refine Wl 0 zv32 (fun _=>rfl) (fun _=>rfl) fun b0 hb0=>?_
 refine Wd (Qc (Nz 0 ?_))
 refine WS.buildSlice1 sl23 zv9 (vs:=[.string Jtf,.string Jk9]) rfl rfl (by decide) (by simp [Value.oneCell']) (fun _=>rfl) ?_; intro v1; refine WS.oc (j:=0) rfl (fun hv1=>?_)
 refine Wk 0 (Db Jyu zv65) ?_
 refine Wk 0 (Db Jyu zv65) ?_
 refine WS.buildSliceK sl24 zv65 (rows:=[[.string tBox,.int .i64 0,.int .i64 2,.int .i64 0],[.string Ju8,.int .i64 0,.int .i64 2,.int .i64 0]]) rfl rfl (by decide) (by decide) (by simp [Value.oneCell']) (fun _=>rfl) ?_; intro v4; refine WS.oc (j:=0) rfl (fun hv4=>?_)
 refine Wk 0 (Db Jsx zv96) ?_
 refine WS.buildT1 cLit (a:=⟨0,1,false⟩) sl30 zv96 rfl (by decide) (fun _=>rfl) ?_; intro v6; refine WS.oc (j:=0) rfl (fun hv6=>?_)
 refine Wk 0 (Db J1x zv67) ?_
 refine WS.buildT1 cPro (a:=⟨tKey,0,⟨v6,[⟨0,1,false⟩]⟩⟩) sl25 zv67 rfl (by decide) (fun _=>rfl) ?_; intro v8; refine WS.oc (j:=0) rfl (fun hv8=>?_)
 refine Wk 0 (Db Jsx zv96) ?_
 refine WS.buildT1 cLit (a:=⟨1,1,false⟩) sl30 zv96 rfl (by decide) (fun _=>rfl) ?_; intro v10; refine WS.oc (j:=0) rfl (fun hv10=>?_)
 refine Wk 0 (Db J04 zv69) ?_
 refine WS.buildT1 cWay (a:=⟨0,1,⟨v10,[⟨1,1,false⟩]⟩⟩) sl26 zv69 rfl (by decide) (fun _=>rfl) ?_; intro v12; refine WS.oc (j:=0) rfl (fun hv12=>?_)
 refine Wk 0 (Db Jyw zv75) ?_
 refine WS.buildT1 cPut (a:=⟨0,1⟩) sl71 zv75 rfl (by decide) (fun _=>rfl) ?_; intro v14; refine WS.oc (j:=0) rfl (fun hv14=>?_)
 refine Wk 0 (Db Jz9 zv73) ?_
 refine WS.buildI1 sl43 zv3 rfl (fun _=>rfl) ?_; intro v16; refine WS.oc (j:=0) rfl (fun hv16=>?_)
 refine Wk 0 (Db Jyw zv75) ?_
 refine WS.buildT1 cPut (a:=⟨1,1⟩) sl71 zv75 rfl (by decide) (fun _=>rfl) ?_; intro v18; refine WS.oc (j:=0) rfl (fun hv18=>?_)
 refine WS.buildI1 sl43 zv3 rfl (fun _=>rfl) ?_; intro v19; refine WS.oc (j:=0) rfl (fun hv19=>?_)
 refine Wk 0 (Db Jz9 zv73) ?_
 refine WS.buildSliceK sl27 zv73 (rows:=[cAct.cells ⟨Jmx,0,0,nil0,nil0,⟨v14,[⟨0,1⟩]⟩,nil0,nil0⟩,cAct.cells ⟨Jm2,0, -1,⟨v16,[0]⟩,nil0,⟨v18,[⟨1,1⟩]⟩,⟨v19,[0]⟩,nil0⟩]) rfl rfl (by decide) (by decide) (by simp [cAct]) (fun _=>rfl) ?_; intro v21; refine WS.oc (j:=0) rfl (fun hv21=>?_)
 refine Wk 0 (Db Jp7 zv32) ?_
 refine Wv 0 11 ?_
 exact Wd (Qc (Cr (outR (resc rfl (Jbl (j:=11) rfl rfl tk32)) (fun u hu=>(fun h2:RetF w _ (roS fun u=>RoomOk u ⟨⟨v1,exR.pls.l⟩,⟨v4,exR.ths.l⟩,⟨v8,[⟨tKey,0,⟨v6,[⟨0,1,false⟩]⟩⟩]⟩,⟨v12,[⟨0,1,⟨v10,[⟨1,1,false⟩]⟩⟩]⟩,⟨v21,[⟨Jmx,0,0,nil0,nil0,⟨v14,[⟨0,1⟩]⟩,nil0,nil0⟩,⟨Jm2,0, -1,⟨v16,[0]⟩,nil0,⟨v18,[⟨1,1⟩]⟩,⟨v19,[0]⟩,nil0⟩]⟩,nil0,1,nil0⟩) _ u=>(⟨⟨⟨v1,exR.pls.l⟩,⟨v4,exR.ths.l⟩,⟨v8,[⟨tKey,0,⟨v6,[⟨0,1,false⟩]⟩⟩]⟩,⟨v12,[⟨0,1,⟨v10,[⟨1,1,false⟩]⟩⟩]⟩,⟨v21,[⟨Jmx,0,0,nil0,nil0,⟨v14,[⟨0,1⟩]⟩,nil0,nil0⟩,⟨Jm2,0, -1,⟨v16,[0]⟩,nil0,⟨v18,[⟨1,1⟩]⟩,⟨v19,[0]⟩,nil0⟩]⟩,nil0,1,nil0⟩,⟨rfl,u,h2.now⟩,h2⟩:Jxf w exR _ u)) (retR (fun S u h=>⟨⟨Star.osl (j:=10) rfl h,fun _ _=>trivial⟩,⟨Star.osl (j:=9) rfl h,fun _ _=>trivial⟩,⟨Star.osl (j:=7) rfl h,List.forall_mem_cons.2 ⟨⟨Star.osl (j:=8) rfl h,fun _ _=>trivial⟩,fun _ h=>absurd h List.not_mem_nil⟩⟩,⟨Star.osl (j:=5) rfl h,List.forall_mem_cons.2 ⟨⟨Star.osl (j:=6) rfl h,fun _ _=>trivial⟩,fun _ h=>absurd h List.not_mem_nil⟩⟩,⟨Star.osl (j:=0) rfl h,List.forall_mem_cons.2 ⟨⟨SlT.nil _ _,SlT.nil _ _,⟨Star.osl (j:=4) rfl h,fun _ _=>trivial⟩,SlT.nil _ _,SlT.nil _ _⟩,List.forall_mem_cons.2 ⟨⟨SlI.tree (Star.oints (j:=3) rfl h),SlT.nil _ _,⟨Star.osl (j:=2) rfl h,fun _ _=>trivial⟩,SlI.tree (Star.oints (j:=1) rfl h),SlT.nil _ _⟩,fun _ h=>absurd h List.not_mem_nil⟩⟩⟩,SlT.nil _ _,SlT.nil _ _⟩) u hu)))))
theorem Jmv (w:World) (g:Sl ByteArray) (hG:GOk w g):Calls Tryz.prog 5 #[] w (RetB w (.bool true)):=by
 refine enter Tryz.func5 rfl rfl (Nat.le_of_ble_eq_true rfl) ?_
 refine Nz 1 ?_
 refine Wd (Qc (Nz 0 ?_))
 refine Wc rfl rfl J4o (fun u hu=>Jsb u) (fun _=>rfl) ?_; rintro c ⟨hce,uc,hcok⟩
 have hA:=Jeq hce
 have hnc:=Jya hce J25
 have o1:=Sl.one hcok.pls
 have o2:=Sl.one hcok.ths
 have o3:=Sl.one hcok.prs
 have o4:=Sl.one hcok.wys
 have o5:=Sl.one hcok.acs
 have o6:=Sl.one hcok.aus
 have o7:=Sl.one hcok.gl
 refine Wl 0 zv32 (fun _=>rfl) (fun _=>rfl) fun b1 hb1=>?_
 refine Wv 0 0 ?_
 refine Wd (Qc (Nz 0 ?_))
 refine Wk 0 (Bb 0) ?_
 refine Wc rfl rfl J4d (fun u hu=>(by have q:=Jxj c u (hu.ro (j:=1) rfl) g (hG.st hu) hnc; rw [hA.BeginV,Jzn] at q; exact q)) (fun _=>rfl) ?_; rintro y ⟨hyx,uy,hyok⟩
 obtain ⟨hya,hyb,hyc⟩:=hyok.ones
 refine Wz 3 ?_
 refine Wl 0 zv45 (fun _=>rfl) (fun _=>rfl) fun b2 hb2=>?_
 refine Wv 1 0 ?_
 refine Wd (Qc (Nz 0 ?_))
 refine Wk 0 (Bb 2) ?_
 refine Wk 0 (Bb 0) ?_
 refine Wk 0 (Db J05 zv50) ?_
 refine Wc rfl rfl J3m (fun u hu=>(by have q:=J0f c u (hu.ro (j:=3) rfl) g (hG.st hu) hnc y (hu.ro (j:=1) rfl) ⟨0,4,0⟩; rw [hA.StepV,hyx,J27] at q; exact q)) (fun _=>rfl) ?_; rintro x ⟨hxx,ux,hxok⟩
 obtain ⟨hxa,hxb,hxc⟩:=hxok.ones
 refine Wz 3 ?_
 refine Wl 0 zv45 (fun _=>rfl) (fun _=>rfl) fun b4 hb4=>?_
 refine Wv 1 0 ?_
 refine Wd (Qc (Nz 0 ?_))
 refine Wk 0 (Bb 4) ?_
 refine Wk 0 (Bb 0) ?_
 refine Wc rfl rfl J31 (fun u hu=>(by have q:=Jvz c u (hu.ro (j:=5) rfl) g (hG.st hu) hnc x (hu.ro (j:=1) rfl); rw [hA.LegalV,hxx,Jzu] at q; exact q)) (fun _=>rfl) ?_; rintro l ⟨ul,hl⟩
 refine Wz 5 ?_
 refine Wd (Qc (Nz 3 ?_))
 refine Wt 0 rfl rfl (fun hg=>Fm) ?_
 refine Wt 0 rfl rfl (fun hg=>Fq) ?_
 refine Wk 1 Pa ?_
 refine Wt 0 rfl rfl (fun hg=>Fm) ?_
 refine Wt 0 rfl rfl (fun hg=>Fq) ?_
 refine Wk 1 Pa ?_
 refine Wt 0 rfl rfl (fun hg=>Fm) ?_
 refine Wt 0 rfl rfl (fun hg=>Nc (eg_ hg rfl)) ?_
 refine Wt 0 rfl rfl (fun hg=>Fq) ?_
 refine Wk 1 Pa ?_
 refine Wt 0 rfl rfl (fun hg=>Fm) ?_
 refine Wt 0 rfl rfl (fun hg=>Jkp (s:=(⟨l,[(⟨0,2,0⟩:Move),⟨0,4,0⟩]⟩:Sl Move)) sl51 (eg_ hg rfl) rfl hl rfl (by decide) (by simp)) ?_
 refine Wt 0 rfl rfl (fun hg=>Ff) ?_
 refine Wt 0 rfl rfl (fun hg=>Jws (C:=cMove) (s:=(⟨l,[(⟨0,2,0⟩:Move),⟨0,4,0⟩]⟩:Sl Move)) (i:=0) (jj:=0) 3 1 rfl (eg_ hg rfl) rfl ⟨by decide,by simp⟩ (by decide) rfl tk3) ?_
 refine Wt 0 rfl rfl (fun hg=>Fq) ?_
 refine Wk 1 Pa ?_
 exact Wd (Qc (Cr (out1 rfl rfl (Jah (by simp; rfl)))))
end Go.Proofs.YtkekjhcmephhjaaGreatDoor
