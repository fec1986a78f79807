/- Merged texts of this proof (walks and plain laws), printed by a program of the prover. -/
import Derived.Test.YtfbfdnoodccgiaaGreatDoorZt
import Derived.Test.YtfbfdnoodccgiaaGreatDoorZb
set_option maxHeartbeats 8000000
namespace Go.Proofs.YtfbfdnoodccgiaaGreatDoor
open Go.RowKit Go.Proofs
set_option maxRecDepth 100000
set_option linter.unusedVariables false
set_option linter.unusedSimpArgs false
theorem Jsi (w:World):Calls Tryz.prog 33 #[] w (J2p w exR):=by
 refine enter Tryz.func33 rfl rfl (Nat.le_of_ble_eq_true rfl) ?_
 refine Nz 0 ?_
 refine Wl 0 zv43 (fun _=>rfl) (fun _=>rfl) fun b0 hb0=>?_
 refine Wd (Qc (Nz 0 ?_))
 refine WS.buildSlice1 sl34 zv9 (vs:=[.string Jud,.string Jkm]) rfl rfl (by decide) (by simp [Value.oneCell']) (fun _=>rfl) ?_; intro v1; refine WS.oc (j:=0) rfl (fun hv1=>?_)
 refine Wk 0 (Db Jyc Js2) ?_
 refine Wk 0 (Db Jyc Js2) ?_
 refine WS.buildSliceK sl35 Js2 (rows:=[[.string tBox,.int .i64 0,.int .i64 2,.int .i64 0],[.string Juw,.int .i64 0,.int .i64 2,.int .i64 0]]) rfl rfl (by decide) (by decide) (by simp [Value.oneCell']) (fun _=>rfl) ?_; intro v4; refine WS.oc (j:=0) rfl (fun hv4=>?_)
 refine Wk 0 (Db Jsy Jpi) ?_
 refine WS.buildT1 cLit (a:=⟨0,1,false⟩) sl41 Jpi rfl (by decide) (fun _=>rfl) ?_; intro v6; refine WS.oc (j:=0) rfl (fun hv6=>?_)
 refine Wk 0 (Db J3m Jvz) ?_
 refine WS.buildT1 cPro (a:=⟨tKey,0,⟨v6,[⟨0,1,false⟩]⟩⟩) sl36 Jvz rfl (by decide) (fun _=>rfl) ?_; intro v8; refine WS.oc (j:=0) rfl (fun hv8=>?_)
 refine Wk 0 (Db Jsy Jpi) ?_
 refine WS.buildT1 cLit (a:=⟨1,1,false⟩) sl41 Jpi rfl (by decide) (fun _=>rfl) ?_; intro v10; refine WS.oc (j:=0) rfl (fun hv10=>?_)
 refine Wk 0 (Db J1e Jt7) ?_
 refine WS.buildT1 cWay (a:=⟨0,1,⟨v10,[⟨1,1,false⟩]⟩⟩) sl37 Jt7 rfl (by decide) (fun _=>rfl) ?_; intro v12; refine WS.oc (j:=0) rfl (fun hv12=>?_)
 refine Wk 0 (Db Jyk Jpf) ?_
 refine WS.buildT1 cPut (a:=⟨0,1⟩) Jzi Jpf rfl (by decide) (fun _=>rfl) ?_; intro v14; refine WS.oc (j:=0) rfl (fun hv14=>?_)
 refine Wk 0 (Db Jx6 Jmn) ?_
 refine WS.buildI1 sl86 zv3 rfl (fun _=>rfl) ?_; intro v16; refine WS.oc (j:=0) rfl (fun hv16=>?_)
 refine Wk 0 (Db Jyk Jpf) ?_
 refine WS.buildT1 cPut (a:=⟨1,1⟩) Jzi Jpf rfl (by decide) (fun _=>rfl) ?_; intro v18; refine WS.oc (j:=0) rfl (fun hv18=>?_)
 refine WS.buildI1 sl86 zv3 rfl (fun _=>rfl) ?_; intro v19; refine WS.oc (j:=0) rfl (fun hv19=>?_)
 refine Wk 0 (Db Jx6 Jmn) ?_
 refine WS.buildSliceK sl38 Jmn (rows:=[cAct.cells ⟨Jl3,0,0,nil0,nil0,⟨v14,[⟨0,1⟩]⟩,nil0,nil0⟩,cAct.cells ⟨Jme,0, -1,⟨v16,[0]⟩,nil0,⟨v18,[⟨1,1⟩]⟩,⟨v19,[0]⟩,nil0⟩]) rfl rfl (by decide) (by decide) (by simp [cAct]) (fun _=>rfl) ?_; intro v21; refine WS.oc (j:=0) rfl (fun hv21=>?_)
 refine Wk 0 (Db J56 zv43) ?_
 refine Wv 0 11 ?_
 exact Wd (Qc (Cr (outR (resc rfl (Jar (j:=11) rfl rfl tk43)) (fun u hu=>(fun h2:RetF w _ (roS fun u=>RoomOk u ⟨⟨v1,exR.pls.l⟩,⟨v4,exR.ths.l⟩,⟨v8,[⟨tKey,0,⟨v6,[⟨0,1,false⟩]⟩⟩]⟩,⟨v12,[⟨0,1,⟨v10,[⟨1,1,false⟩]⟩⟩]⟩,⟨v21,[⟨Jl3,0,0,nil0,nil0,⟨v14,[⟨0,1⟩]⟩,nil0,nil0⟩,⟨Jme,0, -1,⟨v16,[0]⟩,nil0,⟨v18,[⟨1,1⟩]⟩,⟨v19,[0]⟩,nil0⟩]⟩,nil0,1,nil0⟩) _ u=>(⟨⟨⟨v1,exR.pls.l⟩,⟨v4,exR.ths.l⟩,⟨v8,[⟨tKey,0,⟨v6,[⟨0,1,false⟩]⟩⟩]⟩,⟨v12,[⟨0,1,⟨v10,[⟨1,1,false⟩]⟩⟩]⟩,⟨v21,[⟨Jl3,0,0,nil0,nil0,⟨v14,[⟨0,1⟩]⟩,nil0,nil0⟩,⟨Jme,0, -1,⟨v16,[0]⟩,nil0,⟨v18,[⟨1,1⟩]⟩,⟨v19,[0]⟩,nil0⟩]⟩,nil0,1,nil0⟩,⟨rfl,u,h2.now⟩,h2⟩:J2p w exR _ u)) (retR (fun S u h=>⟨⟨Star.osl (j:=10) rfl h,fun _ _=>trivial⟩,⟨Star.osl (j:=9) rfl h,fun _ _=>trivial⟩,⟨Star.osl (j:=7) rfl h,List.forall_mem_cons.2 ⟨⟨Star.osl (j:=8) rfl h,fun _ _=>trivial⟩,fun _ h=>absurd h List.not_mem_nil⟩⟩,⟨Star.osl (j:=5) rfl h,List.forall_mem_cons.2 ⟨⟨Star.osl (j:=6) rfl h,fun _ _=>trivial⟩,fun _ h=>absurd h List.not_mem_nil⟩⟩,⟨Star.osl (j:=0) rfl h,List.forall_mem_cons.2 ⟨⟨SlT.nil _ _,SlT.nil _ _,⟨Star.osl (j:=4) rfl h,fun _ _=>trivial⟩,SlT.nil _ _,SlT.nil _ _⟩,List.forall_mem_cons.2 ⟨⟨SlI.tree (Star.oints (j:=3) rfl h),SlT.nil _ _,⟨Star.osl (j:=2) rfl h,fun _ _=>trivial⟩,SlI.tree (Star.oints (j:=1) rfl h),SlT.nil _ _⟩,fun _ h=>absurd h List.not_mem_nil⟩⟩⟩,SlT.nil _ _,SlT.nil _ _⟩) u hu)))))
def Jjm:ByteArray:=⟨#[108,101,97,102]⟩
def Jk0:ByteArray:=⟨#[98,97,99,107]⟩
def Jlr:ByteArray:=⟨#[99,97,114,100]⟩
def clZ:Clue:={ k:=0,a:=0,b:=0,n:=0,m:=0,g:=[],nt:=false }
def exG:Game:=⟨exR,of0 [⟨2,4⟩],of0 [of0 [3,1]],of0 [⟨Jjm,0,0,nil0,{ clZ with k:=2,b:=1,n:=4 },.slice none 0 0⟩,⟨Jk0,0,0,of0 [⟨0,0,false⟩],{ clZ with k:=3,a:=1 },.slice none 0 0⟩,⟨Jlr,1, -1,nil0,clZ,.slice none 0 0⟩],1⟩
def J1z (w:World) (G:Game):Ending→World→Prop:=fun e w'=>∃ c:Game,(c.p=G.p∧∃ u0,GameOk u0 c)∧RetF w (.agg #[c.rm.pls.v,c.rm.ths.v,c.rm.prs.v,c.rm.wys.v,c.rm.acs.v,c.rm.aus.v,.int .i64 c.rm.ply,c.rm.gl.v,c.lks.v,c.cds.v,c.nts.v,.int .i64 c.tr]) (roS fun u=>GameOk u c) e w'
theorem Jqe (w:World):Calls Tryz.prog 13 #[] w (J1z w exG):=by
 refine enter Tryz.func13 rfl rfl (Nat.le_of_ble_eq_true rfl) ?_
 refine Nz 0 ?_
 refine Wl 0 zv48 (fun _=>rfl) (fun _=>rfl) fun b0 hb0=>?_
 refine Wd (Qc (Nz 0 ?_))
 refine Wc rfl rfl J6i (fun u hu=>Jsi u) (fun _=>rfl) ?_; rintro c ⟨hce,uc,hcok⟩
 have o1:=Sl.one hcok.pls
 have o2:=Sl.one hcok.ths
 have o3:=Sl.one hcok.prs
 have o4:=Sl.one hcok.wys
 have o5:=Sl.one hcok.acs
 have o6:=Sl.one hcok.aus
 have o7:=Sl.one hcok.gl
 refine Wk 0 (Db J37 Jvb) ?_
 refine WS.buildT1 J3j (a:=⟨2,4⟩) sl44 Jvb rfl (by decide) (fun _=>rfl) ?_; intro v4; refine WS.oc (j:=0) rfl (fun hv4=>?_)
 refine WS.buildSlice1 sl86 zv3 (vs:=[.int .i64 3,.int .i64 1]) rfl rfl (by decide) (by simp [Value.oneCell']) (fun _=>rfl) ?_; intro v5; refine WS.oc (j:=0) rfl (fun hv5=>?_)
 refine WS.buildSlice1 sl45 zv86 (vs:=[v5]) rfl rfl (by decide) (fun v h=>by simp at h; subst h; exact hv5) (fun _=>rfl) ?_; intro v6; refine WS.oc (j:=0) rfl (fun hv6=>?_)
 refine Wk 0 (Jas J6c zv48 (pcs:=[(0,[c.pls.v,c.ths.v,c.prs.v,c.wys.v,c.acs.v,c.aus.v,.int .i64 c.ply,c.gl.v]),(1,[v4]),(2,[v6]),(4,[.int .i64 1])]) rfl (CellsOf.agg (CellsOf.one hv4 (CellsOf.one hv6 (CellsOf.one rfl CellsOf.nil)))) rfl) ?_
 refine Wl 0 zv48 (fun _=>rfl) (fun _=>rfl) fun b1 hb1=>?_
 refine Wv 0 0 ?_
 refine Wd (Qc (Nz 0 ?_))
 refine Wk 0 (Db Jq5 Jpx) ?_
 refine Wk 0 (Jas Jug Jly (pcs:=[(0,[.string Jjm]),(4,[.int .i64 2,.int .i64 0,.int .i64 1,.int .i64 4,.int .i64 0,.slice none 0 0,.bool false])]) rfl (CellsOf.one rfl (CellsOf.agg CellsOf.nil)) rfl) ?_
 refine Wk 0 (Db Jsy Jpi) ?_
 refine WS.buildT1 cLit (a:=⟨0,0,false⟩) sl41 Jpi rfl (by decide) (fun _=>rfl) ?_; intro v11; refine WS.oc (j:=0) rfl (fun hv11=>?_)
 refine Wk 0 (Db Jq5 Jpx) ?_
 refine Wk 0 (Jas Jug Jly (pcs:=[(0,[.string Jk0]),(3,[v11]),(4,[.int .i64 3,.int .i64 1,.int .i64 0,.int .i64 0,.int .i64 0,.slice none 0 0,.bool false])]) rfl (CellsOf.one rfl (CellsOf.one hv11 (CellsOf.agg CellsOf.nil))) rfl) ?_
 refine Wk 0 (Db Jug Jly) ?_
 refine WS.buildSliceK sl46 Jly (rows:=[cNote.cells (⟨Jjm,0,0,⟨.slice none 0 0,[]⟩,{ clZ with k:=2,b:=1,n:=4 },.slice none 0 0⟩:NoteD),cNote.cells (⟨Jk0,0,0,⟨v11,[⟨0,0,false⟩]⟩,{ clZ with k:=3,a:=1 },.slice none 0 0⟩:NoteD),cNote.cells (⟨Jlr,1, -1,⟨.slice none 0 0,[]⟩,clZ,.slice none 0 0⟩:NoteD)]) rfl rfl (by decide) (by decide) (by simp [cNote]) (fun _=>rfl) ?_; intro v15; refine WS.oc (j:=0) rfl (fun hv15=>?_)
 refine Wz 1 ?_
 refine Ws 0 2 ?_
 refine Wd (Qc (Nz 0 ?_))
 refine Wk 0 (by first | exact Jbr (j:=2) rfl rfl tk48 | exact Jbj (j:=2) rfl rfl (by rfl) tk48 | exact Jbs rfl (by assumption) (by rfl) tk48 | exact Jbq (n:=12) (j:=2) rfl rfl rfl rfl tk48) ?_
 refine Wv 0 7 ?_
 exact Wd (Qc (Cr (outR (resc rfl (Jar (j:=7) rfl rfl tk48)) (fun u hu=>(fun h2:RetF w _ (roS fun u=>GameOk u (⟨c,⟨v4,[⟨2,4⟩]⟩,⟨v6,[⟨v5,[3,1]⟩]⟩,⟨v15,[(⟨Jjm,0,0,⟨.slice none 0 0,[]⟩,{ clZ with k:=2,b:=1,n:=4 },.slice none 0 0⟩:NoteD),(⟨Jk0,0,0,⟨v11,[⟨0,0,false⟩]⟩,{ clZ with k:=3,a:=1 },.slice none 0 0⟩:NoteD),(⟨Jlr,1, -1,⟨.slice none 0 0,[]⟩,clZ,.slice none 0 0⟩:NoteD)]⟩,1⟩:Game)) _ u=>(⟨(⟨c,⟨v4,[⟨2,4⟩]⟩,⟨v6,[⟨v5,[3,1]⟩]⟩,⟨v15,[(⟨Jjm,0,0,⟨.slice none 0 0,[]⟩,{ clZ with k:=2,b:=1,n:=4 },.slice none 0 0⟩:NoteD),(⟨Jk0,0,0,⟨v11,[⟨0,0,false⟩]⟩,{ clZ with k:=3,a:=1 },.slice none 0 0⟩:NoteD),(⟨Jlr,1, -1,⟨.slice none 0 0,[]⟩,clZ,.slice none 0 0⟩:NoteD)]⟩,1⟩:Game),⟨by unfold Game.p; simp only [hce]; rfl,u,h2.now⟩,h2⟩:J1z w exG _ u)) (retR (fun S u h=>⟨Star.ro (j:=6) rfl h,⟨Star.osl (j:=5) rfl h,fun _ _=>trivial⟩,⟨Star.osl (j:=3) rfl h,List.forall_mem_cons.2 ⟨SlI.tree (Star.oints (j:=4) rfl h),fun _ h=>absurd h List.not_mem_nil⟩⟩,⟨Star.osl (j:=0) rfl h,List.forall_mem_cons.2 ⟨⟨SlT.nil _ _,SlI.none u⟩,List.forall_mem_cons.2 ⟨⟨⟨Star.osl (j:=1) rfl h,fun _ _=>trivial⟩,SlI.none u⟩,List.forall_mem_cons.2 ⟨⟨SlT.nil _ _,SlI.none u⟩,fun _ h=>absurd h List.not_mem_nil⟩⟩⟩⟩⟩) u hu)))))
theorem Ju3:Jax Jjm=true∧Jax Jk0=true∧Jax Jlr=true:=by
 simp only [Jax,Jcc,wordL,List.any_cons,List.any_nil,Jgi]
 decide
theorem exRm:exG.p.rm=exR:=rfl
theorem Jny:Jbl exG.p=0:=by
 obtain ⟨h1,h2,h3⟩:=Ju3
 simp only [Jjm,Jk0,Jlr] at h1 h2 h3
 have h4:Jaz (ntO exG.p) exG.p.nts.length=0:=by
  rw [show exG.p.nts.length=3 from rfl]
  simp only [Jaz]
  have e:∀ i:Int,i=0∨i=1∨i=2→ntO exG.p i=0:=fun i hi=>by
   rcases hi with rfl | rfl | rfl <;>
   ·
    unfold ntO ntB newB
    simp [exG,Game.p,of0,nth,NoteD.p,Jjm,Jk0,Jlr,h1,h2,h3,Jgi,or0]
    decide
  simp [e,or0]
 unfold Jbl
 rw [exRm,Jt8]
 unfold gck1 gck2 gck3 gck4 gck5
 rw [h4]
 decide
theorem Joi:Jal exG.p=(0,([0,0],[0],[0]),[true,true,false]):=by
 unfold Jal
 rw [Jny,exRm,Jz1]
 decide
theorem J4v:posG exG.p (([0,0],[0],[0]),[true,true,false])=0:=by
 unfold posG
 rw [Jny]
 decide
theorem J4z {c G:Game} (h:c.p=G.p) (hn:NearG G):NearG c:=by
 have e1:c.rm.e=G.rm.e:=congrArg GP.rm h
 have e2:c.lks.l=G.lks.l:=congrArg GP.lks h
 have e3:c.cds.l.map Sl.l=G.cds.l.map Sl.l:=congrArg GP.cds h
 have e4:c.nts.l.map NoteD.p=G.nts.l.map NoteD.p:=congrArg GP.nts h
 have l3:c.cds.l.length=G.cds.l.length:=by simpa using congrArg List.length e3
 have l4:c.nts.l.length=G.nts.l.length:=by simpa using congrArg List.length e4
 refine ⟨J29 e1 hn.rm,by rw [e2]; exact hn.lks,by rw [l3]; exact hn.cds,by rw [l4]; exact hn.nts,by rw [e2]; exact hn.lk,fun x hx=>?_,fun x hx=>?_⟩
 ·
  have h1:x.l∈c.cds.l.map Sl.l:=List.mem_map.2 ⟨x,hx,rfl⟩
  rw [e3] at h1
  obtain ⟨y,hy,he⟩:=List.mem_map.1 h1
  rw [← he]; exact hn.cd y hy
 have h1:x.p∈c.nts.l.map NoteD.p:=List.mem_map.2 ⟨x,hx,rfl⟩
 rw [e4] at h1
 obtain ⟨y,hy,he⟩:=List.mem_map.1 h1
 have:=hn.nt y hy
 have q1:y.nm=x.nm:=congrArg NoteP.nm he
 have q2:y.wh.l=x.wh.l:=congrArg NoteP.wh he
 have q3:y.cl=x.cl:=congrArg NoteP.cl he
 rw [q1,q2,q3] at this
 exact this
theorem Jz9:NearG exG:=by
 refine ⟨J1o,by decide,by decide,by decide,by decide,by decide,?_⟩
 decide
end Go.Proofs.YtfbfdnoodccgiaaGreatDoor
