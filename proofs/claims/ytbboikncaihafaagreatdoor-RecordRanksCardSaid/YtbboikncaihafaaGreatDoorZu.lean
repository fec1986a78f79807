/- Merged texts of this proof (walks and plain laws), printed by a program of the prover. -/
import Derived.Test.YtbboikncaihafaaGreatDoorZt
import Derived.Test.YtbboikncaihafaaGreatDoorZb
set_option maxHeartbeats 8000000
namespace Go.Proofs.YtbboikncaihafaaGreatDoor
open Go.RowKit Go.Proofs
set_option maxRecDepth 100000
set_option linter.unusedVariables false
set_option linter.unusedSimpArgs false
theorem J4e (G:Game) (w:World) (hG:GameOk w G) :
  Calls Tryz.prog 7 #[.agg #[G.rm.pls.v,G.rm.ths.v,G.rm.prs.v,G.rm.wys.v,G.rm.acs.v,G.rm.aus.v,.int .i64 G.rm.ply,G.rm.gl.v,G.lks.v,G.cds.v,G.nts.v,.int .i64 G.tr]] w (RetB w (.bool (!clB (NearG G)))):=by
 have klk:=hG.lks
 have llk:=hG.lks.le
 have kcd:=hG.cds
 have lcd:=hG.cds.le
 have knt:=hG.nts
 have lnt:=hG.nts.le
 have kpl:=hG.rm.pls
 have lpl:=hG.rm.pls.le
 have kth:=hG.rm.ths
 have lth:=hG.rm.ths.le
 have kac:=hG.rm.acs
 have lac:=hG.rm.acs.le
 refine enter Tryz.func7 rfl rfl (Nat.le_of_ble_eq_true rfl) ?_
 refine Nz 0 ?_
 refine Wb 1 rfl rfl (fun _=>rfl) (fun _=>rfl) fun b1 hb1=>?_
 refine Wd (Qc (Cs (Nz 1 ?_)))
 refine Wk 0 (by first | exact Jb7 (j:=0) rfl rfl tk31 | exact Jb1 (j:=0) rfl rfl (by rfl) tk31 | exact Jcb rfl (by assumption) (by rfl) tk31 | exact Jb8 (n:=8) (j:=0) rfl rfl rfl rfl tk31) ?_
 refine Wk 1 (Cb rfl rfl Kcb (fun u hu=>Kb7 G.rm u (hG.rm.st hu))) ?_
 refine Wf 0 rfl rfl (fun hg=>Ff) ?_
 refine Wf 0 rfl rfl (fun hg=>by first | exact Jas (j:=0) (eg_ hg rfl) rfl rfl tk32 | exact Jax (eg_ hg rfl) (by assumption) rfl tk32) ?_
 refine Wf 0 rfl rfl (fun hg=>Nc (eg_ hg rfl)) ?_
 refine Wf 0 rfl rfl (fun hg=>Fg) ?_
 refine Wk 1 Po ?_
 refine Wf 0 rfl rfl (fun hg=>Ff) ?_
 refine Wf 0 rfl rfl (fun hg=>by first | exact Jas (j:=0) (eg_ hg rfl) rfl rfl tk33 | exact Jax (eg_ hg rfl) (by assumption) rfl tk33) ?_
 refine Wf 0 rfl rfl (fun hg=>Nc (eg_ hg rfl)) ?_
 refine Wf 0 rfl rfl (fun hg=>Fg) ?_
 refine Wk 1 Po ?_
 refine Wf 0 rfl rfl (fun hg=>Ff) ?_
 refine Wf 0 rfl rfl (fun hg=>by first | exact Jas (j:=0) (eg_ hg rfl) rfl rfl tk34 | exact Jax (eg_ hg rfl) (by assumption) rfl tk34) ?_
 refine Wf 0 rfl rfl (fun hg=>Nc (eg_ hg rfl)) ?_
 refine Wf 0 rfl rfl (fun hg=>Fg) ?_
 refine Wk 0 Po ?_
 refine Wd (Qc (CS.cond rfl ?_ ?_))<;>intro hc1<;>try simp only [bq] at hc1
 ·
  refine Nz 1 ?_
  exact Wd (Qc (Cr (Qr (out1 rfl rfl (Jab (by rw [Jj0 (fun h=>by have h1:=J5a h.rm; have:=h.lks; have:=h.cds; have:=h.nts; rw [h1] at hc1; simp at hc1; omega)]; rfl))))))
 refine Ck (Qc (Cs (Nz 1 ?_)))
 refine Wd (Qc (Ce ?_))
 refine CS.loopM (σ:=Int) [2,28,29,30,31,32,33,34,35,36,37,38,39,40,41,42,43,44,45,46,47,48,49,50] (fun s=>[(3,.int .i64 s)]) (fun _=>_) (fun s=>0≤s∧s≤G.lks.l.length∧∀ j:Int,0≤j→j < s→¬ (3 < (nth G.lks.l j).w∧5 < (nth G.lks.l j).s)) (fun s=>(G.lks.l.length - s).toNat) 0 (fun _ _=>rfl) rfl rfl ⟨by omega,by omega,fun j _ _=>by omega⟩ ?_
 intro a t hs
 obtain ⟨ha1,ha2,ha3⟩:=hs
 refine Cs (Nz 2 ?_)
 refine Wk 0 (by first | exact Jas (j:=0) rfl rfl rfl tk32 | exact Jax rfl (by assumption) rfl tk32) ?_
 refine Wk 1 Nc ?_
 refine Wd (Qc (CS.cond rfl ?_ ?_))<;>intro hc2<;>try simp only [bq] at hc2
 ·
  refine Ck (Qc (Cs (Ce (Nz 1 ?_))))
  refine Wk 1 (by first | exact Jas (j:=0) rfl rfl rfl tk32 | exact Jax rfl (by assumption) rfl tk32) ?_
  refine Wk 1 Xc ?_
  refine Wk 2 (Uc 2 0) ?_
  refine Wt 0 rfl rfl (fun hg=>Ff) ?_
  refine Wt 0 rfl rfl (fun hg=>by first | exact Jas (j:=0) (eg_ hg rfl) rfl rfl tk32 | exact Jax (eg_ hg rfl) (by assumption) rfl tk32) ?_
  refine Wt 0 rfl rfl (fun hg=>Fm) ?_
  refine Wt 0 rfl rfl (fun hg=>Xc (eg_ hg rfl)) ?_
  refine Wt 0 rfl rfl (fun hg=>Ff) ?_
  refine Wt 0 rfl rfl (fun hg=>Uc 2 1) ?_
  refine Wt 0 rfl rfl (fun hg=>Fg) ?_
  refine Wk 0 Pa ?_
  refine Wd (Qc (CS.cond rfl ?_ ?_))<;>intro hc3<;>try simp only [bq] at hc3
  ·
   refine Nz 1 ?_
   exact Wd (Qc (Cr (Qs (Qr (Qr (Qs (Qr (out1 rfl rfl (Jab (by rw [Jj0 (fun h=>by have:=h.lk _ (Jai ha1 (by omega)); omega)]; rfl))))))))))
  refine Ck (Qb (Qc (Ny 1 ?_)))
  refine Wk 1 Za ?_
  refine Wd ?_
  exact QS.head (a+1) rfl rfl ⟨⟨by omega,by omega,fun j h0 h1=>by
     rcases (show j < a∨j=a by omega) with h | h
     ·
      exact ha3 j h0 h
     rw [h]; omega⟩,by omega⟩
 refine Cv (Qe (Qe (Qx (Qc (Cs (Nz 1 ?_))))))
 refine Wd (Qc (Ce ?_))
 refine CS.loopM (σ:=Int) [2,51,52,53,54,55,56,57,58,59,60,61,62,63,64] (fun s=>[(4,.int .i64 s)]) (fun _=>_) (fun s=>0≤s∧s≤G.cds.l.length∧∀ j:Int,0≤j→j < s→(nth G.cds.l j).l.length≤10) (fun s=>(G.cds.l.length - s).toNat) 0 (fun _ _=>rfl) rfl rfl ⟨by omega,by omega,fun j _ _=>by omega⟩ ?_
 intro b t hs
 obtain ⟨hb1,hb2,hb3⟩:=hs
 refine Cs (Nz 2 ?_)
 refine Wk 0 (by first | exact Jas (j:=0) rfl rfl rfl tk33 | exact Jax rfl (by assumption) rfl tk33) ?_
 refine Wk 1 Nc ?_
 refine Wd (Qc (CS.cond rfl ?_ ?_))<;>intro hc4<;>try simp only [bq] at hc4
 ·
  have hcd:SlT cInt w (nth G.cds.l b):=kcd.at hb1 (by omega)
  have hci:=hcd.ints
  refine Ck (Qc (Cs (Ce (Nz 1 ?_))))
  refine Wk 1 (by first | exact Jas (j:=0) rfl rfl rfl tk33 | exact Jax rfl (by assumption) rfl tk33) ?_
  refine Wk 0 Xc ?_
  refine Wk 0 Ub ?_
  refine Wk 1 (by first | exact Jb6 sl42 rfl (by assumption) | exact Jb6 sl42 rfl (by first | exact SlL.sp (by assumption) | exact ClS.sp (by assumption)) | exact Jh2 sl42 rfl | exact Jhm sl42 rfl ⟨_,_,rfl⟩) ?_
  refine Wd (Qc (CS.cond rfl ?_ ?_))<;>intro hc5<;>try simp only [bq] at hc5
  ·
   refine Nz 1 ?_
   exact Wd (Qc (Cr (Qs (Qr (Qr (Qs (Qr (out1 rfl rfl (Jab (by rw [Jj0 (fun h=>by have:=h.cd _ (Jai hb1 (by omega)); omega)]; rfl))))))))))
  refine Ck (Qb (Qc (Ny 1 ?_)))
  refine Wk 1 Za ?_
  refine Wd ?_
  exact QS.head (b+1) rfl rfl ⟨⟨by omega,by omega,fun j h0 h1=>by
     rcases (show j < b∨j=b by omega) with h | h
     ·
      exact hb3 j h0 h
     rw [h]; omega⟩,by omega⟩
 refine Cv (Qe (Qe (Qx (Qc (Cs (Nz 1 ?_))))))
 refine Wd (Qc (Ce ?_))
 refine CS.loopM (σ:=Int) [2,6,65,66,67,68,69,70,71,72,73,74,75,76,77,78,79,80,81,82,83,84,85,86,87,88,89,90,91,92,93] (fun s=>[(5,.int .i64 s)]) (fun _=>_) (fun s=>0≤s∧s≤G.nts.l.length∧∀ j:Int,0≤j→j < s→((nth G.nts.l j).nm.size≤100∧(nth G.nts.l j).wh.l.length≤20∧(nth G.nts.l j).cl.g.length≤10)) (fun s=>(G.nts.l.length - s).toNat) 0 (fun _ _=>rfl) rfl rfl ⟨by omega,by omega,fun j _ _=>by omega⟩ ?_
 intro d t hs
 obtain ⟨hd1,hd2,hd3⟩:=hs
 refine Cs (Nz 2 ?_)
 refine Wk 0 (by first | exact Jas (j:=0) rfl rfl rfl tk34 | exact Jax rfl (by assumption) rfl tk34) ?_
 refine Wk 1 Nc ?_
 refine Wd (Qc (CS.cond rfl ?_ ?_))<;>intro hc6<;>try simp only [bq] at hc6
 ·
  have hnt:cNote.ok w (nth G.nts.l d):=knt.at hd1 (by omega)
  have hwh:=hnt.1
  have hgv:=hnt.2
  refine Ck (Qc (Cs (Ce (Nz 1 ?_))))
  refine Wk 1 (by first | exact Jas (j:=0) rfl rfl rfl tk34 | exact Jax rfl (by assumption) rfl tk34) ?_
  refine Wk 0 Xc ?_
  refine Wk 0 Ua ?_
  refine Wl 0 zv94 (fun _=>rfl) (fun _=>rfl) fun b6 hb6=>?_
  refine Wv 0 0 ?_
  refine Wd (Qc (Nz 1 ?_))
  refine Wk 0 (by first | exact Jas (j:=0) rfl rfl rfl tk9 | exact Jax rfl (by assumption) rfl tk9) ?_
  refine Wk 2 (Jbl Tryz.underlying9 rfl) ?_
  refine Wf 0 rfl rfl (fun hg=>Ff) ?_
  refine Wf 0 rfl rfl (fun hg=>by first | exact Jas (j:=0) (eg_ hg rfl) rfl rfl tk29 | exact Jax (eg_ hg rfl) (by assumption) rfl tk29) ?_
  refine Wf 0 rfl rfl (fun hg=>Nc (eg_ hg rfl)) ?_
  refine Wf 0 rfl rfl (fun hg=>Fg) ?_
  refine Wk 1 Po ?_
  refine Wf 0 rfl rfl (fun hg=>Ff) ?_
  refine Wf 0 rfl rfl (fun hg=>Ff) ?_
  refine Wf 0 rfl rfl (fun hg=>by first | exact Jas (j:=0) (eg_ hg rfl) rfl rfl tk42 | exact Jax (eg_ hg rfl) (by assumption) rfl tk42) ?_
  refine Wf 0 rfl rfl (fun hg=>by first | exact Jb6 sl42 (eg_ hg rfl) (by assumption) | exact Jb6 sl42 (eg_ hg rfl) (by first | exact SlL.sp (by assumption) | exact ClS.sp (by assumption)) | exact Jh2 sl42 (eg_ hg rfl) | exact Jhm sl42 (eg_ hg rfl) ⟨_,_,rfl⟩) ?_
  refine Wf 0 rfl rfl (fun hg=>Fg) ?_
  refine Wk 0 Po ?_
  refine Wd (Qc (CS.cond rfl ?_ ?_))<;>intro hc7<;>try simp only [bq] at hc7
  ·
   refine Nz 1 ?_
   exact Wd (Qc (Cr (Qs (Qr (Qr (Qs (Qr (out1 rfl rfl (Jab (by rw [Jj0 (fun h=>by have:=h.nt _ (Jai hd1 (by omega)); omega)]; rfl))))))))))
  refine Ck (Qb (Qc (Ny 1 ?_)))
  refine Wk 1 Za ?_
  refine Wd ?_
  refine QS.sel [1] rfl ?_
  exact QS.head (d+1) rfl rfl ⟨⟨by omega,by omega,fun j h0 h1=>by
     rcases (show j < d∨j=d by omega) with h | h
     ·
      exact hd3 j h0 h
     rw [h]; omega⟩,by omega⟩
 refine Cv (Qe (Qe (Qx (Qc (Nz 1 ?_)))))
 exact Wd (Qc (Cr (out1 rfl rfl (Jab (by rw [J5a ⟨Jkd.1 (by grind),by omega,by omega,by omega,Jfd hc2 ha3,Jfd hc4 hb3,Jfd hc6 hd3⟩]; rfl)))))
theorem Jyr (w:World):Calls Tryz.prog 130 #[] w (J2o w exR):=by
 refine enter Tryz.func130 rfl rfl (Nat.le_of_ble_eq_true rfl) ?_
 refine Nz 0 ?_
 refine Wl 0 zv31 (fun _=>rfl) (fun _=>rfl) fun b0 hb0=>?_
 refine Wd (Qc (Nz 0 ?_))
 refine WS.buildSlice1 sl22 zv9 (vs:=[.string Jyv,.string Joj]) rfl rfl (by decide) (by simp [Value.oneCell']) (fun _=>rfl) ?_; intro v1; refine WS.oc (j:=0) rfl (fun hv1=>?_)
 refine Wk 0 (Db J74 zv97) ?_
 refine Wk 0 (Db J74 zv97) ?_
 refine WS.buildSliceK sl23 zv97 (rows:=[[.string tBox,.int .i64 0,.int .i64 2,.int .i64 0],[.string Jxw,.int .i64 0,.int .i64 2,.int .i64 0]]) rfl rfl (by decide) (by decide) (by simp [Value.oneCell']) (fun _=>rfl) ?_; intro v4; refine WS.oc (j:=0) rfl (fun hv4=>?_)
 refine Wk 0 (Db Jvy Jk8) ?_
 refine WS.buildT1 cLit (a:=⟨0,1,false⟩) sl29 Jk8 rfl (by decide) (fun _=>rfl) ?_; intro v6; refine WS.oc (j:=0) rfl (fun hv6=>?_)
 refine Wk 0 (Db J9p Jql) ?_
 refine WS.buildT1 cPro (a:=⟨tKey,0,⟨v6,[⟨0,1,false⟩]⟩⟩) sl24 Jql rfl (by decide) (fun _=>rfl) ?_; intro v8; refine WS.oc (j:=0) rfl (fun hv8=>?_)
 refine Wk 0 (Db Jvy Jk8) ?_
 refine WS.buildT1 cLit (a:=⟨1,1,false⟩) sl29 Jk8 rfl (by decide) (fun _=>rfl) ?_; intro v10; refine WS.oc (j:=0) rfl (fun hv10=>?_)
 refine Wk 0 (Db Kbt Jnw) ?_
 refine WS.buildT1 cWay (a:=⟨0,1,⟨v10,[⟨1,1,false⟩]⟩⟩) sl25 Jnw rfl (by decide) (fun _=>rfl) ?_; intro v12; refine WS.oc (j:=0) rfl (fun hv12=>?_)
 refine Wk 0 (Db J4c Job) ?_
 refine WS.buildT1 cPut (a:=⟨0,1⟩) Jyl Job rfl (by decide) (fun _=>rfl) ?_; intro v14; refine WS.oc (j:=0) rfl (fun hv14=>?_)
 refine Wk 0 (Db J3u Jh1) ?_
 refine WS.buildI1 sl42 zv3 rfl (fun _=>rfl) ?_; intro v16; refine WS.oc (j:=0) rfl (fun hv16=>?_)
 refine Wk 0 (Db J4c Job) ?_
 refine WS.buildT1 cPut (a:=⟨1,1⟩) Jyl Job rfl (by decide) (fun _=>rfl) ?_; intro v18; refine WS.oc (j:=0) rfl (fun hv18=>?_)
 refine WS.buildI1 sl42 zv3 rfl (fun _=>rfl) ?_; intro v19; refine WS.oc (j:=0) rfl (fun hv19=>?_)
 refine Wk 0 (Db J3u Jh1) ?_
 refine WS.buildSliceK sl26 Jh1 (rows:=[cAct.cells ⟨Jqw,0,0,nil0,nil0,⟨v14,[⟨0,1⟩]⟩,nil0,nil0⟩,cAct.cells ⟨Jqk,0, -1,⟨v16,[0]⟩,nil0,⟨v18,[⟨1,1⟩]⟩,⟨v19,[0]⟩,nil0⟩]) rfl rfl (by decide) (by decide) (by simp [cAct]) (fun _=>rfl) ?_; intro v21; refine WS.oc (j:=0) rfl (fun hv21=>?_)
 refine Wk 0 (Db J8y zv31) ?_
 refine Wv 0 11 ?_
 exact Wd (Qc (Cr (outR (resc rfl (Jak (j:=11) rfl rfl tk31)) (fun u hu=>(fun h2:RetF w _ (roS fun u=>RoomOk u ⟨⟨v1,exR.pls.l⟩,⟨v4,exR.ths.l⟩,⟨v8,[⟨tKey,0,⟨v6,[⟨0,1,false⟩]⟩⟩]⟩,⟨v12,[⟨0,1,⟨v10,[⟨1,1,false⟩]⟩⟩]⟩,⟨v21,[⟨Jqw,0,0,nil0,nil0,⟨v14,[⟨0,1⟩]⟩,nil0,nil0⟩,⟨Jqk,0, -1,⟨v16,[0]⟩,nil0,⟨v18,[⟨1,1⟩]⟩,⟨v19,[0]⟩,nil0⟩]⟩,nil0,1,nil0⟩) _ u=>(⟨⟨⟨v1,exR.pls.l⟩,⟨v4,exR.ths.l⟩,⟨v8,[⟨tKey,0,⟨v6,[⟨0,1,false⟩]⟩⟩]⟩,⟨v12,[⟨0,1,⟨v10,[⟨1,1,false⟩]⟩⟩]⟩,⟨v21,[⟨Jqw,0,0,nil0,nil0,⟨v14,[⟨0,1⟩]⟩,nil0,nil0⟩,⟨Jqk,0, -1,⟨v16,[0]⟩,nil0,⟨v18,[⟨1,1⟩]⟩,⟨v19,[0]⟩,nil0⟩]⟩,nil0,1,nil0⟩,⟨rfl,u,h2.now⟩,h2⟩:J2o w exR _ u)) (retR (fun S u h=>⟨⟨Star.osl (j:=10) rfl h,fun _ _=>trivial⟩,⟨Star.osl (j:=9) rfl h,fun _ _=>trivial⟩,⟨Star.osl (j:=7) rfl h,List.forall_mem_cons.2 ⟨⟨Star.osl (j:=8) rfl h,fun _ _=>trivial⟩,fun _ h=>absurd h List.not_mem_nil⟩⟩,⟨Star.osl (j:=5) rfl h,List.forall_mem_cons.2 ⟨⟨Star.osl (j:=6) rfl h,fun _ _=>trivial⟩,fun _ h=>absurd h List.not_mem_nil⟩⟩,⟨Star.osl (j:=0) rfl h,List.forall_mem_cons.2 ⟨⟨SlT.nil _ _,SlT.nil _ _,⟨Star.osl (j:=4) rfl h,fun _ _=>trivial⟩,SlT.nil _ _,SlT.nil _ _⟩,List.forall_mem_cons.2 ⟨⟨SlI.tree (Star.oints (j:=3) rfl h),SlT.nil _ _,⟨Star.osl (j:=2) rfl h,fun _ _=>trivial⟩,SlI.tree (Star.oints (j:=1) rfl h),SlT.nil _ _⟩,fun _ h=>absurd h List.not_mem_nil⟩⟩⟩,SlT.nil _ _,SlT.nil _ _⟩) u hu)))))
def Jpj:ByteArray:=⟨#[108,101,97,102]⟩
def Jpd:ByteArray:=⟨#[98,97,99,107]⟩
def Jqc:ByteArray:=⟨#[99,97,114,100]⟩
def clZ:Clue:={ k:=0,a:=0,b:=0,n:=0,m:=0,g:=[],nt:=false }
def exG:Game:=⟨exR,of0 [⟨2,4⟩],of0 [of0 [3,1]],of0 [⟨Jpj,0,0,nil0,{ clZ with k:=2,b:=1,n:=4 },.slice none 0 0⟩,⟨Jpd,0,0,of0 [⟨0,0,false⟩],{ clZ with k:=3,a:=1 },.slice none 0 0⟩,⟨Jqc,1, -1,nil0,clZ,.slice none 0 0⟩],1⟩
def J0t (w:World) (G:Game):Ending→World→Prop:=fun e w'=>∃ c:Game,(c.p=G.p∧∃ u0,GameOk u0 c)∧RetF w (.agg #[c.rm.pls.v,c.rm.ths.v,c.rm.prs.v,c.rm.wys.v,c.rm.acs.v,c.rm.aus.v,.int .i64 c.rm.ply,c.rm.gl.v,c.lks.v,c.cds.v,c.nts.v,.int .i64 c.tr]) (roS fun u=>GameOk u c) e w'
theorem Juq (w:World):Calls Tryz.prog 66 #[] w (J0t w exG):=by
 refine enter Tryz.func66 rfl rfl (Nat.le_of_ble_eq_true rfl) ?_
 refine Nz 0 ?_
 refine Wl 0 zv36 (fun _=>rfl) (fun _=>rfl) fun b0 hb0=>?_
 refine Wd (Qc (Nz 0 ?_))
 refine Wc rfl rfl Kby (fun u hu=>Jyr u) (fun _=>rfl) ?_; rintro c ⟨hce,uc,hcok⟩
 have o1:=Sl.one hcok.pls
 have o2:=Sl.one hcok.ths
 have o3:=Sl.one hcok.prs
 have o4:=Sl.one hcok.wys
 have o5:=Sl.one hcok.acs
 have o6:=Sl.one hcok.aus
 have o7:=Sl.one hcok.gl
 refine Wk 0 (Db Kc5 zv90) ?_
 refine WS.buildT1 cLock (a:=⟨2,4⟩) sl32 zv90 rfl (by decide) (fun _=>rfl) ?_; intro v4; refine WS.oc (j:=0) rfl (fun hv4=>?_)
 refine WS.buildSlice1 sl42 zv3 (vs:=[.int .i64 3,.int .i64 1]) rfl rfl (by decide) (by simp [Value.oneCell']) (fun _=>rfl) ?_; intro v5; refine WS.oc (j:=0) rfl (fun hv5=>?_)
 refine WS.buildSlice1 sl33 zv42 (vs:=[v5]) rfl rfl (by decide) (fun v h=>by simp at h; subst h; exact hv5) (fun _=>rfl) ?_; intro v6; refine WS.oc (j:=0) rfl (fun hv6=>?_)
 refine Wk 0 (Jav Kbi zv36 (pcs:=[(0,[c.pls.v,c.ths.v,c.prs.v,c.wys.v,c.acs.v,c.aus.v,.int .i64 c.ply,c.gl.v]),(1,[v4]),(2,[v6]),(4,[.int .i64 1])]) rfl (CellsOf.agg (CellsOf.one hv4 (CellsOf.one hv6 (CellsOf.one rfl CellsOf.nil)))) rfl) ?_
 refine Wl 0 zv36 (fun _=>rfl) (fun _=>rfl) fun b1 hb1=>?_
 refine Wv 0 0 ?_
 refine Wd (Qc (Nz 0 ?_))
 refine Wk 0 (Db J01 zv92) ?_
 refine Wk 0 (Jav J4t zv94 (pcs:=[(0,[.string Jpj]),(4,[.int .i64 2,.int .i64 0,.int .i64 1,.int .i64 4,.int .i64 0,.slice none 0 0,.bool false])]) rfl (CellsOf.one rfl (CellsOf.agg CellsOf.nil)) rfl) ?_
 refine Wk 0 (Db Jvy Jk8) ?_
 refine WS.buildT1 cLit (a:=⟨0,0,false⟩) sl29 Jk8 rfl (by decide) (fun _=>rfl) ?_; intro v11; refine WS.oc (j:=0) rfl (fun hv11=>?_)
 refine Wk 0 (Db J01 zv92) ?_
 refine Wk 0 (Jav J4t zv94 (pcs:=[(0,[.string Jpd]),(3,[v11]),(4,[.int .i64 3,.int .i64 1,.int .i64 0,.int .i64 0,.int .i64 0,.slice none 0 0,.bool false])]) rfl (CellsOf.one rfl (CellsOf.one hv11 (CellsOf.agg CellsOf.nil))) rfl) ?_
 refine Wk 0 (Db J4t zv94) ?_
 refine WS.buildSliceK sl34 zv94 (rows:=[cNote.cells (⟨Jpj,0,0,⟨.slice none 0 0,[]⟩,{ clZ with k:=2,b:=1,n:=4 },.slice none 0 0⟩:NoteD),cNote.cells (⟨Jpd,0,0,⟨v11,[⟨0,0,false⟩]⟩,{ clZ with k:=3,a:=1 },.slice none 0 0⟩:NoteD),cNote.cells (⟨Jqc,1, -1,⟨.slice none 0 0,[]⟩,clZ,.slice none 0 0⟩:NoteD)]) rfl rfl (by decide) (by decide) (by simp [cNote]) (fun _=>rfl) ?_; intro v15; refine WS.oc (j:=0) rfl (fun hv15=>?_)
 refine Wz 1 ?_
 refine Ws 0 2 ?_
 refine Wd (Qc (Nz 0 ?_))
 refine Wk 0 (by first | exact Jb7 (j:=2) rfl rfl tk36 | exact Jb1 (j:=2) rfl rfl (by rfl) tk36 | exact Jcb rfl (by assumption) (by rfl) tk36 | exact Jb8 (n:=12) (j:=2) rfl rfl rfl rfl tk36) ?_
 refine Wv 0 7 ?_
 exact Wd (Qc (Cr (outR (resc rfl (Jak (j:=7) rfl rfl tk36)) (fun u hu=>(fun h2:RetF w _ (roS fun u=>GameOk u (⟨c,⟨v4,[⟨2,4⟩]⟩,⟨v6,[⟨v5,[3,1]⟩]⟩,⟨v15,[(⟨Jpj,0,0,⟨.slice none 0 0,[]⟩,{ clZ with k:=2,b:=1,n:=4 },.slice none 0 0⟩:NoteD),(⟨Jpd,0,0,⟨v11,[⟨0,0,false⟩]⟩,{ clZ with k:=3,a:=1 },.slice none 0 0⟩:NoteD),(⟨Jqc,1, -1,⟨.slice none 0 0,[]⟩,clZ,.slice none 0 0⟩:NoteD)]⟩,1⟩:Game)) _ u=>(⟨(⟨c,⟨v4,[⟨2,4⟩]⟩,⟨v6,[⟨v5,[3,1]⟩]⟩,⟨v15,[(⟨Jpj,0,0,⟨.slice none 0 0,[]⟩,{ clZ with k:=2,b:=1,n:=4 },.slice none 0 0⟩:NoteD),(⟨Jpd,0,0,⟨v11,[⟨0,0,false⟩]⟩,{ clZ with k:=3,a:=1 },.slice none 0 0⟩:NoteD),(⟨Jqc,1, -1,⟨.slice none 0 0,[]⟩,clZ,.slice none 0 0⟩:NoteD)]⟩,1⟩:Game),⟨by unfold Game.p; simp only [hce]; rfl,u,h2.now⟩,h2⟩:J0t w exG _ u)) (retR (fun S u h=>⟨Star.ro (j:=6) rfl h,⟨Star.osl (j:=5) rfl h,fun _ _=>trivial⟩,⟨Star.osl (j:=3) rfl h,List.forall_mem_cons.2 ⟨SlI.tree (Star.oints (j:=4) rfl h),fun _ h=>absurd h List.not_mem_nil⟩⟩,⟨Star.osl (j:=0) rfl h,List.forall_mem_cons.2 ⟨⟨SlT.nil _ _,SlI.none u⟩,List.forall_mem_cons.2 ⟨⟨⟨Star.osl (j:=1) rfl h,fun _ _=>trivial⟩,SlI.none u⟩,List.forall_mem_cons.2 ⟨⟨SlT.nil _ _,SlI.none u⟩,fun _ h=>absurd h List.not_mem_nil⟩⟩⟩⟩⟩) u hu)))))
theorem J0s:Jbn Jpj=true∧Jbn Jpd=true∧Jbn Jqc=true:=by
 simp only [Jbn,Jcw,wordL,List.any_cons,List.any_nil,Jjg]
 decide
theorem exRm:exG.p.rm=exR:=rfl
theorem Jsm:Jbp exG.p=0:=by
 obtain ⟨h1,h2,h3⟩:=J0s
 simp only [Jpj,Jpd,Jqc] at h1 h2 h3
 have h4:Ja9 (ntO exG.p) exG.p.nts.length=0:=by
  rw [show exG.p.nts.length=3 from rfl]
  simp only [Ja9]
  have e:∀ i:Int,i=0∨i=1∨i=2→ntO exG.p i=0:=fun i hi=>by
   rcases hi with rfl | rfl | rfl <;>
   ·
    unfold ntO ntB newB
    simp [exG,Game.p,of0,nth,NoteD.p,Jpj,Jpd,Jqc,h1,h2,h3,Jjg,or0]
    decide
  simp [e,or0]
 unfold Jbp
 rw [exRm,Jxl]
 unfold gck1 gck2 gck3 gck4 gck5
 rw [h4]
 decide
theorem Js5:Jag exG.p=(0,([0,0],[0],[0]),[true,true,false]):=by
 unfold Jag
 rw [Jsm,exRm,J55]
 decide
theorem Kae:posG exG.p (([0,0],[0],[0]),[true,true,false])=0:=by
 unfold posG
 rw [Jsm]
 decide
theorem Jpn {c G:Game} (h:c.p=G.p) (hn:NearG G):NearG c:=by
 have e1:c.rm.e=G.rm.e:=congrArg GP.rm h
 have e2:c.lks.l=G.lks.l:=congrArg GP.lks h
 have e3:c.cds.l.map Sl.l=G.cds.l.map Sl.l:=congrArg GP.cds h
 have e4:c.nts.l.map NoteD.p=G.nts.l.map NoteD.p:=congrArg GP.nts h
 have l3:c.cds.l.length=G.cds.l.length:=by simpa using congrArg List.length e3
 have l4:c.nts.l.length=G.nts.l.length:=by simpa using congrArg List.length e4
 refine ⟨J8o e1 hn.rm,by rw [e2]; exact hn.lks,by rw [l3]; exact hn.cds,by rw [l4]; exact hn.nts,by rw [e2]; exact hn.lk,fun x hx=>?_,fun x hx=>?_⟩
 ·
  have h1:x.l∈c.cds.l.map Sl.l:=List.mem_map.2 ⟨x,hx,rfl⟩
  rw [e3] at h1
  obtain ⟨y,hy,he⟩:=List.mem_map.1 h1
  rw [← he]; exact hn.cd y hy
 have h1:x.p∈c.nts.l.map NoteD.p:=List.mem_map.2 ⟨x,hx,rfl⟩
 rw [e4] at h1
 obtain ⟨y,hy,he⟩:=List.mem_map.1 h1
 have:=hn.nt y hy
 have q1:y.nm=x.nm:=congrArg NoteP.nm he
 have q2:y.wh.l=x.wh.l:=congrArg NoteP.wh he
 have q3:y.cl=x.cl:=congrArg NoteP.cl he
 rw [q1,q2,q3] at this
 exact this
theorem J69:NearG exG:=by
 refine ⟨Kaa,by decide,by decide,by decide,by decide,by decide,?_⟩
 decide
theorem Ju7 (c:Clue) (gv:Value) (w:World) (h1:SlI w gv c.g) (hm:c.g.length≤1000) :
  Calls Tryz.prog 42 #[.agg #[.int .i64 c.k,.int .i64 c.a,.int .i64 c.b,.int .i64 c.n,.int .i64 c.m,gv,.bool c.nt]] w (fun e w'=>∃ v:Value,(v.oneCell'=true∧∃ u0,SlI u0 v c.g)∧RetF w (.agg #[.int .i64 c.k,.int .i64 c.a,.int .i64 c.b,.int .i64 c.n,.int .i64 c.m,v,.bool c.nt]) (Go.Proofs.YtbboikncaihafaaGreatDoor.roI v c.g) e w'):=by
 have hg1:=h1.one1
 refine enter Tryz.func42 rfl rfl (Nat.le_of_ble_eq_true rfl) ?_
 refine Nz 0 ?_
 refine Wb 0 rfl rfl (fun _=>rfl) (fun _=>rfl) fun b1 hb1=>?_
 refine Wl 0 zv92 (fun _=>rfl) (fun _=>rfl) fun b2 hb2=>?_
 refine Wd (Qc (Nz 0 ?_))
 refine WS.build0 sl42 zv3 (fun _=>rfl) ?_; intro v3
 refine Wz 1 ?_
 refine Wk 0 (by first | exact Jas (j:=2) rfl rfl rfl tk42 | exact Jax rfl (by assumption) rfl tk42) ?_
 refine WS.append0 (j:=0) (news:=ints c.g) (m:=c.g.length) sl42 zv3 rfl (by decide) rfl rfl rfl (fun u hu=>h1.st hu) (by simp [ints,Value.oneCell']) (by omega) (by omega) (fun _=>rfl) (fun _=>rfl) ?_; intro v6; refine WS.oc (j:=0) rfl (fun hv6=>?_)
 refine Wz 1 ?_
 refine Ws 0 2 ?_
 refine Wd (Qc (Nz 0 ?_))
 refine Wk 0 (by first | exact Jjh rfl (by assumption) (by omega) tk92 | exact Jb7 (j:=2) rfl rfl tk92 | exact Jb1 (j:=2) rfl rfl (by rfl) tk92 | exact Jcb rfl (by assumption) (by rfl) tk92 | exact Jb8 (n:=7) (j:=2) rfl rfl rfl rfl tk92) ?_
 refine Wv 0 1 ?_
 exact Wd (Qc (Cr (outR (resc rfl (Jak (j:=1) rfl rfl tk92)) (fun u hu=>⟨v6,⟨hv6,u,Jad hu (j:=0) rfl⟩,retR (fun S u h=>Star.oints (j:=0) rfl h) u hu⟩))))
end Go.Proofs.YtbboikncaihafaaGreatDoor
