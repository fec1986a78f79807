/- Merged texts of this proof (walks and plain laws), printed by a program of the prover. -/
import Derived.Test.YtbboikncaihafaaGreatDoorXd
import Derived.Test.YtbboikncaihafaaGreatDoorZw
set_option maxHeartbeats 8000000
namespace Go.Proofs.YtbboikncaihafaaGreatDoor
open Go.RowKit Go.Proofs
set_option maxRecDepth 100000
set_option linter.unusedVariables false
set_option linter.unusedSimpArgs false
section
variable {P:Program} {C:World→Prop} {l:List Value} {d:Option Tmp} {ty:TypeId} {ps:String} {af:Array Edge} {g:Option (Nat × Bool)}
theorem J1u {T T':TypeId} {x y:Operand} {fn:Go.Fn} {a c:Array Value} {qs rs:Array TypeId} {vd:Bool} (hx:evo l x=some (.func fn a c)) (hy:evo l y=some .nilFunc) (hT:P.underlying T=some (.func qs rs vd)) :
  Det P C ⟨d,.binOp .neq T x y T',ty,ps,af,g⟩ l (.bool true):=fun u _=>by
 (replace hx:=Jar hx; replace hy:=Jar hy)
 have h:∀ d:Nat,(Op.equalIn (d+1) T (.func fn a c) .nilFunc).run P u = .ok false u:=fun d=>by simp [Op.equalIn,run_underlying hT]
 simp [execOp,Jaq,hx,hy,eqGuard,binOp,Op.equal,Op.maxDepth,h 9999]
end
theorem Jsp {w u:World} (A B:List SA) (G:Game) (hG:GameOk w G) (hn:NearG G) (g:Sl ByteArray) (hW:GOk w g) (fb:Nat) (y:Pos) (f:Film) (hyx:y.x=f.x) (x:Entr) (last n:Int) (hF:FilmOk G f last n) (htm:Jco last x=true) (hnn:n≤1000) (hu:St w.heap.size w (A++[blk fb [G.rm.pls.v,G.rm.ths.v,G.rm.prs.v,G.rm.wys.v,G.rm.acs.v,G.rm.aus.v,.int .i64 G.rm.ply,G.rm.gl.v,G.lks.v,G.cds.v,G.nts.v,.int .i64 G.tr,y.st.ths.v,y.st.prs.v,y.st.pls.v,y.rd.v,.bool f.st,.int .i64 f.si,.int .i64 f.pa,.int .i64 f.en,.int .i64 f.hi] 166,roS fun u=>PosOk u y]++B) u) :
  Calls Tryz.prog 141 #[.pointer (some ⟨fb,0,none⟩),.agg #[.int .i64 x.t,.int .i64 x.k,.int .i64 x.m.p,.int .i64 x.m.k,.int .i64 x.m.n,.int .i64 x.a,.int .i64 x.b]] u (fun e u'=>∃ q:Pos × Film,(q.1.x=q.2.x∧(∃ u0,PosOk u0 q.1)∧∀ f',(Ja2 G.p f x)=some f'→q.2=f')∧e = .returned (.bool (Ja2 G.p f x).isSome)∧St w.heap.size w (A++[blk fb [G.rm.pls.v,G.rm.ths.v,G.rm.prs.v,G.rm.wys.v,G.rm.acs.v,G.rm.aus.v,.int .i64 G.rm.ply,G.rm.gl.v,G.lks.v,G.cds.v,G.nts.v,.int .i64 G.tr,q.1.st.ths.v,q.1.st.prs.v,q.1.st.pls.v,q.1.rd.v,.bool q.2.st,.int .i64 q.2.si,.int .i64 q.2.pa,.int .i64 q.2.en,.int .i64 q.2.hi] 166,roS fun u=>PosOk u q.1]++B) u'):=by
 refine Calls.mono (J6b (star (A++B)) G hG hn g hW fb y f hyx x last n hF htm hnn hu.out2) ?_
 rintro e u' ⟨z,h1,h2,h3⟩
 exact ⟨z,h1,h2,h3.in2⟩
theorem Jgi (G:Game) (w:World) (hG:GameOk w G) (hn:NearG G) (g:Sl ByteArray) (hW:GOk w g) (hB:(Jag G.p).1=0) :
  Calls Tryz.prog 73 #[.agg #[G.rm.pls.v,G.rm.ths.v,G.rm.prs.v,G.rm.wys.v,G.rm.acs.v,G.rm.aus.v,.int .i64 G.rm.ply,G.rm.gl.v,G.lks.v,G.cds.v,G.nts.v,.int .i64 G.tr]] w (fun e w'=>∃ x:Nat × Pos,(x.2.x=(Jag G.p).2∧∃ u0,PosOk u0 x.2)∧RetF w (.tuple #[.pointer (some ⟨x.1,0,none⟩),.int .i64 0]) (star [blk x.1 [G.rm.pls.v,G.rm.ths.v,G.rm.prs.v,G.rm.wys.v,G.rm.acs.v,G.rm.aus.v,.int .i64 G.rm.ply,G.rm.gl.v,G.lks.v,G.cds.v,G.nts.v,.int .i64 G.tr,x.2.st.ths.v,x.2.st.prs.v,x.2.st.pls.v,x.2.rd.v,.bool (Jaz G.p).st,.int .i64 (Jaz G.p).si,.int .i64 (Jaz G.p).pa,.int .i64 (Jaz G.p).en,.int .i64 (Jaz G.p).hi] 166,roS fun u=>PosOk u x.2]) e w'):=by
 have o1:=Sl.one hG.rm.pls
 have o2:=Sl.one hG.rm.ths
 have o3:=Sl.one hG.rm.prs
 have o4:=Sl.one hG.rm.wys
 have o5:=Sl.one hG.rm.acs
 have o6:=Sl.one hG.rm.aus
 have o7:=Sl.one hG.rm.gl
 have o8:=Sl.one hG.lks
 have o9:=Sl.one hG.cds
 have o10:=Sl.one hG.nts
 refine enter Tryz.func73 rfl rfl (Nat.le_of_ble_eq_true rfl) ?_
 refine Nz 0 ?_
 refine Wb 2 rfl rfl (fun _=>rfl) (fun _=>rfl) fun b1 hb1=>?_
 refine Wd (Qc (Nz 0 ?_))
 refine Wk 0 (Bb 0) ?_
 refine Wc rfl rfl Ka9 (fun u hu=>Jrh G u (hG.st hu) g (hW.st hu) hn) (fun _=>rfl) ?_; rintro y ⟨hyx,uy,hyok⟩
 obtain ⟨hya,hyb,hyc⟩:=hyok.st.ones
 have hyd:=Sl.one hyok.rd
 refine Wz 3 ?_
 refine Wl 0 zv47 (fun _=>rfl) (fun _=>rfl) fun b4 hb4=>?_
 refine Wv 1 0 ?_
 refine Wd (Qc (Cs (Nz 2 ?_)))
 refine Wd (Qc (CS.cond rfl ?_ ?_))<;>intro hc1<;>try simp only [bq] at hc1
 ·
  exact absurd hB hc1
 refine Ck (Qc (Nz 0 ?_))
 refine Wk 0 (Bb 2) ?_
 refine Wk 0 (Bb 0) ?_
 refine Wk 0 (Jav J7q Kce (pcs:=[(0,[G.rm.pls.v,G.rm.ths.v,G.rm.prs.v,G.rm.wys.v,G.rm.acs.v,G.rm.aus.v,.int .i64 G.rm.ply,G.rm.gl.v,G.lks.v,G.cds.v,G.nts.v,.int .i64 G.tr]),(1,[y.st.ths.v,y.st.prs.v,y.st.pls.v,y.rd.v]),(5,[.int .i64 (-1)])]) rfl (CellsOf.agg (CellsOf.agg (CellsOf.one rfl CellsOf.nil))) rfl) ?_
 refine Wb 1 rfl rfl (fun _=>rfl) (fun _=>rfl) fun b18 hb18=>?_
 refine Wd (Qc (Cs (Nz 1 ?_)))
 refine Wk 0 (Cb rfl rfl J25 (fun u hu=>J38 G u (hG.st hu) hn g (hW.st hu) y (hu.ro (j:=2) rfl) { (Jaz G.p) with en := -1 } hyx (Je8 hB) b18 _ (Ja0 hu (j:=0) rfl))) ?_
 refine Wd (Qc (CS.cond rfl ?_ ?_))<;>intro hc2<;>try simp only [bq] at hc2
 ·
  have he:(Jaz G.p).en=0:=if_pos hc2
  refine Ny 3 ?_
  refine Ws 0 0 ?_
  refine Wd (Qc (Nz 3 ?_))
  exact Wd (Qc (Cr (out2 rfl rfl rfl (fun u hu=>⟨(b18,y),⟨hyx,uy,hyok⟩,by rw [he]; exact Jj7 (hu.sel [0,1] rfl) (List.Perm.refl _)⟩))))
 have he:(Jaz G.p).en = -1:=if_neg (fun h=>by have h9:Jdu G.p (Jaz G.p).x=true:=h; rw [hc2] at h9; cases h9)
 refine Ck (Qc (Nz 3 ?_))
 exact Wd (Qc (Cr (out2 rfl rfl rfl (fun u hu=>⟨(b18,y),⟨hyx,uy,hyok⟩,by rw [he]; exact Jj7 (hu.sel [0,1] rfl) (List.Perm.refl _)⟩))))
theorem Jhu (G:Game) (w:World) (hG:GameOk w G) (hn:NearG G) (g:Sl ByteArray) (hW:GOk w g) (hB:¬ (Jag G.p).1=0) :
  Calls Tryz.prog 73 #[.agg #[G.rm.pls.v,G.rm.ths.v,G.rm.prs.v,G.rm.wys.v,G.rm.acs.v,G.rm.aus.v,.int .i64 G.rm.ply,G.rm.gl.v,G.lks.v,G.cds.v,G.nts.v,.int .i64 G.tr]] w (RetB w (.tuple #[.pointer none,.int .i64 (Jag G.p).1])):=by
 have o1:=Sl.one hG.rm.pls
 have o2:=Sl.one hG.rm.ths
 have o3:=Sl.one hG.rm.prs
 have o4:=Sl.one hG.rm.wys
 have o5:=Sl.one hG.rm.acs
 have o6:=Sl.one hG.rm.aus
 have o7:=Sl.one hG.rm.gl
 have o8:=Sl.one hG.lks
 have o9:=Sl.one hG.cds
 have o10:=Sl.one hG.nts
 refine enter Tryz.func73 rfl rfl (Nat.le_of_ble_eq_true rfl) ?_
 refine Nz 0 ?_
 refine Wb 2 rfl rfl (fun _=>rfl) (fun _=>rfl) fun b1 hb1=>?_
 refine Wd (Qc (Nz 0 ?_))
 refine Wk 0 (Bb 0) ?_
 refine Wc rfl rfl Ka9 (fun u hu=>Jrh G u (hG.st hu) g (hW.st hu) hn) (fun _=>rfl) ?_; rintro y ⟨hyx,uy,hyok⟩
 obtain ⟨hya,hyb,hyc⟩:=hyok.st.ones
 have hyd:=Sl.one hyok.rd
 refine Wz 3 ?_
 refine Wl 0 zv47 (fun _=>rfl) (fun _=>rfl) fun b4 hb4=>?_
 refine Wv 1 0 ?_
 refine Wd (Qc (Cs (Nz 2 ?_)))
 refine Wd (Qc (CS.cond rfl ?_ ?_))<;>intro hc1<;>try simp only [bq] at hc1
 ·
  refine Nz 3 ?_
  exact Wd (Qc (Cr (Qr (out2 rfl rfl rfl (Jab rfl)))))
 exact absurd hc1 hB
theorem J28 {w u:World} (R:SA) (Z:List (List Int)→SA) (G:Game) (hG:GameOk w G) (hn:NearG G) (g:Sl ByteArray) (hW:GOk w g) (fb:Nat) (y:Pos) (hyx:y.x=(Jag G.p).2) (hB:(Jag G.p).1=0) (l:Sl Entr) (hk:SlT cEntry w l) (fn:FuncId) (cap:List Value) (hent:Ent Tryz.prog fn) (hmv:∀ (acc:List (List Int)) (y:Pos) (f:Film) (u:World),y.x=f.x→posG G.p f.x=0→acc.length≤1000→St w.heap.size w [blk fb [G.rm.pls.v,G.rm.ths.v,G.rm.prs.v,G.rm.wys.v,G.rm.acs.v,G.rm.aus.v,.int .i64 G.rm.ply,G.rm.gl.v,G.lks.v,G.cds.v,G.nts.v,.int .i64 G.tr,y.st.ths.v,y.st.prs.v,y.st.pls.v,y.rd.v,.bool f.st,.int .i64 f.si,.int .i64 f.pa,.int .i64 f.en,.int .i64 f.hi] 166,roS fun u=>PosOk u y,Z acc,R] u→Calls Tryz.prog fn cap.toArray u (fun e u'=>e = .returned (.tuple #[])∧St w.heap.size w [blk fb [G.rm.pls.v,G.rm.ths.v,G.rm.prs.v,G.rm.wys.v,G.rm.acs.v,G.rm.aus.v,.int .i64 G.rm.ply,G.rm.gl.v,G.lks.v,G.cds.v,G.nts.v,.int .i64 G.tr,y.st.ths.v,y.st.prs.v,y.st.pls.v,y.rd.v,.bool f.st,.int .i64 f.si,.int .i64 f.pa,.int .i64 f.en,.int .i64 f.hi] 166,roS fun u=>PosOk u y,Z (acc++[f.x.1.1]),R] u')) (hu:St w.heap.size w [blk fb [G.rm.pls.v,G.rm.ths.v,G.rm.prs.v,G.rm.wys.v,G.rm.acs.v,G.rm.aus.v,.int .i64 G.rm.ply,G.rm.gl.v,G.lks.v,G.cds.v,G.nts.v,.int .i64 G.tr,y.st.ths.v,y.st.prs.v,y.st.pls.v,y.rd.v,.bool (Jaz G.p).st,.int .i64 (Jaz G.p).si,.int .i64 (Jaz G.p).pa,.int .i64 (Jaz G.p).en,.int .i64 (Jaz G.p).hi] 166,roS fun u=>PosOk u y,Z [],R] u) :
  Calls Tryz.prog 87 #[.pointer (some ⟨fb,0,none⟩),l.v,.func (.func fn) #[] cap.toArray] u (fun e u'=>∃ q:Pos × Film × List (List Int),(q.1.x=q.2.1.x∧(∃ u0,PosOk u0 q.1)∧((Jae G.p l.l).1=0→q.2.1=(Jae G.p l.l).2.2∧q.2.2=Jdz G.p l.l (Jaz G.p)))∧e = .returned (.tuple #[.int .i64 (Jae G.p l.l).2.1,.int .i64 (Jae G.p l.l).1])∧St w.heap.size w [blk fb [G.rm.pls.v,G.rm.ths.v,G.rm.prs.v,G.rm.wys.v,G.rm.acs.v,G.rm.aus.v,.int .i64 G.rm.ply,G.rm.gl.v,G.lks.v,G.cds.v,G.nts.v,.int .i64 G.tr,q.1.st.ths.v,q.1.st.prs.v,q.1.st.pls.v,q.1.rd.v,.bool q.2.1.st,.int .i64 q.2.1.si,.int .i64 q.2.1.pa,.int .i64 q.2.1.en,.int .i64 q.2.1.hi] 166,roS fun u=>PosOk u q.1,Z q.2.2,R] u'):=by
 have lls:=hk.le
 have hyok:PosOk u y:=hu.ro (j:=1) rfl
 refine Jb0 hu Tryz.func87 rfl rfl (Nat.le_of_ble_eq_true rfl) ?_
 refine Nz 2 ?_
 refine Wd (Qc (Cs (Nz 1 ?_)))
 refine Wk 1 Nc ?_
 refine Wd (Qc (CS.cond rfl ?_ ?_))<;>intro hc1<;>try simp only [bq] at hc1
 ·
  have hfv:(Jae G.p l.l)=(2,0,Jaz G.p):=Jqa hB (by omega)
  refine Nz 2 ?_
  exact Wd (Qc (Cr (Qr (out2 rfl rfl rfl (fun u hu=>⟨(y,(Jaz G.p),[]),⟨hyx,⟨u,hu.ro (j:=1) rfl⟩,fun h9 ↦ by rw [hfv] at h9; simp at h9⟩,by rw [hfv],hu.sel [0,0,0,0] rfl⟩)))))
 have hL:¬ 500 < (l.l.length:Int):=by omega
 refine Ck (Qc (Nz 1 ?_))
 refine Wd (Qc (Cs (Nz 1 ?_)))
 refine Wk 1 Nc ?_
 refine Wd (Qc (Ce ?_))
 refine CS.loopM (σ:=Int × Pos × Film × Int × List (List Int)) [6,7,9,10,17,18,19,20,21,22,23,24,25,26,27,28,29,30,31,32,33,34,35,36,37,38,39,40,41,42,43,44] (fun s=>[(16,.int .i64 s.1),(8,.int .i64 s.2.2.2.1)]) (fun s=>[blk fb [G.rm.pls.v,G.rm.ths.v,G.rm.prs.v,G.rm.wys.v,G.rm.acs.v,G.rm.aus.v,.int .i64 G.rm.ply,G.rm.gl.v,G.lks.v,G.cds.v,G.nts.v,.int .i64 G.tr,s.2.1.st.ths.v,s.2.1.st.prs.v,s.2.1.st.pls.v,s.2.1.rd.v,.bool s.2.2.1.st,.int .i64 s.2.2.1.si,.int .i64 s.2.2.1.pa,.int .i64 s.2.2.1.en,.int .i64 s.2.2.1.hi] 166,roS fun u=>PosOk u s.2.1,Z s.2.2.2.2,R]) (fun s=>0≤s.1∧s.1≤l.l.length∧(∃ u0,PosOk u0 s.2.1)∧s.2.1.x=s.2.2.1.x∧FilmOk G s.2.2.1 s.2.2.2.1 s.1∧Jcp G.p l.l 0 0 (Jaz G.p)=Jcp G.p (l.l.drop s.1.toNat) s.1 s.2.2.2.1 s.2.2.1∧Jdz G.p l.l (Jaz G.p)=s.2.2.2.2++Jdz G.p (l.l.drop s.1.toNat) s.2.2.1∧s.2.2.2.2.length≤s.1.toNat) (fun s=>(l.l.length - s.1).toNat) (0,y,Jaz G.p,0,[]) (fun _ _=>rfl) rfl rfl ⟨by simp,by simp,⟨_,hyok⟩,hyx,Jgn hB,by simp,by simp,by simp⟩ ?_
 intro s t hs
 obtain ⟨hs1,hs2,⟨us,hsok⟩,hs4,hs5,hs6,hs7,hs8⟩:=hs
 refine Nz 1 ?_
 refine Wd (Qc (Cs (CS.cond rfl ?_ ?_)))<;>intro hc2<;>try simp only [bq] at hc2
 ·
  refine Ck (Qc (Cs (Ce (Nz 1 ?_))))
  refine Wk 0 Xc ?_
  refine Wk 0 Ua ?_
  refine Wl 1 zv84 (fun _=>rfl) (fun _=>rfl) fun b10 hb10=>?_
  refine Wv 0 0 ?_
  refine Wd (Qc (Cs (Cs ?_)))
  rcases Bool.eq_false_or_eq_true (!(decide (s.2.2.2.1≤(nth l.l s.1).t) && decide ((nth l.l s.1).t≤1000000))) with hb | hb
  ·
   refine Ny 1 ?_
   refine Wk 1 (Ba 0) ?_
   refine Wk 1 (Cb rfl rfl Jk7 (fun u hu=>Jc3 _ _ _ u)) ?_
   refine Wk 0 (Jaw (v:=.bool true) (congrArg (fun b=>some (Value.bool b)) hb)) ?_
   refine Wf 0 rfl rfl (fun hg=>Fy_ (by cases hg)) ?_
   refine Wf 0 rfl rfl (fun hg=>Fy_ (by cases hg)) ?_
   refine Wf 0 rfl rfl (fun hg=>Fy_ (by cases hg)) ?_
   refine Wf 0 rfl rfl (fun hg=>Fz_ (by cases hg)) ?_
   refine Wk 0 Po ?_
   refine Wd (Qc (CS.cond rfl ?_ ?_))<;>intro hc3<;>try simp only [bq] at hc3
   ·
    have hTn:Jco s.2.2.2.1 (nth l.l s.1)=false:=by unfold Jco; simp at hb ⊢; omega
    have hbd:(Jco s.2.2.2.1 (nth l.l s.1) && (Ja2 G.p s.2.2.1 (nth l.l s.1)).isSome)=false:=by rw [hTn]; rfl
    have hfv:(Jae G.p l.l)=(120,s.1,Jaz G.p):=Jkx hB hL (by rw [hs6,Jat hs1 (by omega),Jgf hbd])
    refine Nz 3 ?_
    exact Wd (Qc (Cr (Qr (Qs (Qr (Qr (Qs (Qr (out2 rfl rfl rfl (fun u hu=>(by first | exact ⟨(s.2.1,s.2.2.1,s.2.2.2.2),⟨hs4,⟨u,hu.ro (j:=2) rfl⟩,fun h9 ↦ by rw [hfv] at h9; simp at h9⟩,by rw [hfv],hu.sel [1,1,1,1] rfl⟩ | exact ⟨(y2,f2,s.2.2.2.2),⟨hy2x,⟨u,hu.ro (j:=2) rfl⟩,fun h9 ↦ by rw [hfv] at h9; simp at h9⟩,by rw [hfv],hu.sel [1,1,1,1] rfl⟩)))))))))))
   exact absurd hc3 (by simp)
  have hT:Jco s.2.2.2.1 (nth l.l s.1)=true:=by unfold Jco; simpa using hb
  refine Ny 1 ?_
  refine Wk 1 (Ba 0) ?_
  refine Wk 1 (Cb rfl rfl Jk7 (fun u hu=>Jc3 _ _ _ u)) ?_
  refine Wk 0 (Jaw (v:=.bool false) (congrArg (fun b=>some (Value.bool b)) hb)) ?_
  refine Wf 0 rfl rfl (fun hg=>Fm) ?_
  refine Wf 0 rfl rfl (fun hg=>Bb 0) ?_
  refine WS.callSg (want:=false) (j:=5) rfl rfl rfl J3z (fun u hu=>Jsp [_] [_,_] G hG hn g hW fb s.2.1 s.2.2.1 hs4 (nth l.l s.1) s.2.2.2.1 s.1 hs5 hT (by omega) hu) (fun _=>rfl) ?_; rintro ⟨y2,f2⟩ ⟨hy2x,⟨uy2,hy2ok⟩,hf2⟩
  dsimp only at hf2 hy2x hy2ok
  refine Wf 0 rfl rfl (fun hg=>Fn) ?_
  refine Wk 0 Po ?_
  refine Wd (Qc (CS.cond rfl ?_ ?_))<;>intro hc3<;>try simp only [bq] at hc3
  ·
   have hbd:(Jco s.2.2.2.1 (nth l.l s.1) && (Ja2 G.p s.2.2.1 (nth l.l s.1)).isSome)=false:=by rw [hT,Bool.true_and]; simpa using hc3
   have hfv:(Jae G.p l.l)=(120,s.1,Jaz G.p):=Jkx hB hL (by rw [hs6,Jat hs1 (by omega),Jgf hbd])
   refine Nz 3 ?_
   exact Wd (Qc (Cr (Qr (Qs (Qr (Qr (Qs (Qr (out2 rfl rfl rfl (fun u hu=>(by first | exact ⟨(s.2.1,s.2.2.1,s.2.2.2.2),⟨hs4,⟨u,hu.ro (j:=2) rfl⟩,fun h9 ↦ by rw [hfv] at h9; simp at h9⟩,by rw [hfv],hu.sel [1,1,1,1] rfl⟩ | exact ⟨(y2,f2,s.2.2.2.2),⟨hy2x,⟨u,hu.ro (j:=2) rfl⟩,fun h9 ↦ by rw [hfv] at h9; simp at h9⟩,by rw [hfv],hu.sel [1,1,1,1] rfl⟩)))))))))))
  have hgd:(Ja2 G.p s.2.2.1 (nth l.l s.1)).isSome=true:=by first | exact hc3 | simpa using hc3
  obtain ⟨f3,hf3⟩:=Option.isSome_iff_exists.1 hgd
  obtain rfl:=hf2 f3 hf3
  have hF2:=hs5.next hT hf3
  refine Ck (Qc (Nz 1 ?_))
  refine Wk 1 (Ba 0) ?_
  refine Wd (Qc (Nz 1 ?_))
  refine Wk 2 (Ba 0) ?_
  refine Wt 0 rfl rfl (fun hg=>Fm) ?_
  refine Wt 0 rfl rfl (fun hg=>J1u (eg_ hg rfl) rfl Tryz.underlying1) ?_
  refine Wk 0 Pa ?_
  refine Wd (Qc (CS.cond rfl ?_ ?_))<;>intro hc4<;>try simp only [bq] at hc4
  ·
   have hk1:(nth l.l s.1).k=1:=by first | exact hc4 | simpa using hc4
   refine Ny 1 ?_
   refine WS.sel [1,1,1,1] rfl ?_
   refine WS.callS (β:=Unit) (p:=fun _=>True) (v:=fun _=>.tuple #[]) (L':=fun _=>[blk fb [G.rm.pls.v,G.rm.ths.v,G.rm.prs.v,G.rm.wys.v,G.rm.acs.v,G.rm.aus.v,.int .i64 G.rm.ply,G.rm.gl.v,G.lks.v,G.cds.v,G.nts.v,.int .i64 G.tr,y2.st.ths.v,y2.st.prs.v,y2.st.pls.v,y2.rd.v,.bool f2.st,.int .i64 f2.si,.int .i64 f2.pa,.int .i64 f2.en,.int .i64 f2.hi] 166,roS fun u=>PosOk u y2,Z (s.2.2.2.2++[f2.x.1.1]),R]) rfl rfl hent (fun u hu=>Calls.mono (hmv s.2.2.2.2 y2 f2 u hy2x hF2.pos (by omega) hu) fun e u2 h=>⟨(),trivial,h.1,h.2⟩) (fun _=>rfl) ?_; rintro ⟨⟩ -
   refine Wd (Qb (Qc (Ny 0 ?_)))
   refine Wk 1 Za ?_
   exact Wd (QS.head ((s.1+1,y2,f2,(nth l.l s.1).t,s.2.2.2.2++[f2.x.1.1])) rfl rfl ⟨⟨by simp; omega,by simp; omega,⟨_,hy2ok⟩,hy2x,hF2,by rw [hs6,Jat hs1 (by omega),Jfa hT hf3],by rw [hs7,Jat hs1 (by omega),Jqd hf3 hk1,List.append_assoc]; rfl,by simp; omega⟩,by simp; omega⟩)
  have hk1:¬ (nth l.l s.1).k=1:=by first | exact hc4 | simpa using hc4
  refine Ck (Qb (Qc (Ny 0 ?_)))
  refine Wk 1 Za ?_
  refine Wd ?_
  refine QS.sel [1,1,1,1] rfl ?_
  exact QS.head ((s.1+1,y2,f2,(nth l.l s.1).t,s.2.2.2.2)) rfl rfl ⟨⟨by simp; omega,by simp; omega,⟨_,hy2ok⟩,hy2x,hF2,by rw [hs6,Jat hs1 (by omega),Jfa hT hf3],by rw [hs7,Jat hs1 (by omega),Jps hf3 hk1],by simp; omega⟩,by simp; omega⟩
 have hrl:Jcp G.p l.l 0 0 (Jaz G.p) = .ok s.2.2.1:=by rw [hs6,List.drop_of_length_le (by omega),Jcp]
 have hfv:(Jae G.p l.l)=(0,0,s.2.2.1):=Jms hB hL hrl
 refine Cv (Qe (Qe (Qx (Qc (Nz 2 ?_)))))
 exact Wd (Qc (Cr (out2 rfl rfl rfl (fun u hu=>⟨(s.2.1,s.2.2.1,s.2.2.2.2),⟨hs4,⟨u,hu.ro (j:=1) rfl⟩,fun h9 ↦ by rw [hfv]; exact ⟨rfl,by rw [hs7,List.drop_of_length_le (by omega),Jdz,List.append_nil]⟩⟩,by rw [hfv],hu.sel [0,0,0,0] rfl⟩))))
theorem Jsy {w u:World} (Z:List (List Int)→SA) (R:SA) (G:Game) (fb b5 b8:Nat) (y:Pos) (f:Film) (hyx:y.x=f.x) (hq:posG G.p f.x=0) (acc:List (List Int)) (hac:acc.length≤1000) (fn:FuncId) (cap:List Value) (hent:Ent Tryz.prog fn) (hmv:∀ (R:SA) (fb:Nat) (acc:List (List Int)) (y:Pos) (f:Film) (u:World),y.x=f.x→posG G.p f.x=0→acc.length≤1000→St w.heap.size w [blk fb [G.rm.pls.v,G.rm.ths.v,G.rm.prs.v,G.rm.wys.v,G.rm.acs.v,G.rm.aus.v,.int .i64 G.rm.ply,G.rm.gl.v,G.lks.v,G.cds.v,G.nts.v,.int .i64 G.tr,y.st.ths.v,y.st.prs.v,y.st.pls.v,y.rd.v,.bool f.st,.int .i64 f.si,.int .i64 f.pa,.int .i64 f.en,.int .i64 f.hi] 166,roS fun u=>PosOk u y,Z acc,R] u→Calls Tryz.prog fn (.pointer (some ⟨fb,0,none⟩)::cap).toArray u (fun e u'=>e = .returned (.tuple #[])∧St w.heap.size w [blk fb [G.rm.pls.v,G.rm.ths.v,G.rm.prs.v,G.rm.wys.v,G.rm.acs.v,G.rm.aus.v,.int .i64 G.rm.ply,G.rm.gl.v,G.lks.v,G.cds.v,G.nts.v,.int .i64 G.tr,y.st.ths.v,y.st.prs.v,y.st.pls.v,y.rd.v,.bool f.st,.int .i64 f.si,.int .i64 f.pa,.int .i64 f.en,.int .i64 f.hi] 166,roS fun u=>PosOk u y,Z (acc++[f.x.1.1]),R] u')) (hu:St w.heap.size w [blk fb [G.rm.pls.v,G.rm.ths.v,G.rm.prs.v,G.rm.wys.v,G.rm.acs.v,G.rm.aus.v,.int .i64 G.rm.ply,G.rm.gl.v,G.lks.v,G.cds.v,G.nts.v,.int .i64 G.tr,y.st.ths.v,y.st.prs.v,y.st.pls.v,y.rd.v,.bool f.st,.int .i64 f.si,.int .i64 f.pa,.int .i64 f.en,.int .i64 f.hi] 166,roS fun u=>PosOk u y,Z acc,star [blk b8 [.pointer (some ⟨fb,0,none⟩)] 150,blk b5 [.func (.func fn) #[] cap.toArray] 154,R]] u) :
  Calls Tryz.prog 135 #[.pointer (some ⟨b5,0,none⟩),.pointer (some ⟨b8,0,none⟩)] u (fun e u'=>e = .returned (.tuple #[])∧St w.heap.size w [blk fb [G.rm.pls.v,G.rm.ths.v,G.rm.prs.v,G.rm.wys.v,G.rm.acs.v,G.rm.aus.v,.int .i64 G.rm.ply,G.rm.gl.v,G.lks.v,G.cds.v,G.nts.v,.int .i64 G.tr,y.st.ths.v,y.st.prs.v,y.st.pls.v,y.rd.v,.bool f.st,.int .i64 f.si,.int .i64 f.pa,.int .i64 f.en,.int .i64 f.hi] 166,roS fun u=>PosOk u y,Z (acc++[f.x.1.1]),star [blk b8 [.pointer (some ⟨fb,0,none⟩)] 150,blk b5 [.func (.func fn) #[] cap.toArray] 154,R]] u'):=by
 refine Jb0 (hu.sel [3,0,0,0] rfl).unpack Tryz.func135 rfl rfl (Nat.le_of_ble_eq_true rfl) ?_
 refine Ny 0 ?_
 refine Wk 0 (Ba 1) ?_
 refine Wk 0 (Ba 0) ?_
 refine WS.callS (β:=Unit) (p:=fun _=>True) (v:=fun _=>.tuple #[]) (L':=fun _=>[blk fb [G.rm.pls.v,G.rm.ths.v,G.rm.prs.v,G.rm.wys.v,G.rm.acs.v,G.rm.aus.v,.int .i64 G.rm.ply,G.rm.gl.v,G.lks.v,G.cds.v,G.nts.v,.int .i64 G.tr,y.st.ths.v,y.st.prs.v,y.st.pls.v,y.rd.v,.bool f.st,.int .i64 f.si,.int .i64 f.pa,.int .i64 f.en,.int .i64 f.hi] 166,roS fun u=>PosOk u y,Z (acc++[f.x.1.1]),star [blk b8 [.pointer (some ⟨fb,0,none⟩)] 150,blk b5 [.func (.func fn) #[] cap.toArray] 154,R]]) rfl rfl hent (fun u hu=>Calls.mono (hmv _ fb acc y f u hyx hq hac ((St.pack (L1:=[_,_,_]) hu).sel [1,1,1,0] rfl)) fun e u2 h=>⟨(),trivial,h.1,h.2⟩) (fun _=>rfl) ?_; rintro ⟨⟩ -
 exact Wd (out0 (Or.inr rfl) rfl (fun u hu=>⟨rfl,hu⟩))
theorem Jzk {w u:World} (Z:List (List Int)→SA) (R:SA) (G:Game) (hG:GameOk w G) (hn:NearG G) (g:Sl ByteArray) (hW:GOk w g) (l:Sl Entr) (hk:SlT cEntry w l) (fn:FuncId) (cap:List Value) (hent:Ent Tryz.prog fn) (hmv:∀ (R:SA) (fb:Nat) (acc:List (List Int)) (y:Pos) (f:Film) (u:World),y.x=f.x→posG G.p f.x=0→acc.length≤1000→St w.heap.size w [blk fb [G.rm.pls.v,G.rm.ths.v,G.rm.prs.v,G.rm.wys.v,G.rm.acs.v,G.rm.aus.v,.int .i64 G.rm.ply,G.rm.gl.v,G.lks.v,G.cds.v,G.nts.v,.int .i64 G.tr,y.st.ths.v,y.st.prs.v,y.st.pls.v,y.rd.v,.bool f.st,.int .i64 f.si,.int .i64 f.pa,.int .i64 f.en,.int .i64 f.hi] 166,roS fun u=>PosOk u y,Z acc,R] u→Calls Tryz.prog fn (.pointer (some ⟨fb,0,none⟩)::cap).toArray u (fun e u'=>e = .returned (.tuple #[])∧St w.heap.size w [blk fb [G.rm.pls.v,G.rm.ths.v,G.rm.prs.v,G.rm.wys.v,G.rm.acs.v,G.rm.aus.v,.int .i64 G.rm.ply,G.rm.gl.v,G.lks.v,G.cds.v,G.nts.v,.int .i64 G.tr,y.st.ths.v,y.st.prs.v,y.st.pls.v,y.rd.v,.bool f.st,.int .i64 f.si,.int .i64 f.pa,.int .i64 f.en,.int .i64 f.hi] 166,roS fun u=>PosOk u y,Z (acc++[f.x.1.1]),R] u')) (hE:(Jae G.p l.l).1=0) (hu:St w.heap.size w [Z [],R] u) :
  Calls Tryz.prog 74 #[.agg #[G.rm.pls.v,G.rm.ths.v,G.rm.prs.v,G.rm.wys.v,G.rm.acs.v,G.rm.aus.v,.int .i64 G.rm.ply,G.rm.gl.v,G.lks.v,G.cds.v,G.nts.v,.int .i64 G.tr],l.v,.func (.func fn) #[] cap.toArray] u (fun e u'=>∃ x:Nat × Pos,(x.2.x=(Jae G.p l.l).2.2.x∧∃ u0,PosOk u0 x.2)∧e = .returned (.tuple #[.pointer (some ⟨x.1,0,none⟩),.int .i64 0])∧St w.heap.size w ([blk x.1 [G.rm.pls.v,G.rm.ths.v,G.rm.prs.v,G.rm.wys.v,G.rm.acs.v,G.rm.aus.v,.int .i64 G.rm.ply,G.rm.gl.v,G.lks.v,G.cds.v,G.nts.v,.int .i64 G.tr,x.2.st.ths.v,x.2.st.prs.v,x.2.st.pls.v,x.2.rd.v,.bool (Jae G.p l.l).2.2.st,.int .i64 (Jae G.p l.l).2.2.si,.int .i64 (Jae G.p l.l).2.2.pa,.int .i64 (Jae G.p l.l).2.2.en,.int .i64 (Jae G.p l.l).2.2.hi] 166,roS fun u=>PosOk u x.2,Z (Jdz G.p l.l (Jaz G.p)),R]) u'):=by
 have hB:=(Jhg hE).1
 refine Jb0 hu Tryz.func74 rfl rfl (Nat.le_of_ble_eq_true rfl) ?_
 refine Nz 0 ?_
 refine Wb 0 rfl rfl (fun _=>rfl) (fun _=>rfl) fun b3 hb3=>?_
 refine Wb 2 rfl rfl (fun _=>rfl) (fun _=>rfl) fun b5 hb5=>?_
 refine Wd (Qc (Nz 0 ?_))
 refine Wk 0 (Bb 1) ?_
 refine Wc rfl rfl Jmb (fun u hu=>Jgi G u (hG.st hu) hn g (hW.st hu) hB) (fun _=>rfl) ?_; rintro ⟨fb,y⟩ ⟨hyx,uy,hyok⟩
 refine WS.unpack ?_
 refine Wz 3 ?_
 refine Wl 0 J6v (fun _=>rfl) (fun _=>rfl) fun b8 hb8=>?_
 refine Ws 1 0 ?_
 refine Wd (Qc (Cs (Nz 2 ?_)))
 refine Wd (Qc (CS.cond rfl ?_ ?_))<;>intro hc1<;>try simp only [bq] at hc1
 ·
  exact absurd trivial hc1
 refine Ck (Qc (Cs (Nz 0 ?_)))
 refine Wk 1 (Ba 0) ?_
 refine Wk 0 (Jal rfl) ?_
 refine WS.sel [4,5,1,1,2,0,0] rfl ?_
 refine WS.weak (fun u hu=>St.pack (L1:=[_,_]) hu) ?_
 refine WS.sel [4,4,0,0,0,0] rfl ?_
 refine WS.weak (fun u hu=>St.pack (L1:=[_,_,_]) hu) ?_
 refine WS.sel [1,1,1,0] rfl ?_
 refine WS.callS rfl rfl J47 (fun u hu=>J28 _ Z G hG hn g hW fb y hyx hB l hk 135 [.pointer (some ⟨b5,0,none⟩),.pointer (some ⟨b8,0,none⟩)] J33 (fun acc y f u hyx hq hac hu=>Jsy Z _ G fb b5 b8 y f hyx hq acc hac fn cap hent hmv hu) hu) (fun _=>rfl) ?_; rintro ⟨y2,f2,rows⟩ ⟨hy2x,⟨uy2,hy2ok⟩,hfin⟩
 dsimp only at hfin hy2x hy2ok
 refine WS.sel [3,0,0,0] rfl ?_
 refine WS.unpack ?_
 refine Wz 5 ?_
 refine Wd (Qc (Nz 2 ?_))
 refine Wd (Qc (CS.cond rfl ?_ ?_))<;>intro hc2<;>try simp only [bq] at hc2
 ·
  exact absurd hE hc2
 obtain ⟨rfl,rfl⟩:=hfin hE
 refine Ck (Qc (Nz 0 ?_))
 refine Wk 2 (Ba 0) ?_
 exact Wd (Qc (Cr (out2 rfl rfl rfl (fun u hu=>⟨(fb,y2),⟨hy2x,uy2,hy2ok⟩,rfl,(((hu.sel [2,2,2,2] rfl).unpack).sel [2,2,2,1] rfl)⟩))))
theorem Ju9 {w u:World} (Z:List (List Int)→SA) (R:SA) (G:Game) (hG:GameOk w G) (hn:NearG G) (g:Sl ByteArray) (hW:GOk w g) (l:Sl Entr) (hk:SlT cEntry w l) (fn:FuncId) (cap:List Value) (hent:Ent Tryz.prog fn) (hmv:∀ (R:SA) (fb:Nat) (acc:List (List Int)) (y:Pos) (f:Film) (u:World),y.x=f.x→posG G.p f.x=0→acc.length≤1000→St w.heap.size w [blk fb [G.rm.pls.v,G.rm.ths.v,G.rm.prs.v,G.rm.wys.v,G.rm.acs.v,G.rm.aus.v,.int .i64 G.rm.ply,G.rm.gl.v,G.lks.v,G.cds.v,G.nts.v,.int .i64 G.tr,y.st.ths.v,y.st.prs.v,y.st.pls.v,y.rd.v,.bool f.st,.int .i64 f.si,.int .i64 f.pa,.int .i64 f.en,.int .i64 f.hi] 166,roS fun u=>PosOk u y,Z acc,R] u→Calls Tryz.prog fn (.pointer (some ⟨fb,0,none⟩)::cap).toArray u (fun e u'=>e = .returned (.tuple #[])∧St w.heap.size w [blk fb [G.rm.pls.v,G.rm.ths.v,G.rm.prs.v,G.rm.wys.v,G.rm.acs.v,G.rm.aus.v,.int .i64 G.rm.ply,G.rm.gl.v,G.lks.v,G.cds.v,G.nts.v,.int .i64 G.tr,y.st.ths.v,y.st.prs.v,y.st.pls.v,y.rd.v,.bool f.st,.int .i64 f.si,.int .i64 f.pa,.int .i64 f.en,.int .i64 f.hi] 166,roS fun u=>PosOk u y,Z (acc++[f.x.1.1]),R] u')) (hE:¬ (Jae G.p l.l).1=0) (hB:(Jag G.p).1=0) (hu:St w.heap.size w [Z [],R] u) :
  Calls Tryz.prog 74 #[.agg #[G.rm.pls.v,G.rm.ths.v,G.rm.prs.v,G.rm.wys.v,G.rm.acs.v,G.rm.aus.v,.int .i64 G.rm.ply,G.rm.gl.v,G.lks.v,G.cds.v,G.nts.v,.int .i64 G.tr],l.v,.func (.func fn) #[] cap.toArray] u (fun e u'=>∃ acc:List (List Int),True∧e = .returned (.tuple #[.pointer none,.int .i64 (Jae G.p l.l).1])∧St w.heap.size w ([Z acc,R]) u'):=by
 refine Jb0 hu Tryz.func74 rfl rfl (Nat.le_of_ble_eq_true rfl) ?_
 refine Nz 0 ?_
 refine Wb 0 rfl rfl (fun _=>rfl) (fun _=>rfl) fun b3 hb3=>?_
 refine Wb 2 rfl rfl (fun _=>rfl) (fun _=>rfl) fun b5 hb5=>?_
 refine Wd (Qc (Nz 0 ?_))
 refine Wk 0 (Bb 1) ?_
 refine Wc rfl rfl Jmb (fun u hu=>Jgi G u (hG.st hu) hn g (hW.st hu) hB) (fun _=>rfl) ?_; rintro ⟨fb,y⟩ ⟨hyx,uy,hyok⟩
 refine WS.unpack ?_
 refine Wz 3 ?_
 refine Wl 0 J6v (fun _=>rfl) (fun _=>rfl) fun b8 hb8=>?_
 refine Ws 1 0 ?_
 refine Wd (Qc (Cs (Nz 2 ?_)))
 refine Wd (Qc (CS.cond rfl ?_ ?_))<;>intro hc1<;>try simp only [bq] at hc1
 ·
  exact absurd trivial hc1
 refine Ck (Qc (Cs (Nz 0 ?_)))
 refine Wk 1 (Ba 0) ?_
 refine Wk 0 (Jal rfl) ?_
 refine WS.sel [4,5,1,1,2,0,0] rfl ?_
 refine WS.weak (fun u hu=>St.pack (L1:=[_,_]) hu) ?_
 refine WS.sel [4,4,0,0,0,0] rfl ?_
 refine WS.weak (fun u hu=>St.pack (L1:=[_,_,_]) hu) ?_
 refine WS.sel [1,1,1,0] rfl ?_
 refine WS.callS rfl rfl J47 (fun u hu=>J28 _ Z G hG hn g hW fb y hyx hB l hk 135 [.pointer (some ⟨b5,0,none⟩),.pointer (some ⟨b8,0,none⟩)] J33 (fun acc y f u hyx hq hac hu=>Jsy Z _ G fb b5 b8 y f hyx hq acc hac fn cap hent hmv hu) hu) (fun _=>rfl) ?_; rintro ⟨y2,f2,rows⟩ ⟨hy2x,⟨uy2,hy2ok⟩,hfin⟩
 dsimp only at hfin hy2x hy2ok
 refine WS.sel [3,0,0,0] rfl ?_
 refine WS.unpack ?_
 refine Wz 5 ?_
 refine Wd (Qc (Nz 2 ?_))
 refine Wd (Qc (CS.cond rfl ?_ ?_))<;>intro hc2<;>try simp only [bq] at hc2
 ·
  refine Nz 3 ?_
  exact Wd (Qc (Cr (Qr (out2 rfl rfl rfl (fun u hu=>⟨rows,trivial,rfl,((((hu.sel [2,2,2,2] rfl).unpack).sel [2,2,2,1] rfl)).sel [2,2] rfl⟩)))))
 exact absurd hc2 hE
theorem Jt0 {w u:World} (Z:List (List Int)→SA) (R:SA) (G:Game) (hG:GameOk w G) (hn:NearG G) (g:Sl ByteArray) (hW:GOk w g) (l:Sl Entr) (hk:SlT cEntry w l) (fn:FuncId) (cap:List Value) (hent:Ent Tryz.prog fn) (hmv:∀ (R:SA) (fb:Nat) (acc:List (List Int)) (y:Pos) (f:Film) (u:World),y.x=f.x→posG G.p f.x=0→acc.length≤1000→St w.heap.size w [blk fb [G.rm.pls.v,G.rm.ths.v,G.rm.prs.v,G.rm.wys.v,G.rm.acs.v,G.rm.aus.v,.int .i64 G.rm.ply,G.rm.gl.v,G.lks.v,G.cds.v,G.nts.v,.int .i64 G.tr,y.st.ths.v,y.st.prs.v,y.st.pls.v,y.rd.v,.bool f.st,.int .i64 f.si,.int .i64 f.pa,.int .i64 f.en,.int .i64 f.hi] 166,roS fun u=>PosOk u y,Z acc,R] u→Calls Tryz.prog fn (.pointer (some ⟨fb,0,none⟩)::cap).toArray u (fun e u'=>e = .returned (.tuple #[])∧St w.heap.size w [blk fb [G.rm.pls.v,G.rm.ths.v,G.rm.prs.v,G.rm.wys.v,G.rm.acs.v,G.rm.aus.v,.int .i64 G.rm.ply,G.rm.gl.v,G.lks.v,G.cds.v,G.nts.v,.int .i64 G.tr,y.st.ths.v,y.st.prs.v,y.st.pls.v,y.rd.v,.bool f.st,.int .i64 f.si,.int .i64 f.pa,.int .i64 f.en,.int .i64 f.hi] 166,roS fun u=>PosOk u y,Z (acc++[f.x.1.1]),R] u')) (hB:¬ (Jag G.p).1=0) (hu:St w.heap.size w [Z [],R] u) :
  Calls Tryz.prog 74 #[.agg #[G.rm.pls.v,G.rm.ths.v,G.rm.prs.v,G.rm.wys.v,G.rm.acs.v,G.rm.aus.v,.int .i64 G.rm.ply,G.rm.gl.v,G.lks.v,G.cds.v,G.nts.v,.int .i64 G.tr],l.v,.func (.func fn) #[] cap.toArray] u (fun e u'=>∃ acc:List (List Int),True∧e = .returned (.tuple #[.pointer none,.int .i64 (Jae G.p l.l).1])∧St w.heap.size w ([Z acc,R]) u'):=by
 refine Jb0 hu Tryz.func74 rfl rfl (Nat.le_of_ble_eq_true rfl) ?_
 refine Nz 0 ?_
 refine Wb 0 rfl rfl (fun _=>rfl) (fun _=>rfl) fun b3 hb3=>?_
 refine Wb 2 rfl rfl (fun _=>rfl) (fun _=>rfl) fun b5 hb5=>?_
 refine Wd (Qc (Nz 0 ?_))
 refine Wk 0 (Bb 1) ?_
 refine Wk 3 (Cb rfl rfl Jmb (fun u hu=>Jhu G u (hG.st hu) hn g (hW.st hu) hB)) ?_
 refine Wl 0 J6v (fun _=>rfl) (fun _=>rfl) fun b8 hb8=>?_
 refine Ws 1 0 ?_
 refine Wd (Qc (Cs (Nz 2 ?_)))
 refine Wd (Qc (CS.cond rfl ?_ ?_))<;>intro hc1<;>try simp only [bq] at hc1
 ·
  refine Nz 3 ?_
  exact Wd (Qc (Cr (Qr (out2 rfl rfl rfl (fun u hu=>⟨[],trivial,by rw [Jrd hB],hu.sel [3,3] rfl⟩)))))
 exact absurd hc1 hB
theorem Jvu (fb:Nat) (w:World):Calls Tryz.prog 75 #[.pointer (some ⟨fb,0,none⟩)] w (RetB w (.tuple #[])):=by
 refine enter Tryz.func75 rfl rfl (Nat.le_of_ble_eq_true rfl) ?_
 exact Ck (out0 (Or.inr rfl) rfl retB)
section
variable {n0:Nat} {w0 u:World} {L:List SA} {a t z:SA}
theorem St.rest1 (h:St n0 w0 (a::L) u):St n0 w0 [a,Go.Proofs.YtbboikncaihafaaGreatDoor.star L] u:=by
 have h1:St n0 w0 (L++[a]) u:=h.perm (List.perm_append_comm (l₁:=[a]))
 exact h1.pack.perm (List.Perm.swap _ _ _)
theorem St.unrest1 (h:St n0 w0 [a,Go.Proofs.YtbboikncaihafaaGreatDoor.star L] u):St n0 w0 (a::L) u:=by
 have h1:St n0 w0 (Go.Proofs.YtbboikncaihafaaGreatDoor.star L::[a]) u:=h.perm (List.Perm.swap _ _ _)
 exact h1.unpack.perm List.perm_append_comm
theorem St.unrest3 (h:St n0 w0 [t,a,z,Go.Proofs.YtbboikncaihafaaGreatDoor.star L] u):St n0 w0 (t::a::z::L) u:=by
 have h1:St n0 w0 (Go.Proofs.YtbboikncaihafaaGreatDoor.star L::[t,a,z]) u:=h.perm (List.perm_append_comm (l₁:=[t,a,z]) (l₂:=[Go.Proofs.YtbboikncaihafaaGreatDoor.star L]))
 exact h1.unpack.perm List.perm_append_comm
end
theorem Jln {w u:World} (Z:List (List Int)→SA) (G:Game) (hG:GameOk w G) (hn:NearG G) (g:Sl ByteArray) (hW:GOk w g) (l:Sl Entr) (hk:SlT cEntry w l) (fn:FuncId) (cap:List Value) (hent:Ent Tryz.prog fn) (hmv:∀ (R:SA) (fb:Nat) (acc:List (List Int)) (y:Pos) (f:Film) (u:World),y.x=f.x→posG G.p f.x=0→acc.length≤1000→St w.heap.size w [blk fb [G.rm.pls.v,G.rm.ths.v,G.rm.prs.v,G.rm.wys.v,G.rm.acs.v,G.rm.aus.v,.int .i64 G.rm.ply,G.rm.gl.v,G.lks.v,G.cds.v,G.nts.v,.int .i64 G.tr,y.st.ths.v,y.st.prs.v,y.st.pls.v,y.rd.v,.bool f.st,.int .i64 f.si,.int .i64 f.pa,.int .i64 f.en,.int .i64 f.hi] 166,roS fun u=>PosOk u y,Z acc,R] u→Calls Tryz.prog fn (.pointer (some ⟨fb,0,none⟩)::cap).toArray u (fun e u'=>e = .returned (.tuple #[])∧St w.heap.size w [blk fb [G.rm.pls.v,G.rm.ths.v,G.rm.prs.v,G.rm.wys.v,G.rm.acs.v,G.rm.aus.v,.int .i64 G.rm.ply,G.rm.gl.v,G.lks.v,G.cds.v,G.nts.v,.int .i64 G.tr,y.st.ths.v,y.st.prs.v,y.st.pls.v,y.rd.v,.bool f.st,.int .i64 f.si,.int .i64 f.pa,.int .i64 f.en,.int .i64 f.hi] 166,roS fun u=>PosOk u y,Z (acc++[f.x.1.1]),R] u')) (L:List SA) (hE:(Jae G.p l.l).1=0) (hu:St w.heap.size w (Z []::L) u):Calls Tryz.prog 74 #[.agg #[G.rm.pls.v,G.rm.ths.v,G.rm.prs.v,G.rm.wys.v,G.rm.acs.v,G.rm.aus.v,.int .i64 G.rm.ply,G.rm.gl.v,G.lks.v,G.cds.v,G.nts.v,.int .i64 G.tr],l.v,.func (.func fn) #[] cap.toArray] u (fun e u'=>∃ x:Nat × Pos,(x.2.x=(Jae G.p l.l).2.2.x∧∃ u0,PosOk u0 x.2)∧e = .returned (.tuple #[.pointer (some ⟨x.1,0,none⟩),.int .i64 0])∧St w.heap.size w (blk x.1 [G.rm.pls.v,G.rm.ths.v,G.rm.prs.v,G.rm.wys.v,G.rm.acs.v,G.rm.aus.v,.int .i64 G.rm.ply,G.rm.gl.v,G.lks.v,G.cds.v,G.nts.v,.int .i64 G.tr,x.2.st.ths.v,x.2.st.prs.v,x.2.st.pls.v,x.2.rd.v,.bool (Jae G.p l.l).2.2.st,.int .i64 (Jae G.p l.l).2.2.si,.int .i64 (Jae G.p l.l).2.2.pa,.int .i64 (Jae G.p l.l).2.2.en,.int .i64 (Jae G.p l.l).2.2.hi] 166::(roS fun u=>PosOk u x.2)::Z (Jdz G.p l.l (Jaz G.p))::L) u'):=by
 refine Calls.mono (Jzk Z (Go.Proofs.YtbboikncaihafaaGreatDoor.star L) G hG hn g hW l hk fn cap hent hmv hE hu.rest1) ?_
 rintro e u' ⟨x,h1,h2,h3⟩
 exact ⟨x,h1,h2,h3.unrest3⟩
theorem Jlv {w u:World} (Z:List (List Int)→SA) (G:Game) (hG:GameOk w G) (hn:NearG G) (g:Sl ByteArray) (hW:GOk w g) (l:Sl Entr) (hk:SlT cEntry w l) (fn:FuncId) (cap:List Value) (hent:Ent Tryz.prog fn) (hmv:∀ (R:SA) (fb:Nat) (acc:List (List Int)) (y:Pos) (f:Film) (u:World),y.x=f.x→posG G.p f.x=0→acc.length≤1000→St w.heap.size w [blk fb [G.rm.pls.v,G.rm.ths.v,G.rm.prs.v,G.rm.wys.v,G.rm.acs.v,G.rm.aus.v,.int .i64 G.rm.ply,G.rm.gl.v,G.lks.v,G.cds.v,G.nts.v,.int .i64 G.tr,y.st.ths.v,y.st.prs.v,y.st.pls.v,y.rd.v,.bool f.st,.int .i64 f.si,.int .i64 f.pa,.int .i64 f.en,.int .i64 f.hi] 166,roS fun u=>PosOk u y,Z acc,R] u→Calls Tryz.prog fn (.pointer (some ⟨fb,0,none⟩)::cap).toArray u (fun e u'=>e = .returned (.tuple #[])∧St w.heap.size w [blk fb [G.rm.pls.v,G.rm.ths.v,G.rm.prs.v,G.rm.wys.v,G.rm.acs.v,G.rm.aus.v,.int .i64 G.rm.ply,G.rm.gl.v,G.lks.v,G.cds.v,G.nts.v,.int .i64 G.tr,y.st.ths.v,y.st.prs.v,y.st.pls.v,y.rd.v,.bool f.st,.int .i64 f.si,.int .i64 f.pa,.int .i64 f.en,.int .i64 f.hi] 166,roS fun u=>PosOk u y,Z (acc++[f.x.1.1]),R] u')) (L:List SA) (hE:¬ (Jae G.p l.l).1=0) (hu:St w.heap.size w (Z []::L) u):Calls Tryz.prog 74 #[.agg #[G.rm.pls.v,G.rm.ths.v,G.rm.prs.v,G.rm.wys.v,G.rm.acs.v,G.rm.aus.v,.int .i64 G.rm.ply,G.rm.gl.v,G.lks.v,G.cds.v,G.nts.v,.int .i64 G.tr],l.v,.func (.func fn) #[] cap.toArray] u (fun e u'=>∃ acc:List (List Int),True∧e = .returned (.tuple #[.pointer none,.int .i64 (Jae G.p l.l).1])∧St w.heap.size w (Z acc::L) u'):=by
 by_cases hB:(Jag G.p).1=0
 ·
  refine Calls.mono (Ju9 Z (Go.Proofs.YtbboikncaihafaaGreatDoor.star L) G hG hn g hW l hk fn cap hent hmv hE hB hu.rest1) ?_
  rintro e u' ⟨x,h1,h2,h3⟩
  exact ⟨x,h1,h2,h3.unrest1⟩
 refine Calls.mono (Jt0 Z (Go.Proofs.YtbboikncaihafaaGreatDoor.star L) G hG hn g hW l hk fn cap hent hmv hB hu.rest1) ?_
 rintro e u' ⟨x,h1,h2,h3⟩
 exact ⟨x,h1,h2,h3.unrest1⟩
theorem Jmf {w u:World} (L:List SA) (G:Game) (hG:GameOk w G) (hn:NearG G) (g:Sl ByteArray) (hW:GOk w g) (l:Sl Entr) (hk:SlT cEntry w l) (hE:(Jae G.p l.l).1=0) (hu:St w.heap.size w (Go.Proofs.YtbboikncaihafaaGreatDoor.osl 0 1 (.slice none 0 0) 0 []::L) u):Calls Tryz.prog 74 #[.agg #[G.rm.pls.v,G.rm.ths.v,G.rm.prs.v,G.rm.wys.v,G.rm.acs.v,G.rm.aus.v,.int .i64 G.rm.ply,G.rm.gl.v,G.lks.v,G.cds.v,G.nts.v,.int .i64 G.tr],l.v,.func (.func 75) #[] #[]] u (fun e u'=>∃ x:Nat × Pos,(x.2.x=(Jae G.p l.l).2.2.x∧∃ u0,PosOk u0 x.2)∧e = .returned (.tuple #[.pointer (some ⟨x.1,0,none⟩),.int .i64 0])∧St w.heap.size w (blk x.1 [G.rm.pls.v,G.rm.ths.v,G.rm.prs.v,G.rm.wys.v,G.rm.acs.v,G.rm.aus.v,.int .i64 G.rm.ply,G.rm.gl.v,G.lks.v,G.cds.v,G.nts.v,.int .i64 G.tr,x.2.st.ths.v,x.2.st.prs.v,x.2.st.pls.v,x.2.rd.v,.bool (Jae G.p l.l).2.2.st,.int .i64 (Jae G.p l.l).2.2.si,.int .i64 (Jae G.p l.l).2.2.pa,.int .i64 (Jae G.p l.l).2.2.en,.int .i64 (Jae G.p l.l).2.2.hi] 166::(roS fun u=>PosOk u x.2)::Go.Proofs.YtbboikncaihafaaGreatDoor.osl 0 1 (.slice none 0 0) 0 []::L) u') :=
 Jln (fun _=>Go.Proofs.YtbboikncaihafaaGreatDoor.osl 0 1 (.slice none 0 0) 0 []) G hG hn g hW l hk 75 [] Kbe (fun R fb acc y f u hyx hq hac hu=>Calls.mono (Jvu fb u) fun e u2 h=>⟨h.1,hu.ext h.2⟩) L hE hu
theorem Jm8 {w u:World} (L:List SA) (G:Game) (hG:GameOk w G) (hn:NearG G) (g:Sl ByteArray) (hW:GOk w g) (l:Sl Entr) (hk:SlT cEntry w l) (hE:¬ (Jae G.p l.l).1=0) (hu:St w.heap.size w (Go.Proofs.YtbboikncaihafaaGreatDoor.osl 0 1 (.slice none 0 0) 0 []::L) u):Calls Tryz.prog 74 #[.agg #[G.rm.pls.v,G.rm.ths.v,G.rm.prs.v,G.rm.wys.v,G.rm.acs.v,G.rm.aus.v,.int .i64 G.rm.ply,G.rm.gl.v,G.lks.v,G.cds.v,G.nts.v,.int .i64 G.tr],l.v,.func (.func 75) #[] #[]] u (fun e u'=>∃ acc:List (List Int),True∧e = .returned (.tuple #[.pointer none,.int .i64 (Jae G.p l.l).1])∧St w.heap.size w (Go.Proofs.YtbboikncaihafaaGreatDoor.osl 0 1 (.slice none 0 0) 0 []::L) u') :=
 Jlv (fun _=>Go.Proofs.YtbboikncaihafaaGreatDoor.osl 0 1 (.slice none 0 0) 0 []) G hG hn g hW l hk 75 [] Kbe (fun R fb acc y f u hyx hq hac hu=>Calls.mono (Jvu fb u) fun e u2 h=>⟨h.1,hu.ext h.2⟩) L hE hu
section
variable {P:Program} {ro:Option Nat} {n0:Nat} {w0:World} {ds:List Deferred} {ops:Array Oper} {Q:Exit→Act→World→Prop} {L:List SA} {rest:List Oper} {l:List Value}
theorem WS.ex {β:Type} {f:β→SA} (k:∀ b,WS P ro n0 w0 ds ops Q (f b::L) rest l):WS P ro n0 w0 ds ops Q (exS f::L) rest l:=fun u hu=>let ⟨b,hb⟩:=hu.ex; k b u hb
theorem WS.factE {p:Prop} {j:Nat} (hj:L[j]? = some (fact p)) (kk:p→WS P ro n0 w0 ds ops Q L rest l):WS P ro n0 w0 ds ops Q L rest l:=fun u hu=>kk (hu.factE hj) u hu
end
theorem Jum (G:Game) (w:World) (hG:GameOk w G) (hn:NearG G) (g:Sl ByteArray) (hW:GOk w g) (ms:Sl Timed) (hk:SlT cTimed w ms) (hml:ms.l.length≤1000) (hB:(Jag G.p).1=0) :
  Calls Tryz.prog 65 #[.agg #[G.rm.pls.v,G.rm.ths.v,G.rm.prs.v,G.rm.wys.v,G.rm.acs.v,G.rm.aus.v,.int .i64 G.rm.ply,G.rm.gl.v,G.lks.v,G.cds.v,G.nts.v,.int .i64 G.tr],ms.v] w (RetT cEntry w (Jbd G.p ms.l).2.2 fun v=>.tuple #[v,.int .i64 (Jbd G.p ms.l).2.1,.int .i64 (Jbd G.p ms.l).1]):=by
 have lls:=hk.le
 refine enter Tryz.func65 rfl rfl (Nat.le_of_ble_eq_true rfl) ?_
 refine Nz 0 ?_
 refine Wb 3 rfl rfl (fun _=>rfl) (fun _=>rfl) fun b2 hb2=>?_
 refine Wd (Qc (Nz 0 ?_))
 refine Wk 0 (Bb 0) ?_
 refine Wc rfl rfl Jmb (fun u hu=>Jgi G u (hG.st hu) hn g (hW.st hu) hB) (fun _=>rfl) ?_; rintro ⟨fb,y⟩ ⟨hyx,uy,hyok⟩
 refine WS.unpack ?_
 refine Wz 5 ?_
 refine Wd (Qc (Cs (Nz 2 ?_)))
 refine Wd (Qc (CS.cond rfl ?_ ?_))<;>intro hc1<;>try simp only [bq] at hc1
 ·
  exact absurd trivial hc1
 refine Ck (Qc (Nz 1 ?_))
 refine Wd (Qc (Cs (Nz 1 ?_)))
 refine Wk 1 Nc ?_
 refine Wd (Qc (Ce ?_))
 refine CS.weak (fun _ hu=>hu.osl0 (e:=84) (size:=7)) ?_
 refine CS.loopM (σ:=Int × Int × Pos × Value × List Entr) [5,6,9,10,11,12,13,25,26,27,28,29,30,31,32,33,34,35,36,37,38,39,40,41,42,43,44,45,46,47,48,49,50,51,52,53,54,55,56,57,58,59,60,61,62,63,64,65,66,67,68,69,70,71,72,73,74,75,76,77,78,79,80,81,82,83,84,85] (fun s=>[(24,.int .i64 s.1),(8,.int .i64 s.2.1),(4,s.2.2.2.1)]) (fun s=>[oT cEntry 84 s.2.2.2.1 s.2.2.2.2,blk fb [G.rm.pls.v,G.rm.ths.v,G.rm.prs.v,G.rm.wys.v,G.rm.acs.v,G.rm.aus.v,.int .i64 G.rm.ply,G.rm.gl.v,G.lks.v,G.cds.v,G.nts.v,.int .i64 G.tr,s.2.2.1.st.ths.v,s.2.2.1.st.prs.v,s.2.2.1.st.pls.v,s.2.2.1.rd.v,.bool ({ Jaz G.p with x:=s.2.2.1.x }:Film).st,.int .i64 ({ Jaz G.p with x:=s.2.2.1.x }:Film).si,.int .i64 ({ Jaz G.p with x:=s.2.2.1.x }:Film).pa,.int .i64 ({ Jaz G.p with x:=s.2.2.1.x }:Film).en,.int .i64 ({ Jaz G.p with x:=s.2.2.1.x }:Film).hi] 166,roS fun u=>PosOk u s.2.2.1,blk b2 [G.rm.pls.v,G.rm.ths.v,G.rm.prs.v,G.rm.wys.v,G.rm.acs.v,G.rm.aus.v,.int .i64 G.rm.ply,G.rm.gl.v,G.lks.v,G.cds.v,G.nts.v,.int .i64 G.tr] 36]) (fun s=>0≤s.1∧s.1≤ms.l.length∧(∃ u0,PosOk u0 s.2.2.1)∧posG G.p s.2.2.1.x=0∧(s.2.2.2.2.length:Int)≤16 * s.1∧True∧recF G.p ms.l 0 0 (Jag G.p).2 []=recF G.p (ms.l.drop s.1.toNat) s.1 s.2.1 s.2.2.1.x s.2.2.2.2) (fun s=>(ms.l.length - s.1).toNat) (0,0,y,.slice none 0 0,[]) (fun _ _=>rfl) rfl rfl ⟨by simp,by simp,⟨_,hyok⟩,by rw [hyx]; exact Je8 hB,by simp,trivial,by rw [hyx]; simp⟩ ?_
 intro a t hs
 obtain ⟨ha1,ha2,⟨ua,haok⟩,ha4,ha5,ha6,ha7⟩:=hs
 obtain ⟨haa,hab,hac⟩:=haok.st.ones
 have had:=Sl.one haok.rd
 have hnth:=hn.rm.ths
 have hahn:a.2.2.1.st.ths.l.length=G.rm.ths.l.length:=Jeu ha4
 refine Nz 1 ?_
 refine Wd (Qc (Cs (CS.cond rfl ?_ ?_)))<;>intro hc2<;>try simp only [bq] at hc2
 ·
  refine Ck (Qc (Cs (Ce (Nz 1 ?_))))
  refine Wk 0 Xc ?_
  refine Wk 0 Ua ?_
  refine Wl 1 J58 (fun _=>rfl) (fun _=>rfl) fun b10 hb10=>?_
  refine Wv 0 0 ?_
  refine Wd (Qc (Cs (Nz 1 ?_)))
  refine Wk 1 (Ba 0) ?_
  refine Wk 1 (Cb rfl rfl Jk7 (fun u hu=>Jc3 _ _ _ u)) ?_
  refine Wd (Qc (CS.cond rfl ?_ ?_))<;>intro hc3<;>try simp only [bq] at hc3
  ·
   have hTn:¬ (a.2.1≤(nth ms.l a.1).t∧(nth ms.l a.1).t≤1000000):=by have h9:=hc3; first | omega | (simp at h9; omega)
   refine Nz 4 ?_
   refine Wd (Qc (Cr (Qr (Qs (Qr (Qr (Qs (Qr ?_))))))))
   exact out3 rfl rfl rfl rfl (by
     have hv:(Jbd G.p ms.l)=(1,a.1,[]):=Jrz hB (by decide) (by rw [ha7,Jat ha1 (by omega),Jyj hTn])
     rw [hv]
     exact fun u hu=>Jgv (C:=cEntry) (f:=fun v=>.tuple #[v,.int .i64 a.1,.int .i64 1]) hu)
  have hTy:a.2.1≤(nth ms.l a.1).t∧(nth ms.l a.1).t≤1000000:=by have h9:=hc3; first | omega | (simp at h9; omega)
  refine Ck (Qc (Nz 1 ?_))
  refine Wk 1 (Ba 0) ?_
  refine Wd (Qc (Nz 5 ?_))
  refine Wk 0 (Ba 2) ?_
  refine Wc rfl rfl Jhy (fun u hu=>Jck _ _ u ((hu.ro (j:=3) rfl).st.ths.ints) (by show a.2.2.1.st.ths.l.length≤1000000; omega)) (fun _=>rfl) ?_; intro v43 hv43
  refine Wz 1 ?_
  refine Wd (Qc (Cs (Nz 2 ?_)))
  refine Wk 0 (Bc 1) ?_
  refine WS.callS rfl rfl J37 (fun u hu=>Jtk [_,_,_] [_] G hG hn g hW fb a.2.2.1 ({ Jaz G.p with x:=a.2.2.1.x }) rfl ha4 (nth ms.l a.1).m hu) (fun _=>rfl) ?_; rintro z ⟨hzx,uz,hzok⟩
  obtain ⟨hza,hzb,hzc⟩:=hzok.st.ones
  have hzd:=Sl.one hzok.rd
  dsimp only at hzx
  refine Wz 1 ?_
  refine Wd (Qc (CS.cond rfl ?_ ?_))<;>intro hc4<;>try simp only [bq] at hc4
  ·
   have hSn:¬ (Jan G.p a.2.2.1.x (nth ms.l a.1).m).1=0:=by first | exact hc4 | simpa using hc4
   refine Nz 4 ?_
   refine Wd (Qc (Cr (Qr (Qs (Qr (Qr (Qs (Qr ?_))))))))
   exact out3 rfl rfl rfl rfl (by
     have hv:(Jbd G.p ms.l)=(29,a.1,[]):=Jrz hB (by decide) (by rw [ha7,Jat ha1 (by omega),Jvz hTy hSn])
     rw [hv]
     exact fun u hu=>Jgv (C:=cEntry) (f:=fun v=>.tuple #[v,.int .i64 a.1,.int .i64 29]) hu)
  have hS:(Jan G.p a.2.2.1.x (nth ms.l a.1).m).1=0:=by first | exact hc4 | simpa using hc4
  rw [if_pos hS] at hzx
  have hgd:=Jhq (p:=Jmh a.2.2.1.x) hS
  have hzq:posG G.p z.x=0:=by rw [hzx]; exact hgd.2.2
  have hzn:z.st.ths.l.length=G.rm.ths.l.length:=Jeu hzq
  have hzl:z.st.ths.l=(Jan G.p a.2.2.1.x (nth ms.l a.1).m).2.1.1:=by rw [← hzx]; rfl
  refine Ck (Qc (Nz 2 ?_))
  refine Wk 1 (Ba 1) ?_
  refine Wk 0 (Bc 1) ?_
  refine Wk 0 (Jav Jk9 zv84 (pcs:=[(0,[.int .i64 (nth ms.l a.1).t]),(1,[.int .i64 1]),(2,[.int .i64 (nth ms.l a.1).m.p,.int .i64 (nth ms.l a.1).m.k,.int .i64 (nth ms.l a.1).m.n])]) rfl (CellsOf.one rfl (CellsOf.one rfl (CellsOf.agg CellsOf.nil))) rfl) ?_
  refine WS.buildT1 cEntry (a:=(⟨(nth ms.l a.1).t,1,(nth ms.l a.1).m,0,0⟩:Entr)) sl67 zv84 rfl (by decide) (fun _=>rfl) ?_; intro v56
  refine WS.appendT1 (C:=cEntry) (a:=(⟨(nth ms.l a.1).t,1,(nth ms.l a.1).m,0,0⟩:Entr)) (j:=3) (jz:=0) sl67 zv84 rfl (by decide) rfl rfl rfl rfl (w:=w) trivial (by omega) (by omega) (fun _=>rfl) (fun _=>rfl) ?_; intro v57 hv57
  refine Wz 1 ?_
  refine Wd (Qc (Nz 5 ?_))
  refine Wk 0 (Ba 4) ?_
  refine Wk 1 (Jay (s:=z.st.ths) sl42 rfl hzok.st.ths) ?_
  refine Wd (Qc (Ce ?_))
  refine CS.sel [3,1,1,1,1,1] rfl ?_
  refine CS.loopM (σ:=Int × Value) [12,13,66,67,68,69,70,71,72,73,74,75,76,77,78,79,80,81,82,83,84] (fun s=>[(65,.int .i64 s.1),(4,s.2)]) (fun s=>[oT cEntry 84 s.2 (a.2.2.2.2++⟨(nth ms.l a.1).t,1,(nth ms.l a.1).m,0,0⟩::Jex (nth ms.l a.1).t a.2.2.1.x.1.1 (Jan G.p a.2.2.1.x (nth ms.l a.1).m).2.1.1 s.1),oints 3 v43 a.2.2.1.st.ths.l,blk b10 (cTimed.cells (nth ms.l a.1)) 142,blk fb [G.rm.pls.v,G.rm.ths.v,G.rm.prs.v,G.rm.wys.v,G.rm.acs.v,G.rm.aus.v,.int .i64 G.rm.ply,G.rm.gl.v,G.lks.v,G.cds.v,G.nts.v,.int .i64 G.tr,z.st.ths.v,z.st.prs.v,z.st.pls.v,z.rd.v,.bool ({ Jaz G.p with x:=z.x }:Film).st,.int .i64 ({ Jaz G.p with x:=z.x }:Film).si,.int .i64 ({ Jaz G.p with x:=z.x }:Film).pa,.int .i64 ({ Jaz G.p with x:=z.x }:Film).en,.int .i64 ({ Jaz G.p with x:=z.x }:Film).hi] 166,roS fun u=>PosOk u z,blk b2 [G.rm.pls.v,G.rm.ths.v,G.rm.prs.v,G.rm.wys.v,G.rm.acs.v,G.rm.aus.v,.int .i64 G.rm.ply,G.rm.gl.v,G.lks.v,G.cds.v,G.nts.v,.int .i64 G.tr] 36]) (fun s=>0≤s.1∧s.1≤z.st.ths.l.length) (fun s=>(z.st.ths.l.length - s.1).toNat) (0,v57) (fun _ _=>rfl) rfl rfl ⟨by simp,by simp⟩ ?_
  intro q t hs
  obtain ⟨hq1,hq2⟩:=hs
  refine Nz 1 ?_
  refine Wd (Qc (Cs (CS.cond rfl ?_ ?_)))<;>intro hc5<;>try simp only [bq] at hc5
  ·
   have hql:q.1 < (z.st.ths.l.length:Int):=by first | exact hc5 | simpa using hc5
   have hsl:=Jlk (t:=(nth ms.l a.1).t) (old:=a.2.2.1.x.1.1) (new:=(Jan G.p a.2.2.1.x (nth ms.l a.1).m).2.1.1) (k:=q.1)
   have hcl:(a.2.2.2.2++⟨(nth ms.l a.1).t,1,(nth ms.l a.1).m,0,0⟩::Jex (nth ms.l a.1).t a.2.2.1.x.1.1 (Jan G.p a.2.2.1.x (nth ms.l a.1).m).2.1.1 q.1).length=a.2.2.2.2.length+1+(Jex (nth ms.l a.1).t a.2.2.1.x.1.1 (Jan G.p a.2.2.1.x (nth ms.l a.1).m).2.1.1 q.1).length:=by simp; omega
   refine Ck (Qc (Cs (Ce (Nz 1 ?_))))
   refine Wk 0 (Jd6 (s:=z.st.ths) sl42 rfl rfl hzok.st.ths rfl (by omega) (by omega)) ?_
   refine Wk 2 (Jnc 4 (s:=z.st.ths) rfl (fun _ h ↦ h.st.ths) rfl rfl ⟨by omega,by omega⟩ rfl tk3) ?_
   refine Wd (Qc (Nz 3 ?_))
   refine Wk 0 (Xb 1) ?_
   refine Wk 1 (Jsw (j:=1) rfl rfl ⟨by omega,by omega⟩ tk3) ?_
   refine Wd (Qc (CS.cond rfl ?_ ?_))<;>intro hc6<;>try simp only [bq] at hc6
   ·
    have hne:¬ nth (Jan G.p a.2.2.1.x (nth ms.l a.1).m).2.1.1 q.1=nth a.2.2.1.x.1.1 q.1:=by rw [← hzl]; first | exact hc6 | simpa using hc6
    refine Ny 2 ?_
    refine Wk 2 (Ba 2) ?_
    refine Wk 0 (Jav Jk9 zv84 (pcs:=[(0,[.int .i64 (nth ms.l a.1).t]),(1,[.int .i64 5]),(3,[.int .i64 q.1]),(4,[.int .i64 (nth z.st.ths.l q.1)])]) rfl (CellsOf.one rfl (CellsOf.one rfl (CellsOf.one rfl (CellsOf.one rfl CellsOf.nil)))) rfl) ?_
    refine WS.buildT1 cEntry (a:=⟨(nth ms.l a.1).t,5,mv0,q.1,nth z.st.ths.l q.1⟩) sl67 zv84 rfl (by decide) (fun _=>rfl) ?_; intro v82
    refine WS.appendT1 (C:=cEntry) (a:=⟨(nth ms.l a.1).t,5,mv0,q.1,nth z.st.ths.l q.1⟩) (j:=1) (jz:=0) sl67 zv84 rfl (by decide) rfl rfl rfl rfl (w:=w) trivial (by omega) (by omega) (fun _=>rfl) (fun _=>rfl) ?_; intro v83 hv83
    refine Wz 1 ?_
    refine Wd (Qb (Qc (Ny 0 ?_)))
    refine Wk 1 Za ?_
    refine Wd ?_
    refine QS.sel [1,1,1,1,1,1] rfl ?_
    exact QS.head ((q.1+1,v83)) rfl (by first | simp only [← Jlt hq1 hne,hzl,List.append_assoc,List.cons_append,List.nil_append] | simp only [← Jod hq1 heq]) ⟨⟨by simp; omega,by simp; omega⟩,by simp; omega⟩
   have heq:nth (Jan G.p a.2.2.1.x (nth ms.l a.1).m).2.1.1 q.1=nth a.2.2.1.x.1.1 q.1:=by rw [← hzl]; first | exact hc6 | simpa using hc6
   refine Ck (Qb (Qc (Ny 0 ?_)))
   refine Wk 1 Za ?_
   exact Wd (QS.head ((q.1+1,q.2)) rfl (by first | simp only [← Jlt hq1 hne,hzl,List.append_assoc,List.cons_append,List.nil_append] | simp only [← Jod hq1 heq]) ⟨⟨by simp; omega,by simp; omega⟩,by simp; omega⟩)
  have hqe:q.1=(Jan G.p a.2.2.1.x (nth ms.l a.1).m).2.1.1.length:=by rw [← hzl]; omega
  have hsl:=Jlk (t:=(nth ms.l a.1).t) (old:=a.2.2.1.x.1.1) (new:=(Jan G.p a.2.2.1.x (nth ms.l a.1).m).2.1.1) (k:=q.1)
  rw [← hzl] at hqe
  have hse:=Jvd (t:=(nth ms.l a.1).t) (old:=a.2.2.1.x.1.1) (new:=(Jan G.p a.2.2.1.x (nth ms.l a.1).m).2.1.1) (k:=q.1) (by rw [← hzl]; exact hqe)
  refine Cv (Qe (Qe (Qx (Qb (Qc (Ny 0 ?_))))))
  refine Wk 1 Za ?_
  refine Wd ?_
  refine QS.sel [0,2,2,2] rfl ?_
  exact QS.head ((a.1+1,(nth ms.l a.1).t,z,q.2,(a.2.2.2.2++⟨(nth ms.l a.1).t,1,(nth ms.l a.1).m,0,0⟩::Jex (nth ms.l a.1).t a.2.2.1.x.1.1 (Jan G.p a.2.2.1.x (nth ms.l a.1).m).2.1.1 q.1))) rfl rfl ⟨⟨by simp; omega,by simp; omega,⟨_,hzok⟩,hzq,by simp; omega,trivial,by rw [ha7,Jat ha1 (by omega),Jrt hTy hS,hse, ← hzx]⟩,by simp; omega⟩
 have hrn:recF G.p ms.l 0 0 (Jag G.p).2 []=(0,0,a.2.2.2.2,a.2.2.1.x):=by rw [ha7,List.drop_of_length_le (by omega),recF]
 refine Cv (Qe (Qe (Qx (Qc (Cs (Nz 1 ?_))))))
 refine Wk 1 (Jds (j:=0) sl67 rfl rfl) ?_
 refine Wd (Qc (CS.cond rfl ?_ ?_))<;>intro hc7<;>try simp only [bq] at hc7
 ·
  refine Nz 3 ?_
  refine Wd (Qc (Cr (Qr ?_)))
  exact out3 rfl rfl rfl rfl (by
    have hv:(Jbd G.p ms.l)=(2,0,[]):=J1a hB hrn (by omega)
    rw [hv]
    exact fun u hu=>Jgv (C:=cEntry) (f:=fun v=>.tuple #[v,.int .i64 0,.int .i64 2]) hu)
 refine Ck (Qc (Nz 4 ?_))
 refine Wd (Qc (Cr ?_))
 exact out3 rfl rfl rfl rfl (by
   have hv:(Jbd G.p ms.l)=(0,0,a.2.2.2.2):=Jrk hB hrn (by omega)
   rw [hv]
   exact fun u hu=>retT (C:=cEntry) (f:=fun v=>.tuple #[v,.int .i64 0,.int .i64 0]) (j:=0) (fun _ _ _=>trivial) rfl hu)
theorem Jua (G:Game) (w:World) (hG:GameOk w G) (hn:NearG G) (g:Sl ByteArray) (hW:GOk w g) (ms:Sl Timed) (hk:SlT cTimed w ms) (hml:ms.l.length≤1000) (hB:¬ (Jag G.p).1=0) :
  Calls Tryz.prog 65 #[.agg #[G.rm.pls.v,G.rm.ths.v,G.rm.prs.v,G.rm.wys.v,G.rm.acs.v,G.rm.aus.v,.int .i64 G.rm.ply,G.rm.gl.v,G.lks.v,G.cds.v,G.nts.v,.int .i64 G.tr],ms.v] w (RetT cEntry w (Jbd G.p ms.l).2.2 fun v=>.tuple #[v,.int .i64 (Jbd G.p ms.l).2.1,.int .i64 (Jbd G.p ms.l).1]):=by
 refine enter Tryz.func65 rfl rfl (Nat.le_of_ble_eq_true rfl) ?_
 refine Nz 0 ?_
 refine Wb 3 rfl rfl (fun _=>rfl) (fun _=>rfl) fun b2 hb2=>?_
 refine Wd (Qc (Nz 0 ?_))
 refine Wk 0 (Bb 0) ?_
 refine Wk 5 (Cb rfl rfl Jmb (fun u hu=>Jhu G u (hG.st hu) hn g (hW.st hu) hB)) ?_
 refine Wd (Qc (Cs (Nz 2 ?_)))
 refine Wd (Qc (CS.cond rfl ?_ ?_))<;>intro hc1<;>try simp only [bq] at hc1
 ·
  refine Nz 4 ?_
  refine Wd (Qc (Cr (Qr ?_)))
  exact out3 rfl rfl rfl rfl (by
    have hv:(Jbd G.p ms.l)=((Jag G.p).1,0,[]):=J0v hB
    rw [hv]
    exact fun u hu=>Jgv (C:=cEntry) (f:=fun v=>.tuple #[v,.int .i64 0,.int .i64 (Jag G.p).1]) hu)
 exact absurd hc1 hB
theorem Jyy (G:Game) (w:World) (hG:GameOk w G) (hn:NearG G) (g:Sl ByteArray) (hW:GOk w g) (ms:Sl Timed) (hk:SlT cTimed w ms) (hml:ms.l.length≤1000) :
  Calls Tryz.prog 65 #[.agg #[G.rm.pls.v,G.rm.ths.v,G.rm.prs.v,G.rm.wys.v,G.rm.acs.v,G.rm.aus.v,.int .i64 G.rm.ply,G.rm.gl.v,G.lks.v,G.cds.v,G.nts.v,.int .i64 G.tr],ms.v] w (RetT cEntry w (Jbd G.p ms.l).2.2 fun v=>.tuple #[v,.int .i64 (Jbd G.p ms.l).2.1,.int .i64 (Jbd G.p ms.l).1]):=by
 by_cases hB:(Jag G.p).1=0
 ·
  exact Jum G w hG hn g hW ms hk hml hB
 exact Jua G w hG hn g hW ms hk hml hB
theorem Jw3:(Jan exG.p (([0,0],[0],[0]),[true,true,false]) ⟨0,4,0⟩).1=0∧(Jan exG.p (([0,0],[0],[0]),[true,true,false]) ⟨0,4,0⟩).2.1.1=[1,0]:=by
 unfold Jan
 rw [Kae,if_pos rfl]
 exact ⟨by kernel_rfl,by kernel_rfl⟩
def Jp0:List Entr:=[⟨5,1,⟨0,4,0⟩,0,0⟩,⟨5,5,mv0,0,1⟩]
theorem Kcg:Jbd exG.p [⟨5,⟨0,4,0⟩⟩]=(0,0,Jp0):=by
 have hB:(Jag exG.p).1=0:=by rw [Js5]
 have hx:(Jag exG.p).2=(([0,0],[0],[0]),[true,true,false]):=by rw [Js5]
 refine Jrk hB (o:=Jp0) (x:=(Jan exG.p (([0,0],[0],[0]),[true,true,false]) ⟨0,4,0⟩).2) ?_ (by decide)
 rw [hx,Jrt ⟨by decide,by decide⟩ Jw3.1,recF]
 show (0,0,[]++(⟨5,1,⟨0,4,0⟩,0,0⟩:Entr)::Jtq 5 [0,0] (Jan exG.p (([0,0],[0],[0]),[true,true,false]) ⟨0,4,0⟩).2.1.1,_)=_
 rw [Jw3.2]; rfl
theorem Jcn (w:World) (g:Sl ByteArray) (hW:GOk w g):Calls Tryz.prog 21 #[] w (RetB w (.bool true)):=by
 refine enter Tryz.func21 rfl rfl (Nat.le_of_ble_eq_true rfl) ?_
 refine Nz 1 ?_
 refine Wd (Qc (Nz 0 ?_))
 refine Wc rfl rfl Kcx (fun u hu=>Juq u) (fun _=>rfl) ?_; rintro c ⟨hcp,uc,hcok⟩
 have hnc:=Jpn hcp J69
 have o1:=Sl.one hcok.rm.pls
 have o2:=Sl.one hcok.rm.ths
 have o3:=Sl.one hcok.rm.prs
 have o4:=Sl.one hcok.rm.wys
 have o5:=Sl.one hcok.rm.acs
 have o6:=Sl.one hcok.rm.aus
 have o7:=Sl.one hcok.rm.gl
 have o8:=Sl.one hcok.lks
 have o9:=Sl.one hcok.cds
 have o10:=Sl.one hcok.nts
 refine Wk 0 (Db J1t zv54) ?_
 refine Wk 0 (Jav J84 J58 (pcs:=[(0,[.int .i64 5]),(1,[.int .i64 0,.int .i64 4,.int .i64 0])]) rfl (CellsOf.one rfl (CellsOf.agg CellsOf.nil)) rfl) ?_
 refine WS.buildT1 cTimed (a:=⟨5,⟨0,4,0⟩⟩) Kdb J58 rfl (by decide) (fun _=>rfl) ?_; intro v8
 refine Wc rfl rfl Kc7 (fun u hu=>(by have q:=Jyy c u (hu.ro (j:=1) rfl) hnc g (hW.st hu) ⟨v8,[⟨5,⟨0,4,0⟩⟩]⟩ ⟨Jbx hu (j:=0) rfl,fun _ _ ↦ trivial⟩ (by show (1:Nat)≤1000; decide); rw [hcp,Kcg] at q; exact q)) (fun _=>rfl) ?_; rintro v9 ⟨u9,h9⟩
 refine Wz 7 ?_
 refine Wd (Qc (Nz 3 ?_))
 refine Wt 0 rfl rfl (fun hg=>Fm) ?_
 refine Wt 0 rfl rfl (fun hg=>Nc (s:=⟨v9,Jp0⟩) (eg_ hg rfl)) ?_
 refine Wt 0 rfl rfl (fun hg=>Fq) ?_
 refine Wk 1 Pa ?_
 refine Wt 0 rfl rfl (fun hg=>Fm) ?_
 refine Wt 0 rfl rfl (fun hg=>Jd6 (s:=⟨v9,Jp0⟩) (i:=1) sl67 (eg_ hg rfl) rfl h9 rfl (by decide) (by show (1:Int) < 2; decide)) ?_
 refine Wt 0 rfl rfl (fun hg=>Jjn (jj:=0) (s:=⟨v9,Jp0⟩) (i:=1) rfl (eg_ hg rfl) rfl ⟨by decide,by show (1:Int) < 2; decide⟩ rfl tk84) ?_
 refine Wt 0 rfl rfl (fun hg=>Db Jk9 zv84) ?_
 refine Wt 0 rfl rfl (fun hg=>Jgo Jfi (eg_ hg rfl) (eg_ hg rfl) (Jde (nth Jp0 1) ⟨5,5,mv0,0,1⟩)) ?_
 refine Wk 1 Pa ?_
 exact Wd (Qc (Cr (out1 rfl rfl (Jab (by first | rfl | simp [Jp0])))))
end Go.Proofs.YtbboikncaihafaaGreatDoor
